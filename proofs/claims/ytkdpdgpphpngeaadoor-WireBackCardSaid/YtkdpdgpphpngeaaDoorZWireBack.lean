import Derived.Test.YtkdpdgpphpngeaaDoorRows
import Derived.Test.YtkdpdgpphpngeaaDoorCards
import Derived.Test.YtkdpdgpphpngeaaDoorTie
import Derived.WalkKit
import Derived.ProofKit
import Derived.LaidMore
import Derived.OpenShut
import Derived.ShutString
import Derived.ChangeOld
import Derived.Below
import Derived.Stop.Joined
import Derived.SevenTiedAt
import Derived.Test.YtkdpdgpphpngeaaDoorPkB7
namespace Go.Proofs.YtkdpdgpphpngeaaDoor.wireBack
open Go Go.Sx
open Go.ChangeShapes Go.WideShapes Go.ChangeAt Go.RowKit
open Go.ChangeMaps (open_string shut_string)
set_option linter.unusedVariables false
theorem own : ownKnob Tryd.prog.godebug = none := by kernel_rfl
theorem laidOut : laidOutB Tryd.prog = true := kLaidOut
theorem door_met (os : Os) (args : Array Value) : laidMetH Tryd.prog Rows.wireBackRow.laid ((World.doorLaid Tryd.prog 400 os).forCall (fun _ _ => 0) ⟨#[], args, []⟩).memory :=
  laidMetH_of_parts3 (fuel := 8) (laidMet_of_run' 8 (by kernel_rfl) (by kernel_rfl)) (by kernel_rfl) (by kernel_rfl)
theorem tabW {W : World} (h : laidMetH Tryd.prog Rows.wireBackRow.laid W) : GLw W :=
  (laid_rdS h (by kernel_rfl) (name := "entrust/wire.words") (d := Rows.laid_entrust_wire_words) (List.mem_of_getElem? (i := 0) rfl) [[], [114, 101, 97, 100], [115, 112, 97, 110], [99, 104, 97, 110, 103, 101], [99, 104, 97, 105, 110], [102, 111, 114, 103, 101, 116]] (by kernel_rfl) (g := 0) (t := 217) (e := 9) (by kernel_rfl) (by kernel_rfl) Tryd.underlying217 Tryd.underlying9 (by kernel_rfl) (by kernel_rfl) (by decide))
set_option maxRecDepth 100000 in
theorem lifted (os : Os) (started : os.Started) (H : Type) (enc : TypeId × Value → H) :
    ReturnsInHanded {} Tryd.checked os 15 .any (fun w args => (Rows.wireBackSpec.pre enc Tryd.prog Tryd.f15 [] false w args ∧ laidMetH Tryd.prog Rows.wireBackRow.laid w) ∧ sizedMet enc Tryd.prog Tryd.f15 (OpenSpec.ofChange Rows.wireBackSpec) false w args)
      (Rows.wireBackSpec.post enc Tryd.prog Tryd.f15 false true false false) := by
  refine returnsInHanded_of_change_and (C := Tryd.checked) (X := fun w _ => laidMetH Tryd.prog Rows.wireBackRow.laid w) (fun _ _ _ hh h => h.of_heap hh) own started (by kernel_rfl) Tryd.func15
    (ChangeSpec.witness_shaped (enc := enc) (C := Tryd.checked) (os := os) (X := fun w _ => laidMetH Tryd.prog Rows.wireBackRow.laid w) false (World.doorLaid Tryd.prog 400 os) #[.agg #[.int .u64 0, .int .i64 0, .slice none 0 0, .int .u64 0, .int .i64 0, .int .u64 0, .int .u64 0, .int .i64 0, .slice none 0 0, .slice none 0 0, .int .u64 0, .int .u8 0, .int .u8 0, .int .u8 0, .int .u8 0, .int .u8 0, .int .u8 0, .int .u8 0, .int .u8 0, .int .u8 0, .int .u8 0, .int .u8 0, .int .u8 0, .int .u8 0, .int .u8 0, .int .u8 0, .int .u8 0, .int .u64 0], .agg #[.int .u64 0, .int .i64 0, .int .i64 0, .slice none 0 0, .bool false, .int .u64 0, .int .u64 0, .int .i64 0, .slice none 0 0, .slice none 0 0, .int .u64 0, .int .u8 0, .int .u8 0, .int .u8 0, .int .u8 0, .int .u8 0, .int .u8 0, .int .u8 0, .int .u8 0, .int .u8 0, .int .u8 0, .int .u8 0, .int .u8 0, .int .u8 0, .int .u8 0, .int .u8 0, .int .u8 0, .slice none 0 0, .slice none 0 0]] 8 rfl (World.shaped_of_RefB (by kernel_rfl) (by kernel_rfl)) (by kernel_rfl) (by kernel_rfl) (by kernel_rfl) (door_met os _)) ?_
  intro W base args ds gs before hval0 hW _ hz0 hL _
  have hval : ∀ (j : Nat) t v, Tryd.f15.params[j]? = some t → args[j]? = some v → Value.okWide Tryd.prog W .any base t v := hval0
  have hW' := hW
  obtain ⟨p, q, hA0, hV, rfl, hfz, hnd⟩ := hW
  have hA : DataW.TrodAll enc Tryd.prog W 0 (fun _ => true) true Tryd.f15.params.toList args.toList ds p := hA0
  rw [Tryd.params15] at hA hval
  obtain ⟨v0, vs0, d0, ds0, p0, q0, hargs, rfl, rfl, h0, r0⟩ := trodAll_cons hA
  obtain ⟨v1, vs1, d1, ds1, p1, q1, rfl, rfl, rfl, h1, r1⟩ := trodAll_cons r0
  obtain ⟨rfl, rfl, rfl⟩ := trodAll_nil r1
  obtain rfl : args = #[v0, v1] := by cases args; simp_all
  obtain ⟨rfl, rfl⟩ := trodVars_none hV
  have k0 := h0
  have lt0 : ∀ x ∈ p0, x.block < W.heap.size := by obtain ⟨m, hm⟩ := k0; exact DataW.trod_lt m _ _ _ hm
  have th0_1 := TD.ofN h0
  have th0_2 := DY 0 0 22 1 AS (by kernel_rfl) (by kernel_rfl) th0_1
  obtain ⟨ta0_3, tq0_4⟩ := TD.u64 AU th0_2
  have th0_5 := DY 1 1 3 1 AS (by kernel_rfl) (by kernel_rfl) th0_1
  obtain ⟨ta0_6, tq0_7, tl0_8⟩ := TD.i64 A4 th0_5
  have th0_9 := DY 2 2 23 1 AS (by kernel_rfl) (by kernel_rfl) th0_1
  obtain ⟨ta0_10, ta0_11, ta0_12, ta0_13, tq0_14, tl0_15, tl0_16, tl0_17, tl0_18⟩ := TD.sl64 BL AU (by kernel_rfl) (of_decide_eq_true (by kernel_rfl)) th0_9
  have th0_19 := DY 3 3 22 1 AS (by kernel_rfl) (by kernel_rfl) th0_1
  obtain ⟨ta0_20, tq0_21⟩ := TD.u64 AU th0_19
  have th0_22 := DY 4 4 3 1 AS (by kernel_rfl) (by kernel_rfl) th0_1
  obtain ⟨ta0_23, tq0_24, tl0_25⟩ := TD.i64 A4 th0_22
  have th0_26 := DY 5 5 29 22 AS (by kernel_rfl) (by kernel_rfl) th0_1
  have th0_27 := TD.sub (o := 5) (DY 0 0 22 1 AQ (by kernel_rfl) (by kernel_rfl) th0_26) (by decide) (by decide)
  obtain ⟨ta0_28, tq0_29⟩ := TD.u64 AU th0_27
  have th0_30 := TD.sub (o := 6) (DY 1 1 22 1 AQ (by kernel_rfl) (by kernel_rfl) th0_26) (by decide) (by decide)
  obtain ⟨ta0_31, tq0_32⟩ := TD.u64 AU th0_30
  have th0_33 := TD.sub (o := 7) (DY 2 2 26 4 AQ (by kernel_rfl) (by kernel_rfl) th0_26) (by decide) (by decide)
  have th0_34 := TD.sub (o := 7) (DY 0 0 3 1 AY (by kernel_rfl) (by kernel_rfl) th0_33) (by decide) (by decide)
  obtain ⟨ta0_35, tq0_36, tl0_37⟩ := TD.i64 A4 th0_34
  have th0_38 := TD.sub (o := 8) (DY 1 1 23 1 AY (by kernel_rfl) (by kernel_rfl) th0_33) (by decide) (by decide)
  obtain ⟨ta0_39, ta0_40, ta0_41, ta0_42, tq0_43, tl0_44, tl0_45, tl0_46, tl0_47⟩ := TD.sl64 BL AU (by kernel_rfl) (of_decide_eq_true (by kernel_rfl)) th0_38
  have th0_48 := TD.sub (o := 9) (DY 2 2 24 1 AY (by kernel_rfl) (by kernel_rfl) th0_33) (by decide) (by decide)
  obtain ⟨ta0_49, ta0_50, ta0_51, ta0_52, tq0_53, tl0_54, tl0_55, tl0_56, tl0_57⟩ := TD.slSeal CK (by kernel_rfl) (of_decide_eq_true (by kernel_rfl)) CM (by kernel_rfl) (by kernel_rfl) (by kernel_rfl) AU EC B1 CO (by kernel_rfl) (by kernel_rfl) (by kernel_rfl) (by kernel_rfl) th0_48
  have th0_58 := TD.sub (o := 10) (DY 3 3 22 1 AY (by kernel_rfl) (by kernel_rfl) th0_33) (by decide) (by decide)
  obtain ⟨ta0_59, tq0_60⟩ := TD.u64 AU th0_58
  have th0_61 := TD.sub (o := 11) (DY 3 6 27 16 AQ (by kernel_rfl) (by kernel_rfl) th0_26) (by decide) (by decide)
  obtain ⟨ta0_62, tq0_63, tl0_64⟩ := TD.arr8 B1 CO (by kernel_rfl) (by kernel_rfl) th0_61
  have th0_65 := DY 6 27 22 1 AS (by kernel_rfl) (by kernel_rfl) th0_1
  obtain ⟨ta0_66, tq0_67⟩ := TD.u64 AU th0_65
  have te0_68 : v0.cells.toList = [U64 ta0_3, I64 ta0_6, .slice ta0_10 ta0_11 ta0_12, U64 ta0_20, I64 ta0_23, U64 ta0_28, U64 ta0_31, I64 ta0_35, .slice ta0_39 ta0_40 ta0_41, .slice ta0_49 ta0_50 ta0_51, U64 ta0_59] ++ cu8 ta0_62 ++ [U64 ta0_66] := cat_end (EK (EK (EK (EK (EK (EK (EK (EK (EK (EK (EK (EK (cat0 tq0_4) tq0_7 rfl) tq0_14 rfl) tq0_21 rfl) tq0_24 rfl) tq0_29 rfl) tq0_32 rfl) tq0_36 rfl) tq0_43 rfl) tq0_53 rfl) tq0_60 rfl) tq0_63 rfl) tq0_67 rfl) ((TD.slen AS th0_1).trans (by kernel_rfl))
  obtain rfl := agg_of AS (hval 0 31 v0 rfl rfl) te0_68
  have k1 := h1
  have lt1 : ∀ x ∈ p1, x.block < W.heap.size := by obtain ⟨m, hm⟩ := k1; exact DataW.trod_lt m _ _ _ hm
  have th1_1 := TD.ofN h1
  have th1_2 := DY 0 0 22 1 AK (by kernel_rfl) (by kernel_rfl) th1_1
  obtain ⟨ta1_3, tq1_4⟩ := TD.u64 AU th1_2
  have th1_5 := DY 1 1 3 1 AK (by kernel_rfl) (by kernel_rfl) th1_1
  obtain ⟨ta1_6, tq1_7, tl1_8⟩ := TD.i64 A4 th1_5
  have th1_9 := DY 2 2 3 1 AK (by kernel_rfl) (by kernel_rfl) th1_1
  obtain ⟨ta1_10, tq1_11, tl1_12⟩ := TD.i64 A4 th1_9
  have th1_13 := DY 3 3 64 1 AK (by kernel_rfl) (by kernel_rfl) th1_1
  obtain ⟨ta1_14, ta1_15, ta1_16, ta1_17, tq1_18, tl1_19, tl1_20, tl1_21, tl1_22⟩ := TD.slItem B2 (by kernel_rfl) (of_decide_eq_true (by kernel_rfl)) DS (by kernel_rfl) (by kernel_rfl) Tryd.underlying4 (by kernel_rfl) CM (by kernel_rfl) (by kernel_rfl) (by kernel_rfl) (by kernel_rfl) AU EC B1 CO (by kernel_rfl) (by kernel_rfl) (by kernel_rfl) (by kernel_rfl) th1_13
  have th1_23 := DY 4 4 4 1 AK (by kernel_rfl) (by kernel_rfl) th1_1
  obtain ⟨ta1_24, tq1_25⟩ := TD.bool Tryd.underlying4 th1_23
  have th1_26 := DY 5 5 29 22 AK (by kernel_rfl) (by kernel_rfl) th1_1
  have th1_27 := TD.sub (o := 5) (DY 0 0 22 1 AQ (by kernel_rfl) (by kernel_rfl) th1_26) (by decide) (by decide)
  obtain ⟨ta1_28, tq1_29⟩ := TD.u64 AU th1_27
  have th1_30 := TD.sub (o := 6) (DY 1 1 22 1 AQ (by kernel_rfl) (by kernel_rfl) th1_26) (by decide) (by decide)
  obtain ⟨ta1_31, tq1_32⟩ := TD.u64 AU th1_30
  have th1_33 := TD.sub (o := 7) (DY 2 2 26 4 AQ (by kernel_rfl) (by kernel_rfl) th1_26) (by decide) (by decide)
  have th1_34 := TD.sub (o := 7) (DY 0 0 3 1 AY (by kernel_rfl) (by kernel_rfl) th1_33) (by decide) (by decide)
  obtain ⟨ta1_35, tq1_36, tl1_37⟩ := TD.i64 A4 th1_34
  have th1_38 := TD.sub (o := 8) (DY 1 1 23 1 AY (by kernel_rfl) (by kernel_rfl) th1_33) (by decide) (by decide)
  obtain ⟨ta1_39, ta1_40, ta1_41, ta1_42, tq1_43, tl1_44, tl1_45, tl1_46, tl1_47⟩ := TD.sl64 BL AU (by kernel_rfl) (of_decide_eq_true (by kernel_rfl)) th1_38
  have th1_48 := TD.sub (o := 9) (DY 2 2 24 1 AY (by kernel_rfl) (by kernel_rfl) th1_33) (by decide) (by decide)
  obtain ⟨ta1_49, ta1_50, ta1_51, ta1_52, tq1_53, tl1_54, tl1_55, tl1_56, tl1_57⟩ := TD.slSeal CK (by kernel_rfl) (of_decide_eq_true (by kernel_rfl)) CM (by kernel_rfl) (by kernel_rfl) (by kernel_rfl) AU EC B1 CO (by kernel_rfl) (by kernel_rfl) (by kernel_rfl) (by kernel_rfl) th1_48
  have th1_58 := TD.sub (o := 10) (DY 3 3 22 1 AY (by kernel_rfl) (by kernel_rfl) th1_33) (by decide) (by decide)
  obtain ⟨ta1_59, tq1_60⟩ := TD.u64 AU th1_58
  have th1_61 := TD.sub (o := 11) (DY 3 6 27 16 AQ (by kernel_rfl) (by kernel_rfl) th1_26) (by decide) (by decide)
  obtain ⟨ta1_62, tq1_63, tl1_64⟩ := TD.arr8 B1 CO (by kernel_rfl) (by kernel_rfl) th1_61
  have th1_65 := DY 6 27 65 1 AK (by kernel_rfl) (by kernel_rfl) th1_1
  obtain ⟨ta1_66, ta1_67, ta1_68, ta1_69, tq1_70, tl1_71, tl1_72, tl1_73, tl1_74⟩ := TD.sl32 CP EU CO (by kernel_rfl) (of_decide_eq_true (by kernel_rfl)) (by kernel_rfl) th1_65
  have th1_75 := DY 7 28 65 1 AK (by kernel_rfl) (by kernel_rfl) th1_1
  obtain ⟨ta1_76, ta1_77, ta1_78, ta1_79, tq1_80, tl1_81, tl1_82, tl1_83, tl1_84⟩ := TD.sl32 CP EU CO (by kernel_rfl) (of_decide_eq_true (by kernel_rfl)) (by kernel_rfl) th1_75
  have te1_86 : v1.cells.toList = ([U64 ta1_3, I64 ta1_6, I64 ta1_10, .slice ta1_14 ta1_15 ta1_16, .bool ta1_24, U64 ta1_28, U64 ta1_31, I64 ta1_35, .slice ta1_39 ta1_40 ta1_41, .slice ta1_49 ta1_50 ta1_51, U64 ta1_59] : List Value) ++ cu8 ta1_62 ++ ([.slice ta1_66 ta1_67 ta1_68] : List Value) ++ ([.slice ta1_76 ta1_77 ta1_78] : List Value) := cat_end (EK (EK (EK (EK (EK (EK (EK (EK (EK (EK (EK (EK (EK (cat0 tq1_4) tq1_7 rfl) tq1_11 rfl) tq1_18 rfl) tq1_25 rfl) tq1_29 rfl) tq1_32 rfl) tq1_36 rfl) tq1_43 rfl) tq1_53 rfl) tq1_60 rfl) tq1_63 rfl) tq1_70 rfl) tq1_80 rfl) ((TD.slen AK th1_1).trans (by kernel_rfl))
  have te1_85 : v1.cells.toList = ([U64 ta1_3, I64 ta1_6, I64 ta1_10, .slice ta1_14 ta1_15 ta1_16, .bool ta1_24, U64 ta1_28, U64 ta1_31, I64 ta1_35, .slice ta1_39 ta1_40 ta1_41, .slice ta1_49 ta1_50 ta1_51, U64 ta1_59] : List Value) ++ cu8 ta1_62 ++ ([.slice ta1_66 ta1_67 ta1_68, .slice ta1_76 ta1_77 ta1_78] : List Value) := te1_86.trans (by simp only [List.append_assoc, List.cons_append, List.nil_append])
  obtain rfl := agg_of AK (hval 1 67 v1 rfl rfl) te1_85
  clear hA0 hval0
  refine (wireBack_w ta0_3 ta0_6 ta0_10 ta0_11 ta0_12 ta0_13 ta0_20 ta0_23 ta0_28 ta0_31 ta0_35 ta0_39 ta0_40 ta0_41 ta0_42 ta0_49 ta0_50 ta0_51 ta0_52 ta0_59 ta0_62 ta0_66 ta1_3 ta1_6 ta1_10 ta1_14 ta1_15 ta1_16 ta1_17 ta1_24 ta1_28 ta1_31 ta1_35 ta1_39 ta1_40 ta1_41 ta1_42 ta1_49 ta1_50 ta1_51 ta1_52 ta1_59 ta1_62 ta1_66 ta1_67 ta1_68 ta1_69 ta1_76 ta1_77 ta1_78 ta1_79 W tl0_8 tl0_15 tl0_16 tl0_17 tl0_18 tl0_25 tl0_37 tl0_44 tl0_45 tl0_46 tl0_47 tl0_54 tl0_55 tl0_56 tl0_57 tl0_64 tl1_8 tl1_12 tl1_19 tl1_20 tl1_21 tl1_22 tl1_37 tl1_44 tl1_45 tl1_46 tl1_47 tl1_54 tl1_55 tl1_56 tl1_57 tl1_64 tl1_71 tl1_72 tl1_73 tl1_74 tl1_81 tl1_82 tl1_83 tl1_84 (tabW hL)).mono fun e W' hp => ?_
  obtain ⟨rfl, bel⟩ := hp.law
  exact ⟨_, rfl, _, _, _, [], _, [], hW', trodAll_mk1 (shut_bool Tryd.underlying4 _), (trodAll_cons_mk (Below.trod laidOut (by kernel_rfl) (of_decide_eq_true (by kernel_rfl)) k0 bel lt0) (trodAll_cons_mk (Below.trod laidOut (by kernel_rfl) (of_decide_eq_true (by kernel_rfl)) k1 bel lt1) trodAll_mk0)), rfl, bel.frame _, fun h => by cases h⟩
theorem band {a b : Bool} (ha : a = true) (hb : b = true) : (a && b) = true := by rw [ha, hb]; rfl
theorem kInPlace : (Rows.wireBackRow.inPlace == Tryd.prog.inPlace 15) = true := by kernel_rfl
theorem kUnfollowed : (Rows.wireBackRow.unfollowed == Tryd.prog.unfollowed 15) = true := by kernel_rfl
theorem kRecurses : (Rows.wireBackRow.recurses == Tryd.prog.recurses 15) = true := by kernel_rfl
theorem kNamed : (Rows.wireBackRow.named == Tryd.prog.varsNamed 15) = true := by kernel_rfl
theorem kGoes : false = Rows.wireBackRow.goesBy Tryd.prog := by kernel_rfl
theorem kFn : Tryd.prog.funcNamed "entrust/entrustlaw14.WireBack" = some 15 := by kernel_rfl
theorem kInst : Tryd.f15.isInstance Tryd.prog Rows.wireBackRow.origin Rows.wireBackRow.targs := of_decide_eq_true (by kernel_rfl)
theorem kWrap : Tryd.f15.isWrapper Tryd.prog Rows.wireBackRow.wrapper Rows.wireBackRow.mainSum := by unfold Func.isWrapper; first | (rw [if_pos (by decide +kernel)]; kernel_rfl) | (rw [if_neg (by decide +kernel)]; exact ⟨rfl, rfl⟩)
theorem closed : joinedFacts Tryd.prog 15 Tryd.f15 Rows.wireBackSpec Rows.wireBackRow = true := by
  unfold joinedFacts
  exact (band (band (band (band (band (band (band (band (band (band (band (band (band (band (band (band (band (band (band (band (band (band (band (band (band (band (band (band (band (band (band (by kernel_rfl) kLaidOut) kRowed) (by kernel_rfl)) (by kernel_rfl)) (by kernel_rfl)) kStops) (by kernel_rfl)) kKnobs) kInPlace) kUnfollowed) kRecurses) kNamed) (by kernel_rfl)) (by kernel_rfl)) (by kernel_rfl)) (by kernel_rfl)) (by kernel_rfl)) (by kernel_rfl)) (by kernel_rfl)) (by kernel_rfl)) (by kernel_rfl)) (by kernel_rfl)) (by kernel_rfl)) kHeard) kMayEnter) (by rw [kLifts]; rfl)) (by rw [kMake]; rfl)) (by kernel_rfl)) (by kernel_rfl)) (by kernel_rfl)) (by kernel_rfl))
theorem over : Rows.wireBackRow.holds Tryd.pinned (OpenSpec.ofChange Rows.wireBackSpec) :=
  OpenClaim.holds_of_wide 15 Tryd.f15 rfl rfl rfl rfl rfl rfl rfl ⟨rfl, rfl, rfl, rfl, rfl⟩ rfl rfl rfl rfl rfl kFn Tryd.func15 closed kInst kWrap
    (fun os started H enc _ => lifted os started H enc)
theorem kText : Rows.wireBackRow.wfByText (OpenSpec.ofChange Rows.wireBackSpec) = true := by kernel_rfl
theorem proved : Rows.WireBackCardSaid :=
  Claim7.holds_tied_plain_at .later [] [.data] true (true, "2d70f5c833bfb7bc8de243230ee047973e9693ede75340627c994262dff806d2") true
    over (fun _ h => by cases h) kText (fun _ h => by cases h) wireBack_row_tie rfl ⟨rfl, rfl⟩ kMainIs rfl
    (fun f fn hf hfn => by
      obtain rfl : f = 15 := Option.some.inj (kFn.symm.trans hf) |>.symm
      obtain rfl : fn = Tryd.f15 := (Option.some.inj (Tryd.func15.symm.trans hfn)).symm
      exact ⟨kLooks, fun j t ht => by
        rw [Tryd.params15] at ht
        have hm : t ∈ [31, 67] := by simpa using Array.mem_of_getElem? ht
        have hall : ([31, 67].all fun u => !Tryd.prog.wantsStandIn u) = true := by kernel_rfl
        exact (show Tryd.prog.wantsStandIn t = false by simpa using List.all_eq_true.1 hall t hm)⟩)
    kGoes
end Go.Proofs.YtkdpdgpphpngeaaDoor.wireBack
