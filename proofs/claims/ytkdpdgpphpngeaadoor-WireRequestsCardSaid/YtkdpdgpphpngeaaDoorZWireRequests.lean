import Derived.Test.YtkdpdgpphpngeaaDoorRows
import Derived.Test.YtkdpdgpphpngeaaDoorCards
import Derived.Test.YtkdpdgpphpngeaaDoorTie
import Derived.WalkKit
import Derived.ProofKit
import Derived.LaidMore
import Derived.OpenShut
import Derived.ShutString
import Derived.ChangeOld
import Derived.Below
import Derived.Stop.Joined
import Derived.SevenTiedAt
import Derived.Test.YtkdpdgpphpngeaaDoorPkWR6
namespace Go.Proofs.YtkdpdgpphpngeaaDoor.wireRequests
open Go Go.Sx
open Go.ChangeShapes Go.WideShapes Go.ChangeAt Go.RowKit
open Go.ChangeMaps (open_string shut_string)
set_option linter.unusedVariables false
theorem own : ownKnob Tryd.prog.godebug = none := by kernel_rfl
theorem laidOut : laidOutB Tryd.prog = true := kLaidOut
theorem door_met (os : Os) (args : Array Value) : laidMetH Tryd.prog Rows.wireRequestsRow.laid ((World.doorLaid Tryd.prog 400 os).forCall (fun _ _ => 0) ⟨#[], args, []⟩).memory :=
  laidMetH_of_parts3 (fuel := 8) (laidMet_of_run' 8 (by kernel_rfl) (by kernel_rfl)) (by kernel_rfl) (by kernel_rfl)
theorem tabW {W : World} (h : laidMetH Tryd.prog Rows.wireRequestsRow.laid W) : GLw W :=
  (laid_rdS h (by kernel_rfl) (name := "entrust/wire.words") (d := Rows.laid_entrust_wire_words) (List.mem_of_getElem? (i := 0) rfl) [[], [114, 101, 97, 100], [115, 112, 97, 110], [99, 104, 97, 110, 103, 101], [99, 104, 97, 105, 110], [102, 111, 114, 103, 101, 116]] (by kernel_rfl) (g := 0) (t := 217) (e := 9) (by kernel_rfl) (by kernel_rfl) Tryd.underlying217 Tryd.underlying9 (by kernel_rfl) (by kernel_rfl) (by decide))
set_option maxRecDepth 100000 in
theorem lifted (os : Os) (started : os.Started) (H : Type) (enc : TypeId × Value → H) :
    ReturnsInHanded {} Tryd.checked os 3 .any (fun w args => (Rows.wireRequestsSpec.pre enc Tryd.prog Tryd.f3 [] false w args ∧ laidMetH Tryd.prog Rows.wireRequestsRow.laid w) ∧ sizedMet enc Tryd.prog Tryd.f3 (OpenSpec.ofChange Rows.wireRequestsSpec) false w args)
      (Rows.wireRequestsSpec.post enc Tryd.prog Tryd.f3 false true false false) := by
  refine returnsInHanded_of_change_and (C := Tryd.checked) (X := fun w _ => laidMetH Tryd.prog Rows.wireRequestsRow.laid w) (fun _ _ _ hh h => h.of_heap hh) own started (by kernel_rfl) Tryd.func3
    (ChangeSpec.witness_shaped (enc := enc) (C := Tryd.checked) (os := os) (X := fun w _ => laidMetH Tryd.prog Rows.wireRequestsRow.laid w) false (World.doorLaid Tryd.prog 400 os) #[.agg #[.int .u64 0, .int .i64 0, .slice none 0 0, .int .u64 0, .int .i64 0, .int .u64 0, .int .u64 0, .int .i64 0, .slice none 0 0, .slice none 0 0, .int .u64 0, .int .u8 0, .int .u8 0, .int .u8 0, .int .u8 0, .int .u8 0, .int .u8 0, .int .u8 0, .int .u8 0, .int .u8 0, .int .u8 0, .int .u8 0, .int .u8 0, .int .u8 0, .int .u8 0, .int .u8 0, .int .u8 0, .int .u64 0]] 8 rfl (World.shaped_of_RefB (by kernel_rfl) (by kernel_rfl)) (by kernel_rfl) (by kernel_rfl) (by kernel_rfl) (door_met os _)) ?_
  intro W base args ds gs before hval0 hW _ hz0 hL _
  have hval : ∀ (j : Nat) t v, Tryd.f3.params[j]? = some t → args[j]? = some v → Value.okWide Tryd.prog W .any base t v := hval0
  have hW' := hW
  obtain ⟨p, q, hA0, hV, rfl, hfz, hnd⟩ := hW
  have hA : DataW.TrodAll enc Tryd.prog W 0 (fun _ => true) true Tryd.f3.params.toList args.toList ds p := hA0
  rw [Tryd.params3] at hA hval
  obtain ⟨v0, vs0, d0, ds0, p0, q0, hargs, rfl, rfl, h0, r0⟩ := trodAll_cons hA
  obtain ⟨rfl, rfl, rfl⟩ := trodAll_nil r0
  obtain rfl : args = #[v0] := by cases args; simp_all
  obtain ⟨rfl, rfl⟩ := trodVars_none hV
  have k0 := h0
  have lt0 : ∀ x ∈ p0, x.block < W.heap.size := by obtain ⟨m, hm⟩ := k0; exact DataW.trod_lt m _ _ _ hm
  have th0_1 := TD.ofN h0
  have th0_2 := EJ 0 0 22 1 AS (by kernel_rfl) (by kernel_rfl) th0_1
  obtain ⟨ta0_3, tq0_4⟩ := TD.u64 BQ th0_2
  have th0_5 := EJ 1 1 3 1 AS (by kernel_rfl) (by kernel_rfl) th0_1
  obtain ⟨ta0_6, tq0_7, tl0_8⟩ := TD.i64 BO th0_5
  have th0_9 := EJ 2 2 23 1 AS (by kernel_rfl) (by kernel_rfl) th0_1
  obtain ⟨ta0_10, ta0_11, ta0_12, ta0_13, tq0_14, tl0_15, tl0_16, tl0_17, tl0_18⟩ := TD.sl64 A8 BQ (by kernel_rfl) (of_decide_eq_true (by kernel_rfl)) th0_9
  have th0_19 := EJ 3 3 22 1 AS (by kernel_rfl) (by kernel_rfl) th0_1
  obtain ⟨ta0_20, tq0_21⟩ := TD.u64 BQ th0_19
  have th0_22 := EJ 4 4 3 1 AS (by kernel_rfl) (by kernel_rfl) th0_1
  obtain ⟨ta0_23, tq0_24, tl0_25⟩ := TD.i64 BO th0_22
  have th0_26 := EJ 5 5 29 22 AS (by kernel_rfl) (by kernel_rfl) th0_1
  have th0_27 := TD.sub (o := 5) (EJ 0 0 22 1 A3 (by kernel_rfl) (by kernel_rfl) th0_26) (by decide) (by decide)
  obtain ⟨ta0_28, tq0_29⟩ := TD.u64 BQ th0_27
  have th0_30 := TD.sub (o := 6) (EJ 1 1 22 1 A3 (by kernel_rfl) (by kernel_rfl) th0_26) (by decide) (by decide)
  obtain ⟨ta0_31, tq0_32⟩ := TD.u64 BQ th0_30
  have th0_33 := TD.sub (o := 7) (EJ 2 2 26 4 A3 (by kernel_rfl) (by kernel_rfl) th0_26) (by decide) (by decide)
  have th0_34 := TD.sub (o := 7) (EJ 0 0 3 1 A6 (by kernel_rfl) (by kernel_rfl) th0_33) (by decide) (by decide)
  obtain ⟨ta0_35, tq0_36, tl0_37⟩ := TD.i64 BO th0_34
  have th0_38 := TD.sub (o := 8) (EJ 1 1 23 1 A6 (by kernel_rfl) (by kernel_rfl) th0_33) (by decide) (by decide)
  obtain ⟨ta0_39, ta0_40, ta0_41, ta0_42, tq0_43, tl0_44, tl0_45, tl0_46, tl0_47⟩ := TD.sl64 A8 BQ (by kernel_rfl) (of_decide_eq_true (by kernel_rfl)) th0_38
  have th0_48 := TD.sub (o := 9) (EJ 2 2 24 1 A6 (by kernel_rfl) (by kernel_rfl) th0_33) (by decide) (by decide)
  obtain ⟨ta0_49, ta0_50, ta0_51, ta0_52, tq0_53, tl0_54, tl0_55, tl0_56, tl0_57⟩ := TD.slSeal CH (by kernel_rfl) (of_decide_eq_true (by kernel_rfl)) DJ (by kernel_rfl) (by kernel_rfl) (by kernel_rfl) BQ Tryd.underlying159 DD BU (by kernel_rfl) (by kernel_rfl) (by kernel_rfl) (by kernel_rfl) th0_48
  have th0_58 := TD.sub (o := 10) (EJ 3 3 22 1 A6 (by kernel_rfl) (by kernel_rfl) th0_33) (by decide) (by decide)
  obtain ⟨ta0_59, tq0_60⟩ := TD.u64 BQ th0_58
  have th0_61 := TD.sub (o := 11) (EJ 3 6 27 16 A3 (by kernel_rfl) (by kernel_rfl) th0_26) (by decide) (by decide)
  obtain ⟨ta0_62, tq0_63, tl0_64⟩ := TD.arr8 DD BU (by kernel_rfl) (by kernel_rfl) th0_61
  have th0_65 := EJ 6 27 22 1 AS (by kernel_rfl) (by kernel_rfl) th0_1
  obtain ⟨ta0_66, tq0_67⟩ := TD.u64 BQ th0_65
  have te0_68 : v0.cells.toList = [U64 ta0_3, I64 ta0_6, .slice ta0_10 ta0_11 ta0_12, U64 ta0_20, I64 ta0_23, U64 ta0_28, U64 ta0_31, I64 ta0_35, .slice ta0_39 ta0_40 ta0_41, .slice ta0_49 ta0_50 ta0_51, U64 ta0_59] ++ cu8 ta0_62 ++ [U64 ta0_66] := cat_end (EX (EX (EX (EX (EX (EX (EX (EX (EX (EX (EX (EX (cat0 tq0_4) tq0_7 rfl) tq0_14 rfl) tq0_21 rfl) tq0_24 rfl) tq0_29 rfl) tq0_32 rfl) tq0_36 rfl) tq0_43 rfl) tq0_53 rfl) tq0_60 rfl) tq0_63 rfl) tq0_67 rfl) ((TD.slen AS th0_1).trans (by kernel_rfl))
  obtain rfl := agg_of AS (hval 0 31 v0 rfl rfl) te0_68
  clear hA0 hval0
  refine (wireRequests_w ta0_3 ta0_6 ta0_10 ta0_11 ta0_12 ta0_13 ta0_20 ta0_23 ta0_28 ta0_31 ta0_35 ta0_39 ta0_40 ta0_41 ta0_42 ta0_49 ta0_50 ta0_51 ta0_52 ta0_59 ta0_62 ta0_66 W tl0_8 tl0_15 tl0_16 tl0_17 tl0_18 tl0_25 tl0_37 tl0_44 tl0_45 tl0_46 tl0_47 tl0_54 tl0_55 tl0_56 tl0_57 tl0_64 (tabW hL)).mono fun e W' hp => ?_
  obtain ⟨rfl, bel⟩ := hp.law
  exact ⟨_, rfl, _, _, _, [], _, [], hW', trodAll_mk1 (shut_bool Tryd.underlying4 _), (trodAll_cons_mk (Below.trod laidOut (by kernel_rfl) (of_decide_eq_true (by kernel_rfl)) k0 bel lt0) trodAll_mk0), rfl, bel.frame _, fun h => by cases h⟩
theorem band {a b : Bool} (ha : a = true) (hb : b = true) : (a && b) = true := by rw [ha, hb]; rfl
theorem kInPlace : (Rows.wireRequestsRow.inPlace == Tryd.prog.inPlace 3) = true := by kernel_rfl
theorem kUnfollowed : (Rows.wireRequestsRow.unfollowed == Tryd.prog.unfollowed 3) = true := by kernel_rfl
theorem kRecurses : (Rows.wireRequestsRow.recurses == Tryd.prog.recurses 3) = true := by kernel_rfl
theorem kNamed : (Rows.wireRequestsRow.named == Tryd.prog.varsNamed 3) = true := by kernel_rfl
theorem kGoes : false = Rows.wireRequestsRow.goesBy Tryd.prog := by kernel_rfl
theorem kFn : Tryd.prog.funcNamed "entrust/entrustlaw14.WireRequests" = some 3 := by kernel_rfl
theorem kInst : Tryd.f3.isInstance Tryd.prog Rows.wireRequestsRow.origin Rows.wireRequestsRow.targs := of_decide_eq_true (by kernel_rfl)
theorem kWrap : Tryd.f3.isWrapper Tryd.prog Rows.wireRequestsRow.wrapper Rows.wireRequestsRow.mainSum := by unfold Func.isWrapper; first | (rw [if_pos (by decide +kernel)]; kernel_rfl) | (rw [if_neg (by decide +kernel)]; exact ⟨rfl, rfl⟩)
theorem closed : joinedFacts Tryd.prog 3 Tryd.f3 Rows.wireRequestsSpec Rows.wireRequestsRow = true := by
  unfold joinedFacts
  exact (band (band (band (band (band (band (band (band (band (band (band (band (band (band (band (band (band (band (band (band (band (band (band (band (band (band (band (band (band (band (band (by kernel_rfl) kLaidOut) kRowed) (by kernel_rfl)) (by kernel_rfl)) (by kernel_rfl)) kStops) (by kernel_rfl)) kKnobs) kInPlace) kUnfollowed) kRecurses) kNamed) (by kernel_rfl)) (by kernel_rfl)) (by kernel_rfl)) (by kernel_rfl)) (by kernel_rfl)) (by kernel_rfl)) (by kernel_rfl)) (by kernel_rfl)) (by kernel_rfl)) (by kernel_rfl)) (by kernel_rfl)) kHeard) kMayEnter) (by rw [kLifts]; rfl)) (by rw [kMake]; rfl)) (by kernel_rfl)) (by kernel_rfl)) (by kernel_rfl)) (by kernel_rfl))
theorem over : Rows.wireRequestsRow.holds Tryd.pinned (OpenSpec.ofChange Rows.wireRequestsSpec) :=
  OpenClaim.holds_of_wide 3 Tryd.f3 rfl rfl rfl rfl rfl rfl rfl ⟨rfl, rfl, rfl, rfl, rfl⟩ rfl rfl rfl rfl rfl kFn Tryd.func3 closed kInst kWrap
    (fun os started H enc _ => lifted os started H enc)
theorem kText : Rows.wireRequestsRow.wfByText (OpenSpec.ofChange Rows.wireRequestsSpec) = true := by kernel_rfl
theorem proved : Rows.WireRequestsCardSaid :=
  Claim7.holds_tied_plain_at .later [] [.data] true (true, "2d70f5c833bfb7bc8de243230ee047973e9693ede75340627c994262dff806d2") true
    over (fun _ h => by cases h) kText (fun _ h => by cases h) wireRequests_row_tie rfl ⟨rfl, rfl⟩ kMainIs rfl
    (fun f fn hf hfn => by
      obtain rfl : f = 3 := Option.some.inj (kFn.symm.trans hf) |>.symm
      obtain rfl : fn = Tryd.f3 := (Option.some.inj (Tryd.func3.symm.trans hfn)).symm
      exact ⟨kLooks, fun j t ht => by
        rw [Tryd.params3] at ht
        have hm : t ∈ [31] := by simpa using Array.mem_of_getElem? ht
        have hall : ([31].all fun u => !Tryd.prog.wantsStandIn u) = true := by kernel_rfl
        exact (show Tryd.prog.wantsStandIn t = false by simpa using List.all_eq_true.1 hall t hm)⟩)
    kGoes
end Go.Proofs.YtkdpdgpphpngeaaDoor.wireRequests
