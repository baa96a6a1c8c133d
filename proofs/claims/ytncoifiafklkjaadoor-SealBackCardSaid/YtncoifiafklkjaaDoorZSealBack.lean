import Derived.Test.YtncoifiafklkjaaDoorRows
import Derived.Test.YtncoifiafklkjaaDoorCards
import Derived.Test.YtncoifiafklkjaaDoorTie
import Derived.WalkKit
import Derived.ProofKit
import Derived.LaidMore
import Derived.OpenShut
import Derived.ShutString
import Derived.ChangeOld
import Derived.Below
import Derived.Stop.Joined
import Derived.SevenTiedAt
import Derived.Test.YtncoifiafklkjaaDoorPkSealBack5
namespace Go.Proofs.YtncoifiafklkjaaDoor.sealBack
open Go Go.Sx
open Go.ChangeShapes Go.WideShapes Go.ChangeAt Go.RowKit
open Go.ChangeMaps (open_string shut_string)
set_option linter.unusedVariables false
theorem own : ownKnob Tryd.prog.godebug = none := by kernel_rfl
theorem laidOut : laidOutB Tryd.prog = true := kLaidOut
theorem door_met (os : Os) (args : Array Value) : laidMetH Tryd.prog Rows.sealBackRow.laid ((World.doorLaid Tryd.prog 400 os).forCall (fun _ _ => 0) ⟨#[], args, []⟩).memory :=
  laidMetH_of_parts3 (fuel := 8) (laidMet_of_run' 8 (by kernel_rfl) (by kernel_rfl)) (by kernel_rfl) (by kernel_rfl)
theorem tabG {W : World} (h : laidMetH Tryd.prog Rows.sealBackRow.laid W) : GLs W :=
  ⟨(laid_rd h (by kernel_rfl) (name := "entrust/sha.constants") (d := Rows.laid_entrust_sha_constants) (List.mem_of_getElem? (i := 2) rfl) constL (by kernel_rfl) (g := 3) (t := 44) (e := 30) (by kernel_rfl) (by kernel_rfl) Tryd.underlying44 Tryd.underlying30 (by kernel_rfl) (by kernel_rfl) (by decide)), (laid_rd h (by kernel_rfl) (name := "entrust/sha.initials") (d := Rows.laid_entrust_sha_initials) (List.mem_of_getElem? (i := 3) rfl) initL (by kernel_rfl) (g := 2) (t := 31) (e := 30) (by kernel_rfl) (by kernel_rfl) Tryd.underlying31 Tryd.underlying30 (by kernel_rfl) (by kernel_rfl) (by decide))⟩
theorem tabGr {W : World} (h : laidMetH Tryd.prog Rows.sealBackRow.laid W) : GLr W :=
  (laid_rd h (by kernel_rfl) (name := "entrust/entrustref02.Constants") (d := Rows.laid_entrust_entrustref02_Constants) (List.mem_of_getElem? (i := 0) rfl) constL (by kernel_rfl) (g := 0) (t := 44) (e := 30) (by kernel_rfl) (by kernel_rfl) Tryd.underlying44 Tryd.underlying30 (by kernel_rfl) (by kernel_rfl) (by decide))
theorem tabGi {W : World} (h : laidMetH Tryd.prog Rows.sealBackRow.laid W) : GLi W :=
  (laid_rd h (by kernel_rfl) (name := "entrust/entrustref02.Initials") (d := Rows.laid_entrust_entrustref02_Initials) (List.mem_of_getElem? (i := 1) rfl) initL (by kernel_rfl) (g := 1) (t := 31) (e := 30) (by kernel_rfl) (by kernel_rfl) Tryd.underlying31 Tryd.underlying30 (by kernel_rfl) (by kernel_rfl) (by decide))
set_option maxRecDepth 100000 in
theorem lifted (os : Os) (started : os.Started) (H : Type) (enc : TypeId × Value → H) :
    ReturnsInHanded {} Tryd.checked os 17 .any (fun w args => (Rows.sealBackSpec.pre enc Tryd.prog Tryd.f17 [] false w args ∧ laidMetH Tryd.prog Rows.sealBackRow.laid w) ∧ sizedMet enc Tryd.prog Tryd.f17 (OpenSpec.ofChange Rows.sealBackSpec) false w args)
      (Rows.sealBackSpec.post enc Tryd.prog Tryd.f17 false true false false) := by
  refine returnsInHanded_of_change_and (C := Tryd.checked) (X := fun w _ => laidMetH Tryd.prog Rows.sealBackRow.laid w) (fun _ _ _ hh h => h.of_heap hh) own started (by kernel_rfl) Tryd.func17
    (ChangeSpec.witness_shaped (enc := enc) (C := Tryd.checked) (os := os) (X := fun w _ => laidMetH Tryd.prog Rows.sealBackRow.laid w) false (World.doorLaid Tryd.prog 400 os) #[.agg (Array.replicate 16 (.int .u8 0)), .agg #[.int .u64 0, .int .u64 0, .int .u64 0, .int .u64 0], .agg #[.int .i64 0, .int .i64 0]] 8 rfl (World.shaped_of_RefB (by kernel_rfl) (by kernel_rfl)) (by kernel_rfl) (by kernel_rfl) (by kernel_rfl) (door_met os _)) ?_
  intro W base args ds gs before hval0 hW _ hz0 hL _
  have hval : ∀ (j : Nat) t v, Tryd.f17.params[j]? = some t → args[j]? = some v → Value.okWide Tryd.prog W .any base t v := hval0
  have hW' := hW
  obtain ⟨p, q, hA0, hV, rfl, hfz, hnd⟩ := hW
  have hA : DataW.TrodAll enc Tryd.prog W 0 (fun _ => true) true Tryd.f17.params.toList args.toList ds p := hA0
  rw [Tryd.params17] at hA hval
  obtain ⟨v0, vs0, d0, ds0, p0, q0, hargs, rfl, rfl, h0, r0⟩ := trodAll_cons hA
  obtain ⟨v1, vs1, d1, ds1, p1, q1, rfl, rfl, rfl, h1, r1⟩ := trodAll_cons r0
  obtain ⟨v2, vs2, d2, ds2, p2, q2, rfl, rfl, rfl, h2, r2⟩ := trodAll_cons r1
  obtain ⟨rfl, rfl, rfl⟩ := trodAll_nil r2
  obtain rfl : args = #[v0, v1, v2] := by cases args; simp_all
  obtain ⟨rfl, rfl⟩ := trodVars_none hV
  have k0 := h0
  have lt0 : ∀ x ∈ p0, x.block < W.heap.size := by obtain ⟨m, hm⟩ := k0; exact DataW.trod_lt m _ _ _ hm
  obtain ⟨a0, rfl, w0⟩ := open_arr_u8 Tryd.underlying55 Tryd.underlying5 (by kernel_rfl) (by kernel_rfl) (hval 0 55 v0 rfl rfl) h0
  have k1 := h1
  have lt1 : ∀ x ∈ p1, x.block < W.heap.size := by obtain ⟨m, hm⟩ := k1; exact DataW.trod_lt m _ _ _ hm
  have th1_1 := TD.ofN h1
  have th1_2 := TD.elem 0 0 2 Tryd.underlying93 (by decide) (by kernel_rfl) (by decide) th1_1
  have th1_3 := TD.sub (o := 0) (TD.field 0 0 58 1 Tryd.underlying73 (by kernel_rfl) (by kernel_rfl) th1_2) (by decide) (by decide)
  obtain ⟨ta1_4, tq1_5⟩ := TD.u64 Tryd.underlying58 th1_3
  have th1_6 := TD.sub (o := 1) (TD.field 1 1 58 1 Tryd.underlying73 (by kernel_rfl) (by kernel_rfl) th1_2) (by decide) (by decide)
  obtain ⟨ta1_7, tq1_8⟩ := TD.u64 Tryd.underlying58 th1_6
  have th1_9 := TD.elem 1 2 2 Tryd.underlying93 (by decide) (by kernel_rfl) (by decide) th1_1
  have th1_10 := TD.sub (o := 2) (TD.field 0 0 58 1 Tryd.underlying73 (by kernel_rfl) (by kernel_rfl) th1_9) (by decide) (by decide)
  obtain ⟨ta1_11, tq1_12⟩ := TD.u64 Tryd.underlying58 th1_10
  have th1_13 := TD.sub (o := 3) (TD.field 1 1 58 1 Tryd.underlying73 (by kernel_rfl) (by kernel_rfl) th1_9) (by decide) (by decide)
  obtain ⟨ta1_14, tq1_15⟩ := TD.u64 Tryd.underlying58 th1_13
  have te1_16 : v1.cells.toList = [U64 ta1_4, U64 ta1_7, U64 ta1_11, U64 ta1_14] := cat_end (cat_step (cat_step (cat_step (cat0 tq1_5) tq1_8 rfl) tq1_12 rfl) tq1_15 rfl) ((TD.alen Tryd.underlying93 th1_1).trans (by kernel_rfl))
  obtain rfl := agg_ofA Tryd.underlying93 (hval 1 93 v1 rfl rfl) te1_16
  have k2 := h2
  have lt2 : ∀ x ∈ p2, x.block < W.heap.size := by obtain ⟨m, hm⟩ := k2; exact DataW.trod_lt m _ _ _ hm
  have th2_1 := TD.ofN h2
  have th2_2 := TD.elem 0 0 1 Tryd.underlying95 (by decide) (by kernel_rfl) (by decide) th2_1
  obtain ⟨ta2_3, tq2_4, tl2_5⟩ := TD.i64 Tryd.underlying3 th2_2
  have th2_6 := TD.elem 1 1 1 Tryd.underlying95 (by decide) (by kernel_rfl) (by decide) th2_1
  obtain ⟨ta2_7, tq2_8, tl2_9⟩ := TD.i64 Tryd.underlying3 th2_6
  have te2_10 : v2.cells.toList = [I64 ta2_3, I64 ta2_7] := cat_end (cat_step (cat0 tq2_4) tq2_8 rfl) ((TD.alen Tryd.underlying95 th2_1).trans (by kernel_rfl))
  obtain rfl := agg_ofA Tryd.underlying95 (hval 2 95 v2 rfl rfl) te2_10
  clear hA0 hval0
  refine (sealBack_w a0 ta1_4 ta1_7 ta1_11 ta1_14 ta2_3 ta2_7 W w0 tl2_5 tl2_9 (tabG hL) (tabGr hL) (tabGi hL)).mono fun e W' hp => ?_
  obtain ⟨rfl, bel⟩ := hp.law
  exact ⟨_, rfl, _, _, _, [], _, [], hW', trodAll_mk1 (shut_bool Tryd.underlying4 _), (trodAll_cons_mk (Below.trod laidOut (by kernel_rfl) (of_decide_eq_true (by kernel_rfl)) k0 bel lt0) (trodAll_cons_mk (Below.trod laidOut (by kernel_rfl) (of_decide_eq_true (by kernel_rfl)) k1 bel lt1) (trodAll_cons_mk (Below.trod laidOut (by kernel_rfl) (of_decide_eq_true (by kernel_rfl)) k2 bel lt2) trodAll_mk0))), rfl, bel.frame _, fun h => by cases h⟩
theorem band {a b : Bool} (ha : a = true) (hb : b = true) : (a && b) = true := by rw [ha, hb]; rfl
theorem kInPlace : (Rows.sealBackRow.inPlace == Tryd.prog.inPlace 17) = true := by kernel_rfl
theorem kUnfollowed : (Rows.sealBackRow.unfollowed == Tryd.prog.unfollowed 17) = true := by kernel_rfl
theorem kRecurses : (Rows.sealBackRow.recurses == Tryd.prog.recurses 17) = true := by kernel_rfl
theorem kNamed : (Rows.sealBackRow.named == Tryd.prog.varsNamed 17) = true := by kernel_rfl
theorem kGoes : false = Rows.sealBackRow.goesBy Tryd.prog := by kernel_rfl
theorem kFn : Tryd.prog.funcNamed "entrust/entrustlaw07.SealBack" = some 17 := by kernel_rfl
theorem kInst : Tryd.f17.isInstance Tryd.prog Rows.sealBackRow.origin Rows.sealBackRow.targs := of_decide_eq_true (by kernel_rfl)
theorem kWrap : Tryd.f17.isWrapper Tryd.prog Rows.sealBackRow.wrapper Rows.sealBackRow.mainSum := by unfold Func.isWrapper; first | (rw [if_pos (by decide +kernel)]; kernel_rfl) | (rw [if_neg (by decide +kernel)]; exact ⟨rfl, rfl⟩)
theorem closed : joinedFacts Tryd.prog 17 Tryd.f17 Rows.sealBackSpec Rows.sealBackRow = true := by
  unfold joinedFacts
  exact (band (band (band (band (band (band (band (band (band (band (band (band (band (band (band (band (band (band (band (band (band (band (band (band (band (band (band (band (band (band (band (by kernel_rfl) kLaidOut) kRowed) (by kernel_rfl)) (by kernel_rfl)) (by kernel_rfl)) kStops) (by kernel_rfl)) kKnobs) kInPlace) kUnfollowed) kRecurses) kNamed) (by kernel_rfl)) (by kernel_rfl)) (by kernel_rfl)) (by kernel_rfl)) (by kernel_rfl)) (by kernel_rfl)) (by kernel_rfl)) (by kernel_rfl)) (by kernel_rfl)) (by kernel_rfl)) (by kernel_rfl)) kHeard) kMayEnter) (by rw [kLifts]; rfl)) (by rw [kMake]; rfl)) (by kernel_rfl)) (by kernel_rfl)) (by kernel_rfl)) (by kernel_rfl))
theorem over : Rows.sealBackRow.holds Tryd.pinned (OpenSpec.ofChange Rows.sealBackSpec) :=
  OpenClaim.holds_of_wide 17 Tryd.f17 rfl rfl rfl rfl rfl rfl rfl ⟨rfl, rfl, rfl, rfl, rfl⟩ rfl rfl rfl rfl rfl kFn Tryd.func17 closed kInst kWrap
    (fun os started H enc _ => lifted os started H enc)
theorem kText : Rows.sealBackRow.wfByText (OpenSpec.ofChange Rows.sealBackSpec) = true := by kernel_rfl
theorem proved : Rows.SealBackCardSaid :=
  Claim7.holds_tied_plain_at .later [] [.data, .data, .data, .data] true (true, "de7479bad4e85e403277db0d8cd99171af61f94a42c6cfc2fccf53d6b4e53da4") true
    over (fun _ h => by cases h) kText (fun _ h => by cases h) sealBack_row_tie rfl ⟨rfl, rfl⟩ kMainIs rfl
    (fun f fn hf hfn => by
      obtain rfl : f = 17 := Option.some.inj (kFn.symm.trans hf) |>.symm
      obtain rfl : fn = Tryd.f17 := (Option.some.inj (Tryd.func17.symm.trans hfn)).symm
      exact ⟨kLooks, fun j t ht => by
        rw [Tryd.params17] at ht
        have hm : t ∈ [55, 93, 95] := by simpa using Array.mem_of_getElem? ht
        have hall : ([55, 93, 95].all fun u => !Tryd.prog.wantsStandIn u) = true := by kernel_rfl
        exact (show Tryd.prog.wantsStandIn t = false by simpa using List.all_eq_true.1 hall t hm)⟩)
    kGoes
end Go.Proofs.YtncoifiafklkjaaDoor.sealBack
