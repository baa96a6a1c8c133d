import Derived.Test.YtncoifiafklkjaaDoorRows
import Derived.Test.YtncoifiafklkjaaDoorCards
import Derived.Test.YtncoifiafklkjaaDoorTie
import Derived.WalkKit
import Derived.ProofKit
import Derived.LaidMore
import Derived.OpenShut
import Derived.ShutString
import Derived.ChangeOld
import Derived.Below
import Derived.Stop.Joined
import Derived.SevenTiedAt
import Derived.Test.YtncoifiafklkjaaDoorNode4
import Derived.Test.YtncoifiafklkjaaDoorSxSt
import Derived.Test.YtncoifiafklkjaaDoorSxV
import Derived.Test.YtncoifiafklkjaaDoorSxN
import Derived.Test.YtncoifiafklkjaaDoorHead
namespace Go.Proofs.YtncoifiafklkjaaDoor.nodeLeaves
open Go Go.Sx
open Go.ChangeShapes Go.WideShapes Go.ChangeAt Go.RowKit
open Go.ChangeMaps (open_string shut_string)
set_option linter.unusedVariables false
theorem own : ownKnob Tryd.prog.godebug = none := by kernel_rfl
theorem laidOut : laidOutB Tryd.prog = true := kLaidOut
theorem door_met (os : Os) (args : Array Value) : laidMetH Tryd.prog Rows.nodeLeavesRow.laid ((World.doorLaid Tryd.prog 400 os).forCall (fun _ _ => 0) ⟨#[], args, []⟩).memory :=
  laidMetH_of_parts3 (fuel := 8) (laidMet_of_run' 8 (by kernel_rfl) (by kernel_rfl)) (by kernel_rfl) (by kernel_rfl)
theorem tabG {W : World} (h : laidMetH Tryd.prog Rows.nodeLeavesRow.laid W) : GLs W :=
  ⟨(laid_rd h (by kernel_rfl) (name := "entrust/sha.constants") (d := Rows.laid_entrust_sha_constants) (List.mem_of_getElem? (i := 2) rfl) constL (by kernel_rfl) (g := 3) (t := 44) (e := 30) (by kernel_rfl) (by kernel_rfl) Tryd.underlying44 Tryd.underlying30 (by kernel_rfl) (by kernel_rfl) (by decide)), (laid_rd h (by kernel_rfl) (name := "entrust/sha.initials") (d := Rows.laid_entrust_sha_initials) (List.mem_of_getElem? (i := 3) rfl) initL (by kernel_rfl) (g := 2) (t := 31) (e := 30) (by kernel_rfl) (by kernel_rfl) Tryd.underlying31 Tryd.underlying30 (by kernel_rfl) (by kernel_rfl) (by decide))⟩
theorem tabGr {W : World} (h : laidMetH Tryd.prog Rows.nodeLeavesRow.laid W) : GLr W :=
  (laid_rd h (by kernel_rfl) (name := "entrust/entrustref02.Constants") (d := Rows.laid_entrust_entrustref02_Constants) (List.mem_of_getElem? (i := 0) rfl) constL (by kernel_rfl) (g := 0) (t := 44) (e := 30) (by kernel_rfl) (by kernel_rfl) Tryd.underlying44 Tryd.underlying30 (by kernel_rfl) (by kernel_rfl) (by decide))
theorem tabGi {W : World} (h : laidMetH Tryd.prog Rows.nodeLeavesRow.laid W) : GLi W :=
  (laid_rd h (by kernel_rfl) (name := "entrust/entrustref02.Initials") (d := Rows.laid_entrust_entrustref02_Initials) (List.mem_of_getElem? (i := 1) rfl) initL (by kernel_rfl) (g := 1) (t := 31) (e := 30) (by kernel_rfl) (by kernel_rfl) Tryd.underlying31 Tryd.underlying30 (by kernel_rfl) (by kernel_rfl) (by decide))
set_option maxRecDepth 100000 in
theorem lifted (os : Os) (started : os.Started) (H : Type) (enc : TypeId × Value → H) :
    ReturnsInHanded {} Tryd.checked os 21 .any (fun w args => (Rows.nodeLeavesSpec.pre enc Tryd.prog Tryd.f21 [] false w args ∧ laidMetH Tryd.prog Rows.nodeLeavesRow.laid w) ∧ sizedMet enc Tryd.prog Tryd.f21 (OpenSpec.ofChange Rows.nodeLeavesSpec) false w args)
      (Rows.nodeLeavesSpec.post enc Tryd.prog Tryd.f21 false true false false) := by
  refine returnsInHanded_of_change_and (C := Tryd.checked) (X := fun w _ => laidMetH Tryd.prog Rows.nodeLeavesRow.laid w) (fun _ _ _ hh h => h.of_heap hh) own started (by kernel_rfl) Tryd.func21
    (ChangeSpec.witness_shaped (enc := enc) (C := Tryd.checked) (os := os) (X := fun w _ => laidMetH Tryd.prog Rows.nodeLeavesRow.laid w) false (World.doorLaid Tryd.prog 400 os) #[.int .u64 0, .agg #[.int .u64 0, .int .u8 0, .int .u8 0, .int .u8 0, .int .u8 0, .int .u8 0, .int .u8 0, .int .u8 0, .int .u8 0, .int .u8 0, .int .u8 0, .int .u8 0, .int .u8 0, .int .u8 0, .int .u8 0, .int .u8 0, .int .u8 0, .int .u8 0, .int .u8 0, .int .u8 0, .int .u8 0, .int .u8 0, .int .u8 0, .int .u8 0, .int .u8 0, .int .u8 0, .int .u8 0, .int .u8 0, .int .u8 0, .int .u8 0, .int .u8 0, .int .u8 0, .int .u8 0, .int .u8 0, .int .u8 0, .int .u8 0, .int .u8 0, .int .u8 0, .int .u8 0, .int .u8 0, .int .u8 0, .int .u8 0, .int .u8 0, .int .u8 0, .int .u8 0, .int .u8 0, .int .u8 0, .int .u8 0, .int .u8 0]] 8 rfl (World.shaped_of_RefB (by kernel_rfl) (by kernel_rfl)) (by kernel_rfl) (by kernel_rfl) (by kernel_rfl) (door_met os _)) ?_
  intro W base args ds gs before hval0 hW _ hz0 hL _
  have hval : ∀ (j : Nat) t v, Tryd.f21.params[j]? = some t → args[j]? = some v → Value.okWide Tryd.prog W .any base t v := hval0
  have hW' := hW
  obtain ⟨p, q, hA0, hV, rfl, hfz, hnd⟩ := hW
  have hA : DataW.TrodAll enc Tryd.prog W 0 (fun _ => true) true Tryd.f21.params.toList args.toList ds p := hA0
  rw [Tryd.params21] at hA hval
  obtain ⟨v0, vs0, d0, ds0, p0, q0, hargs, rfl, rfl, h0, r0⟩ := trodAll_cons hA
  obtain ⟨v1, vs1, d1, ds1, p1, q1, rfl, rfl, rfl, h1, r1⟩ := trodAll_cons r0
  obtain ⟨rfl, rfl, rfl⟩ := trodAll_nil r1
  obtain rfl : args = #[v0, v1] := by cases args; simp_all
  obtain ⟨rfl, rfl⟩ := trodVars_none hV
  have k0 := h0
  have lt0 : ∀ x ∈ p0, x.block < W.heap.size := by obtain ⟨m, hm⟩ := k0; exact DataW.trod_lt m _ _ _ hm
  obtain ⟨a0, rfl, _, _, w0⟩ := open_int Tryd.underlying58 (hval 0 58 v0 rfl rfl) h0
  obtain ⟨a0, rfl⟩ := wf_u64 w0
  have k1 := h1
  have lt1 : ∀ x ∈ p1, x.block < W.heap.size := by obtain ⟨m, hm⟩ := k1; exact DataW.trod_lt m _ _ _ hm
  have th1_1 := TD.ofN h1
  have th1_2 := TD.field 0 0 58 1 Tryd.underlying76 (by kernel_rfl) (by kernel_rfl) th1_1
  obtain ⟨ta1_3, tq1_4⟩ := TD.u64 Tryd.underlying58 th1_2
  have th1_5 := TD.field 1 1 74 32 Tryd.underlying76 (by kernel_rfl) (by kernel_rfl) th1_1
  obtain ⟨ta1_6, tq1_7, tl1_8⟩ := TD.arr8 Tryd.underlying74 Tryd.underlying5 (by kernel_rfl) (by kernel_rfl) th1_5
  have th1_9 := TD.field 2 33 54 16 Tryd.underlying76 (by kernel_rfl) (by kernel_rfl) th1_1
  obtain ⟨ta1_10, tq1_11, tl1_12⟩ := TD.arr8 Tryd.underlying54 Tryd.underlying5 (by kernel_rfl) (by kernel_rfl) th1_9
  have te1_13 : v1.cells.toList = [U64 ta1_3] ++ cu8 ta1_6 ++ cu8 ta1_10 := cat_end (cat_step (cat_step (cat0 tq1_4) tq1_7 rfl) tq1_11 rfl) ((TD.slen Tryd.underlying76 th1_1).trans (by kernel_rfl))
  obtain rfl := agg_of Tryd.underlying76 (hval 1 76 v1 rfl rfl) te1_13
  clear hA0 hval0
  refine (nodeLeaves_w a0 ta1_3 ta1_6 ta1_10 W tl1_8 tl1_12 (tabG hL) (tabGr hL) (tabGi hL)).mono fun e W' hp => ?_
  obtain ⟨rfl, bel⟩ := hp.law
  exact ⟨_, rfl, _, _, _, [], _, [], hW', trodAll_mk1 (shut_bool Tryd.underlying4 _), (trodAll_cons_mk (Below.trod laidOut (by kernel_rfl) (of_decide_eq_true (by kernel_rfl)) k0 bel lt0) (trodAll_cons_mk (Below.trod laidOut (by kernel_rfl) (of_decide_eq_true (by kernel_rfl)) k1 bel lt1) trodAll_mk0)), rfl, bel.frame _, fun h => by cases h⟩
theorem band {a b : Bool} (ha : a = true) (hb : b = true) : (a && b) = true := by rw [ha, hb]; rfl
theorem kInPlace : (Rows.nodeLeavesRow.inPlace == Tryd.prog.inPlace 21) = true := by kernel_rfl
theorem kUnfollowed : (Rows.nodeLeavesRow.unfollowed == Tryd.prog.unfollowed 21) = true := by kernel_rfl
theorem kRecurses : (Rows.nodeLeavesRow.recurses == Tryd.prog.recurses 21) = true := by kernel_rfl
theorem kNamed : (Rows.nodeLeavesRow.named == Tryd.prog.varsNamed 21) = true := by kernel_rfl
theorem kGoes : false = Rows.nodeLeavesRow.goesBy Tryd.prog := by kernel_rfl
theorem kFn : Tryd.prog.funcNamed "entrust/entrustlaw08.NodeLeaves" = some 21 := by kernel_rfl
theorem kInst : Tryd.f21.isInstance Tryd.prog Rows.nodeLeavesRow.origin Rows.nodeLeavesRow.targs := of_decide_eq_true (by kernel_rfl)
theorem kWrap : Tryd.f21.isWrapper Tryd.prog Rows.nodeLeavesRow.wrapper Rows.nodeLeavesRow.mainSum := by unfold Func.isWrapper; first | (rw [if_pos (by decide +kernel)]; kernel_rfl) | (rw [if_neg (by decide +kernel)]; exact ⟨rfl, rfl⟩)
theorem closed : joinedFacts Tryd.prog 21 Tryd.f21 Rows.nodeLeavesSpec Rows.nodeLeavesRow = true := by
  unfold joinedFacts
  exact (band (band (band (band (band (band (band (band (band (band (band (band (band (band (band (band (band (band (band (band (band (band (band (band (band (band (band (band (band (band (band (by kernel_rfl) kLaidOut) kRowed) (by kernel_rfl)) (by kernel_rfl)) (by kernel_rfl)) kStops) (by kernel_rfl)) kKnobs) kInPlace) kUnfollowed) kRecurses) kNamed) (by kernel_rfl)) (by kernel_rfl)) (by kernel_rfl)) (by kernel_rfl)) (by kernel_rfl)) (by kernel_rfl)) (by kernel_rfl)) (by kernel_rfl)) (by kernel_rfl)) (by kernel_rfl)) (by kernel_rfl)) kHeard) kMayEnter) (by rw [kLifts]; rfl)) (by rw [kMake]; rfl)) (by kernel_rfl)) (by kernel_rfl)) (by kernel_rfl)) (by kernel_rfl))
theorem over : Rows.nodeLeavesRow.holds Tryd.pinned (OpenSpec.ofChange Rows.nodeLeavesSpec) :=
  OpenClaim.holds_of_wide 21 Tryd.f21 rfl rfl rfl rfl rfl rfl rfl ⟨rfl, rfl, rfl, rfl, rfl⟩ rfl rfl rfl rfl rfl kFn Tryd.func21 closed kInst kWrap
    (fun os started H enc _ => lifted os started H enc)
theorem kText : Rows.nodeLeavesRow.wfByText (OpenSpec.ofChange Rows.nodeLeavesSpec) = true := by kernel_rfl
theorem proved : Rows.NodeLeavesCardSaid :=
  Claim7.holds_tied_plain_at .later [] [.data, .data, .data, .data] true (true, "de7479bad4e85e403277db0d8cd99171af61f94a42c6cfc2fccf53d6b4e53da4") true
    over (fun _ h => by cases h) kText (fun _ h => by cases h) nodeLeaves_row_tie rfl ⟨rfl, rfl⟩ kMainIs rfl
    (fun f fn hf hfn => by
      obtain rfl : f = 21 := Option.some.inj (kFn.symm.trans hf) |>.symm
      obtain rfl : fn = Tryd.f21 := (Option.some.inj (Tryd.func21.symm.trans hfn)).symm
      exact ⟨kLooks, fun j t ht => by
        rw [Tryd.params21] at ht
        have hm : t ∈ [58, 76] := by simpa using Array.mem_of_getElem? ht
        have hall : ([58, 76].all fun u => !Tryd.prog.wantsStandIn u) = true := by kernel_rfl
        exact (show Tryd.prog.wantsStandIn t = false by simpa using List.all_eq_true.1 hall t hm)⟩)
    kGoes
end Go.Proofs.YtncoifiafklkjaaDoor.nodeLeaves
