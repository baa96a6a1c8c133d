import Derived.Test.YthbmeklfmamkeaaDoorRows
import Derived.Test.YthbmeklfmamkeaaDoorCards
import Derived.Test.YthbmeklfmamkeaaDoorTie
import Derived.WalkKit
import Derived.ProofKit
import Derived.LaidMore
import Derived.OpenShut
import Derived.ShutString
import Derived.ChangeOld
import Derived.Below
import Derived.Stop.Joined
import Derived.SevenTiedAt
import Derived.Test.YthbmeklfmamkeaaDoorPkRt2
namespace Go.Proofs.YthbmeklfmamkeaaDoor.shaRoots
open Go Go.Sx
open Go.ChangeShapes Go.WideShapes Go.ChangeAt Go.RowKit
open Go.ChangeMaps (open_string shut_string)
set_option linter.unusedVariables false
theorem own : ownKnob Tryd.prog.godebug = none := by kernel_rfl
theorem laidOut : laidOutB Tryd.prog = true := kLaidOut
theorem door_met (os : Os) (args : Array Value) : laidMetH Tryd.prog Rows.shaRootsRow.laid ((World.doorLaid Tryd.prog 400 os).forCall (fun _ _ => 0) ⟨#[], args, []⟩).memory :=
  laidMetH_of_parts3 (fuel := 8) (laidMet_of_run' 8 (by kernel_rfl) (by kernel_rfl)) (by kernel_rfl) (by kernel_rfl)
theorem tabG {W : World} (h : laidMetH Tryd.prog Rows.shaRootsRow.laid W) : GLs W :=
  ⟨(laid_rd h (by kernel_rfl) (name := "entrust/sha.constants") (d := Rows.laid_entrust_sha_constants) (List.mem_of_getElem? (i := 2) rfl) constL (by kernel_rfl) (g := 3) (t := 30) (e := 23) (by kernel_rfl) (by kernel_rfl) AU A3 (by kernel_rfl) (by kernel_rfl) (by decide)), (laid_rd h (by kernel_rfl) (name := "entrust/sha.initials") (d := Rows.laid_entrust_sha_initials) (List.mem_of_getElem? (i := 3) rfl) initL (by kernel_rfl) (g := 2) (t := 32) (e := 23) (by kernel_rfl) (by kernel_rfl) A0 A3 (by kernel_rfl) (by kernel_rfl) (by decide))⟩
theorem tabGr {W : World} (h : laidMetH Tryd.prog Rows.shaRootsRow.laid W) : GLr W :=
  (laid_rd h (by kernel_rfl) (name := "entrust/entrustref02.Constants") (d := Rows.laid_entrust_entrustref02_Constants) (List.mem_of_getElem? (i := 0) rfl) constL (by kernel_rfl) (g := 0) (t := 30) (e := 23) (by kernel_rfl) (by kernel_rfl) AU A3 (by kernel_rfl) (by kernel_rfl) (by decide))
theorem tabGi {W : World} (h : laidMetH Tryd.prog Rows.shaRootsRow.laid W) : GLi W :=
  (laid_rd h (by kernel_rfl) (name := "entrust/entrustref02.Initials") (d := Rows.laid_entrust_entrustref02_Initials) (List.mem_of_getElem? (i := 1) rfl) initL (by kernel_rfl) (g := 1) (t := 32) (e := 23) (by kernel_rfl) (by kernel_rfl) A0 A3 (by kernel_rfl) (by kernel_rfl) (by decide))
set_option maxRecDepth 100000 in
theorem lifted (os : Os) (started : os.Started) (H : Type) (enc : TypeId × Value → H) :
    ReturnsInHanded {} Tryd.checked os 3 .any (fun w args => (Rows.shaRootsSpec.pre enc Tryd.prog Tryd.f3 [] false w args ∧ laidMetH Tryd.prog Rows.shaRootsRow.laid w) ∧ sizedMet enc Tryd.prog Tryd.f3 (OpenSpec.ofChange Rows.shaRootsSpec) false w args)
      (Rows.shaRootsSpec.post enc Tryd.prog Tryd.f3 false true false false) := by
  refine returnsInHanded_of_change_and (C := Tryd.checked) (X := fun w _ => laidMetH Tryd.prog Rows.shaRootsRow.laid w) (fun _ _ _ hh h => h.of_heap hh) own started (by kernel_rfl) Tryd.func3
    (ChangeSpec.witness_shaped (enc := enc) (C := Tryd.checked) (os := os) (X := fun w _ => laidMetH Tryd.prog Rows.shaRootsRow.laid w) false (World.doorLaid Tryd.prog 400 os) #[.int .i64 0] 8 rfl (World.shaped_of_RefB (by kernel_rfl) (by kernel_rfl)) (by kernel_rfl) (by kernel_rfl) (by kernel_rfl) (door_met os _)) ?_
  intro W base args ds gs before hval0 hW _ hz0 hL _
  have hval : ∀ (j : Nat) t v, Tryd.f3.params[j]? = some t → args[j]? = some v → Value.okWide Tryd.prog W .any base t v := hval0
  have hW' := hW
  obtain ⟨p, q, hA0, hV, rfl, hfz, hnd⟩ := hW
  have hA : DataW.TrodAll enc Tryd.prog W 0 (fun _ => true) true Tryd.f3.params.toList args.toList ds p := hA0
  rw [Tryd.params3] at hA hval
  obtain ⟨v0, vs0, d0, ds0, p0, q0, hargs, rfl, rfl, h0, r0⟩ := trodAll_cons hA
  obtain ⟨rfl, rfl, rfl⟩ := trodAll_nil r0
  obtain rfl : args = #[v0] := by cases args; simp_all
  obtain ⟨rfl, rfl⟩ := trodVars_none hV
  have k0 := h0
  have lt0 : ∀ x ∈ p0, x.block < W.heap.size := by obtain ⟨m, hm⟩ := k0; exact DataW.trod_lt m _ _ _ hm
  obtain ⟨a0, rfl, _, _, w0⟩ := open_int Tryd.underlying3 (hval 0 3 v0 rfl rfl) h0
  have w0 := bounds_i64 w0
  clear hA0 hval0
  refine (shaRoots_w a0 W w0 (tabG hL) (tabGr hL) (tabGi hL)).mono fun e W' hp => ?_
  obtain ⟨rfl, bel⟩ := hp.law
  exact ⟨_, rfl, _, _, _, [], _, [], hW', trodAll_mk1 (shut_bool Tryd.underlying4 _), (trodAll_cons_mk (Below.trod laidOut (by kernel_rfl) (of_decide_eq_true (by kernel_rfl)) k0 bel lt0) trodAll_mk0), rfl, bel.frame _, fun h => by cases h⟩
theorem band {a b : Bool} (ha : a = true) (hb : b = true) : (a && b) = true := by rw [ha, hb]; rfl
theorem kInPlace : (Rows.shaRootsRow.inPlace == Tryd.prog.inPlace 3) = true := by kernel_rfl
theorem kUnfollowed : (Rows.shaRootsRow.unfollowed == Tryd.prog.unfollowed 3) = true := by kernel_rfl
theorem kRecurses : (Rows.shaRootsRow.recurses == Tryd.prog.recurses 3) = true := by kernel_rfl
theorem kNamed : (Rows.shaRootsRow.named == Tryd.prog.varsNamed 3) = true := by kernel_rfl
theorem kGoes : false = Rows.shaRootsRow.goesBy Tryd.prog := by kernel_rfl
theorem kFn : Tryd.prog.funcNamed "entrust/entrustlaw02.ShaRoots" = some 3 := by kernel_rfl
theorem kInst : Tryd.f3.isInstance Tryd.prog Rows.shaRootsRow.origin Rows.shaRootsRow.targs := of_decide_eq_true (by kernel_rfl)
theorem kWrap : Tryd.f3.isWrapper Tryd.prog Rows.shaRootsRow.wrapper Rows.shaRootsRow.mainSum := by unfold Func.isWrapper; first | (rw [if_pos (by decide +kernel)]; kernel_rfl) | (rw [if_neg (by decide +kernel)]; exact ⟨rfl, rfl⟩)
theorem closed : joinedFacts Tryd.prog 3 Tryd.f3 Rows.shaRootsSpec Rows.shaRootsRow = true := by
  unfold joinedFacts
  exact (band (band (band (band (band (band (band (band (band (band (band (band (band (band (band (band (band (band (band (band (band (band (band (band (band (band (band (band (band (band (band (by kernel_rfl) kLaidOut) kRowed) (by kernel_rfl)) (by kernel_rfl)) (by kernel_rfl)) kStops) (by kernel_rfl)) kKnobs) kInPlace) kUnfollowed) kRecurses) kNamed) (by kernel_rfl)) (by kernel_rfl)) (by kernel_rfl)) (by kernel_rfl)) (by kernel_rfl)) (by kernel_rfl)) (by kernel_rfl)) (by kernel_rfl)) (by kernel_rfl)) (by kernel_rfl)) (by kernel_rfl)) kHeard) kMayEnter) (by rw [kLifts]; rfl)) (by rw [kMake]; rfl)) (by kernel_rfl)) (by kernel_rfl)) (by kernel_rfl)) (by kernel_rfl))
theorem over : Rows.shaRootsRow.holds Tryd.pinned (OpenSpec.ofChange Rows.shaRootsSpec) :=
  OpenClaim.holds_of_wide 3 Tryd.f3 rfl rfl rfl rfl rfl rfl rfl ⟨rfl, rfl, rfl, rfl, rfl⟩ rfl rfl rfl rfl rfl kFn Tryd.func3 closed kInst kWrap
    (fun os started H enc _ => lifted os started H enc)
theorem kText : Rows.shaRootsRow.wfByText (OpenSpec.ofChange Rows.shaRootsSpec) = true := by kernel_rfl
theorem proved : Rows.ShaRootsCardSaid :=
  Claim7.holds_tied_plain_at .later [] [.data, .data, .data, .data] true (true, "8e9fcb99219b7255f3b0a1d546c7e3381a7969db178b7c97cbb9328db1abc5bb") true
    over (fun _ h => by cases h) kText (fun _ h => by cases h) shaRoots_row_tie rfl ⟨rfl, rfl⟩ kMainIs rfl
    (fun f fn hf hfn => by
      obtain rfl : f = 3 := Option.some.inj (kFn.symm.trans hf) |>.symm
      obtain rfl : fn = Tryd.f3 := (Option.some.inj (Tryd.func3.symm.trans hfn)).symm
      exact ⟨kLooks, fun j t ht => by
        rw [Tryd.params3] at ht
        have hm : t ∈ [3] := by simpa using Array.mem_of_getElem? ht
        have hall : ([3].all fun u => !Tryd.prog.wantsStandIn u) = true := by kernel_rfl
        exact (show Tryd.prog.wantsStandIn t = false by simpa using List.all_eq_true.1 hall t hm)⟩)
    kGoes
end Go.Proofs.YthbmeklfmamkeaaDoor.shaRoots
