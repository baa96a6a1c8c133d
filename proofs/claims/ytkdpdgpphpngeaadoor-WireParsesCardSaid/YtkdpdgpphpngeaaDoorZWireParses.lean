import Derived.Test.YtkdpdgpphpngeaaDoorRows
import Derived.Test.YtkdpdgpphpngeaaDoorCards
import Derived.Test.YtkdpdgpphpngeaaDoorTie
import Derived.WalkKit
import Derived.ProofKit
import Derived.LaidMore
import Derived.OpenShut
import Derived.ShutString
import Derived.ChangeOld
import Derived.Below
import Derived.Stop.Joined
import Derived.SevenTiedAt
import Derived.Test.YtkdpdgpphpngeaaDoorPkWp6
namespace Go.Proofs.YtkdpdgpphpngeaaDoor.wireParses
open Go Go.Sx
open Go.ChangeShapes Go.WideShapes Go.ChangeAt Go.RowKit
open Go.ChangeMaps (open_string shut_string)
set_option linter.unusedVariables false
theorem own : ownKnob Tryd.prog.godebug = none := by kernel_rfl
theorem laidOut : laidOutB Tryd.prog = true := kLaidOut
theorem door_met (os : Os) (args : Array Value) : laidMetH Tryd.prog Rows.wireParsesRow.laid ((World.doorLaid Tryd.prog 400 os).forCall (fun _ _ => 0) ⟨#[], args, []⟩).memory :=
  laidMetH_of_parts3 (fuel := 8) (laidMet_of_run' 8 (by kernel_rfl) (by kernel_rfl)) (by kernel_rfl) (by kernel_rfl)
theorem tabW {W : World} (h : laidMetH Tryd.prog Rows.wireParsesRow.laid W) : GLw W :=
  (laid_rdS h (by kernel_rfl) (name := "entrust/wire.words") (d := Rows.laid_entrust_wire_words) (List.mem_of_getElem? (i := 0) rfl) [[], [114, 101, 97, 100], [115, 112, 97, 110], [99, 104, 97, 110, 103, 101], [99, 104, 97, 105, 110], [102, 111, 114, 103, 101, 116]] (by kernel_rfl) (g := 0) (t := 217) (e := 9) (by kernel_rfl) (by kernel_rfl) Tryd.underlying217 Tryd.underlying9 (by kernel_rfl) (by kernel_rfl) (by decide))
set_option maxRecDepth 100000 in
theorem lifted (os : Os) (started : os.Started) (H : Type) (enc : TypeId × Value → H) :
    ReturnsInHanded {} Tryd.checked os 10 .any (fun w args => (Rows.wireParsesSpec.pre enc Tryd.prog Tryd.f10 [] false w args ∧ laidMetH Tryd.prog Rows.wireParsesRow.laid w) ∧ sizedMet enc Tryd.prog Tryd.f10 (OpenSpec.ofChange Rows.wireParsesSpec) false w args)
      (Rows.wireParsesSpec.post enc Tryd.prog Tryd.f10 false true false false) := by
  refine returnsInHanded_of_change_and (C := Tryd.checked) (X := fun w _ => laidMetH Tryd.prog Rows.wireParsesRow.laid w) (fun _ _ _ hh h => h.of_heap hh) own started (by kernel_rfl) Tryd.func10
    (ChangeSpec.witness_shaped (enc := enc) (C := Tryd.checked) (os := os) (X := fun w _ => laidMetH Tryd.prog Rows.wireParsesRow.laid w) false (World.doorLaid Tryd.prog 400 os) #[.slice none 0 0] 8 rfl (World.shaped_of_RefB (by kernel_rfl) (by kernel_rfl)) (by kernel_rfl) (by kernel_rfl) (by kernel_rfl) (door_met os _)) ?_
  intro W base args ds gs before hval0 hW _ hz0 hL _
  have hval : ∀ (j : Nat) t v, Tryd.f10.params[j]? = some t → args[j]? = some v → Value.okWide Tryd.prog W .any base t v := hval0
  have hW' := hW
  obtain ⟨p, q, hA0, hV, rfl, hfz, hnd⟩ := hW
  have hA : DataW.TrodAll enc Tryd.prog W 0 (fun _ => true) true Tryd.f10.params.toList args.toList ds p := hA0
  rw [Tryd.params10] at hA hval
  obtain ⟨v0, vs0, d0, ds0, p0, q0, hargs, rfl, rfl, h0, r0⟩ := trodAll_cons hA
  obtain ⟨rfl, rfl, rfl⟩ := trodAll_nil r0
  obtain rfl : args = #[v0] := by cases args; simp_all
  obtain ⟨rfl, rfl⟩ := trodVars_none hV
  have k0 := h0
  have lt0 : ∀ x ∈ p0, x.block < W.heap.size := by obtain ⟨m, hm⟩ := k0; exact DataW.trod_lt m _ _ _ hm
  obtain ⟨a0, len0, cap0, rfl⟩ := okWide_slice AM (hval 0 43 v0 rfl rfl)
  obtain ⟨z0, wl0, wn0, wc0, wr0⟩ := open_rdn_u8 AM BS (by kernel_rfl) h0
  clear hA0 hval0
  refine (wireParses_w a0 len0 cap0 z0 W wl0 wn0 wc0 wr0 (tabW hL)).mono fun e W' hp => ?_
  obtain ⟨rfl, bel⟩ := hp.law
  exact ⟨_, rfl, _, _, _, [], _, [], hW', trodAll_mk1 (shut_bool Tryd.underlying4 _), (trodAll_cons_mk (Below.trod laidOut (by kernel_rfl) (of_decide_eq_true (by kernel_rfl)) k0 bel lt0) trodAll_mk0), rfl, bel.frame _, fun h => by cases h⟩
theorem band {a b : Bool} (ha : a = true) (hb : b = true) : (a && b) = true := by rw [ha, hb]; rfl
theorem kInPlace : (Rows.wireParsesRow.inPlace == Tryd.prog.inPlace 10) = true := by kernel_rfl
theorem kUnfollowed : (Rows.wireParsesRow.unfollowed == Tryd.prog.unfollowed 10) = true := by kernel_rfl
theorem kRecurses : (Rows.wireParsesRow.recurses == Tryd.prog.recurses 10) = true := by kernel_rfl
theorem kNamed : (Rows.wireParsesRow.named == Tryd.prog.varsNamed 10) = true := by kernel_rfl
theorem kGoes : false = Rows.wireParsesRow.goesBy Tryd.prog := by kernel_rfl
theorem kFn : Tryd.prog.funcNamed "entrust/entrustlaw14.WireParses" = some 10 := by kernel_rfl
theorem kInst : Tryd.f10.isInstance Tryd.prog Rows.wireParsesRow.origin Rows.wireParsesRow.targs := of_decide_eq_true (by kernel_rfl)
theorem kWrap : Tryd.f10.isWrapper Tryd.prog Rows.wireParsesRow.wrapper Rows.wireParsesRow.mainSum := by unfold Func.isWrapper; first | (rw [if_pos (by decide +kernel)]; kernel_rfl) | (rw [if_neg (by decide +kernel)]; exact ⟨rfl, rfl⟩)
theorem closed : joinedFacts Tryd.prog 10 Tryd.f10 Rows.wireParsesSpec Rows.wireParsesRow = true := by
  unfold joinedFacts
  exact (band (band (band (band (band (band (band (band (band (band (band (band (band (band (band (band (band (band (band (band (band (band (band (band (band (band (band (band (band (band (band (by kernel_rfl) kLaidOut) kRowed) (by kernel_rfl)) (by kernel_rfl)) (by kernel_rfl)) kStops) (by kernel_rfl)) kKnobs) kInPlace) kUnfollowed) kRecurses) kNamed) (by kernel_rfl)) (by kernel_rfl)) (by kernel_rfl)) (by kernel_rfl)) (by kernel_rfl)) (by kernel_rfl)) (by kernel_rfl)) (by kernel_rfl)) (by kernel_rfl)) (by kernel_rfl)) (by kernel_rfl)) kHeard) kMayEnter) (by rw [kLifts]; rfl)) (by rw [kMake]; rfl)) (by kernel_rfl)) (by kernel_rfl)) (by kernel_rfl)) (by kernel_rfl))
theorem over : Rows.wireParsesRow.holds Tryd.pinned (OpenSpec.ofChange Rows.wireParsesSpec) :=
  OpenClaim.holds_of_wide 10 Tryd.f10 rfl rfl rfl rfl rfl rfl rfl ⟨rfl, rfl, rfl, rfl, rfl⟩ rfl rfl rfl rfl rfl kFn Tryd.func10 closed kInst kWrap
    (fun os started H enc _ => lifted os started H enc)
theorem kText : Rows.wireParsesRow.wfByText (OpenSpec.ofChange Rows.wireParsesSpec) = true := by kernel_rfl
theorem proved : Rows.WireParsesCardSaid :=
  Claim7.holds_tied_plain_at .later [] [.data] true (true, "2d70f5c833bfb7bc8de243230ee047973e9693ede75340627c994262dff806d2") true
    over (fun _ h => by cases h) kText (fun _ h => by cases h) wireParses_row_tie rfl ⟨rfl, rfl⟩ kMainIs rfl
    (fun f fn hf hfn => by
      obtain rfl : f = 10 := Option.some.inj (kFn.symm.trans hf) |>.symm
      obtain rfl : fn = Tryd.f10 := (Option.some.inj (Tryd.func10.symm.trans hfn)).symm
      exact ⟨kLooks, fun j t ht => by
        rw [Tryd.params10] at ht
        have hm : t ∈ [43] := by simpa using Array.mem_of_getElem? ht
        have hall : ([43].all fun u => !Tryd.prog.wantsStandIn u) = true := by kernel_rfl
        exact (show Tryd.prog.wantsStandIn t = false by simpa using List.all_eq_true.1 hall t hm)⟩)
    kGoes
end Go.Proofs.YtkdpdgpphpngeaaDoor.wireParses
