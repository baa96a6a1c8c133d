import Derived.Test.YtkdpdgpphpngeaaDoorRows
import Derived.Test.YtkdpdgpphpngeaaDoorCards
import Derived.Test.YtkdpdgpphpngeaaDoorTie
import Derived.WalkKit
import Derived.ProofKit
import Derived.LaidMore
import Derived.OpenShut
import Derived.ShutString
import Derived.ChangeOld
import Derived.Below
import Derived.Stop.Joined
import Derived.SevenTiedAt
import Derived.Test.YtkdpdgpphpngeaaDoorPkTko5
namespace Go.Proofs.YtkdpdgpphpngeaaDoor.ticketOrders
open Go Go.Sx
open Go.ChangeShapes Go.WideShapes Go.ChangeAt Go.RowKit
open Go.ChangeMaps (open_string shut_string)
set_option linter.unusedVariables false
theorem own : ownKnob Tryd.prog.godebug = none := by kernel_rfl
theorem laidOut : laidOutB Tryd.prog = true := kLaidOut
theorem door_met (os : Os) (args : Array Value) : laidMetH Tryd.prog Rows.ticketOrdersRow.laid ((World.doorLaid Tryd.prog 400 os).forCall (fun _ _ => 0) ⟨#[], args, []⟩).memory :=
  laidMetH_of_parts3 (fuel := 8) (laidMet_of_run' 8 (by kernel_rfl) (by kernel_rfl)) (by kernel_rfl) (by kernel_rfl)
theorem tabG {W : World} (h : laidMetH Tryd.prog Rows.ticketOrdersRow.laid W) : GLs W :=
  ⟨(laid_rd h (by kernel_rfl) (name := "entrust/sha.constants") (d := Rows.laid_entrust_sha_constants) (List.mem_of_getElem? (i := 2) rfl) constL (by kernel_rfl) (g := 5) (t := 282) (e := 267) (by kernel_rfl) (by kernel_rfl) BB C7 (by kernel_rfl) (by kernel_rfl) (by decide)), (laid_rd h (by kernel_rfl) (name := "entrust/sha.initials") (d := Rows.laid_entrust_sha_initials) (List.mem_of_getElem? (i := 3) rfl) initL (by kernel_rfl) (g := 3) (t := 268) (e := 267) (by kernel_rfl) (by kernel_rfl) BD C7 (by kernel_rfl) (by kernel_rfl) (by decide))⟩
theorem tabGr {W : World} (h : laidMetH Tryd.prog Rows.ticketOrdersRow.laid W) : GLr W :=
  (laid_rd h (by kernel_rfl) (name := "entrust/entrustref02.Constants") (d := Rows.laid_entrust_entrustref02_Constants) (List.mem_of_getElem? (i := 0) rfl) constL (by kernel_rfl) (g := 2) (t := 282) (e := 267) (by kernel_rfl) (by kernel_rfl) BB C7 (by kernel_rfl) (by kernel_rfl) (by decide))
theorem tabGi {W : World} (h : laidMetH Tryd.prog Rows.ticketOrdersRow.laid W) : GLi W :=
  (laid_rd h (by kernel_rfl) (name := "entrust/entrustref02.Initials") (d := Rows.laid_entrust_entrustref02_Initials) (List.mem_of_getElem? (i := 1) rfl) initL (by kernel_rfl) (g := 1) (t := 268) (e := 267) (by kernel_rfl) (by kernel_rfl) BD C7 (by kernel_rfl) (by kernel_rfl) (by decide))
set_option maxRecDepth 100000 in
theorem lifted (os : Os) (started : os.Started) (H : Type) (enc : TypeId × Value → H) :
    ReturnsInHanded {} Tryd.checked os 13 .any (fun w args => (Rows.ticketOrdersSpec.pre enc Tryd.prog Tryd.f13 [] false w args ∧ laidMetH Tryd.prog Rows.ticketOrdersRow.laid w) ∧ sizedMet enc Tryd.prog Tryd.f13 (OpenSpec.ofChange Rows.ticketOrdersSpec) false w args)
      (Rows.ticketOrdersSpec.post enc Tryd.prog Tryd.f13 false true false false) := by
  refine returnsInHanded_of_change_and (C := Tryd.checked) (X := fun w _ => laidMetH Tryd.prog Rows.ticketOrdersRow.laid w) (fun _ _ _ hh h => h.of_heap hh) own started (by kernel_rfl) Tryd.func13
    (ChangeSpec.witness_shaped (enc := enc) (C := Tryd.checked) (os := os) (X := fun w _ => laidMetH Tryd.prog Rows.ticketOrdersRow.laid w) false (World.doorLaid Tryd.prog 400 os) #[.agg #[.int .i64 0, .slice none 0 0, .slice none 0 0, .int .u64 0], .int .u64 0] 8 rfl (World.shaped_of_RefB (by kernel_rfl) (by kernel_rfl)) (by kernel_rfl) (by kernel_rfl) (by kernel_rfl) (door_met os _)) ?_
  intro W base args ds gs before hval0 hW _ hz0 hL _
  have hval : ∀ (j : Nat) t v, Tryd.f13.params[j]? = some t → args[j]? = some v → Value.okWide Tryd.prog W .any base t v := hval0
  have hW' := hW
  obtain ⟨p, q, hA0, hV, rfl, hfz, hnd⟩ := hW
  have hA : DataW.TrodAll enc Tryd.prog W 0 (fun _ => true) true Tryd.f13.params.toList args.toList ds p := hA0
  rw [Tryd.params13] at hA hval
  obtain ⟨v0, vs0, d0, ds0, p0, q0, hargs, rfl, rfl, h0, r0⟩ := trodAll_cons hA
  obtain ⟨v1, vs1, d1, ds1, p1, q1, rfl, rfl, rfl, h1, r1⟩ := trodAll_cons r0
  obtain ⟨rfl, rfl, rfl⟩ := trodAll_nil r1
  obtain rfl : args = #[v0, v1] := by cases args; simp_all
  obtain ⟨rfl, rfl⟩ := trodVars_none hV
  have k0 := h0
  have lt0 : ∀ x ∈ p0, x.block < W.heap.size := by obtain ⟨m, hm⟩ := k0; exact DataW.trod_lt m _ _ _ hm
  have th0_1 := TD.ofN h0
  have th0_2 := TD.field 0 0 3 1 AO (by kernel_rfl) (by kernel_rfl) th0_1
  obtain ⟨ta0_3, tq0_4, tl0_5⟩ := TD.i64 CI th0_2
  have th0_6 := TD.field 1 1 23 1 AO (by kernel_rfl) (by kernel_rfl) th0_1
  obtain ⟨ta0_7, ta0_8, ta0_9, ta0_10, tq0_11, tl0_12, tl0_13, tl0_14, tl0_15⟩ := TD.sl64 A9 BY (by kernel_rfl) (of_decide_eq_true (by kernel_rfl)) th0_6
  have th0_16 := TD.field 2 2 24 1 AO (by kernel_rfl) (by kernel_rfl) th0_1
  obtain ⟨ta0_17, ta0_18, ta0_19, ta0_20, tq0_21, tl0_22, tl0_23, tl0_24, tl0_25⟩ := TD.slSeal B4 (by kernel_rfl) (of_decide_eq_true (by kernel_rfl)) DK (by kernel_rfl) (by kernel_rfl) (by kernel_rfl) BY Tryd.underlying159 C2 CD (by kernel_rfl) (by kernel_rfl) (by kernel_rfl) (by kernel_rfl) th0_16
  have th0_26 := TD.field 3 3 22 1 AO (by kernel_rfl) (by kernel_rfl) th0_1
  obtain ⟨ta0_27, tq0_28⟩ := TD.u64 BY th0_26
  have te0_29 : v0.cells.toList = [I64 ta0_3, .slice ta0_7 ta0_8 ta0_9, .slice ta0_17 ta0_18 ta0_19, U64 ta0_27] := cat_end (cat_step (cat_step (cat_step (cat0 tq0_4) tq0_11 rfl) tq0_21 rfl) tq0_28 rfl) ((TD.slen AO th0_1).trans (by kernel_rfl))
  obtain rfl := agg_of AO (hval 0 26 v0 rfl rfl) te0_29
  have k1 := h1
  have lt1 : ∀ x ∈ p1, x.block < W.heap.size := by obtain ⟨m, hm⟩ := k1; exact DataW.trod_lt m _ _ _ hm
  obtain ⟨a1, rfl, _, _, w1⟩ := open_int BY (hval 1 22 v1 rfl rfl) h1
  obtain ⟨a1, rfl⟩ := wf_u64 w1
  clear hA0 hval0
  refine (ticketOrders_w ta0_3 ta0_7 ta0_8 ta0_9 ta0_10 ta0_17 ta0_18 ta0_19 ta0_20 ta0_27 a1 W tl0_5 tl0_12 tl0_13 tl0_14 tl0_15 tl0_22 tl0_23 tl0_24 tl0_25 (tabG hL) (tabGr hL) (tabGi hL)).mono fun e W' hp => ?_
  obtain ⟨rfl, bel⟩ := hp.law
  exact ⟨_, rfl, _, _, _, [], _, [], hW', trodAll_mk1 (shut_bool Tryd.underlying4 _), (trodAll_cons_mk (Below.trod laidOut (by kernel_rfl) (of_decide_eq_true (by kernel_rfl)) k0 bel lt0) (trodAll_cons_mk (Below.trod laidOut (by kernel_rfl) (of_decide_eq_true (by kernel_rfl)) k1 bel lt1) trodAll_mk0)), rfl, bel.frame _, fun h => by cases h⟩
theorem band {a b : Bool} (ha : a = true) (hb : b = true) : (a && b) = true := by rw [ha, hb]; rfl
theorem kInPlace : (Rows.ticketOrdersRow.inPlace == Tryd.prog.inPlace 13) = true := by kernel_rfl
theorem kUnfollowed : (Rows.ticketOrdersRow.unfollowed == Tryd.prog.unfollowed 13) = true := by kernel_rfl
theorem kRecurses : (Rows.ticketOrdersRow.recurses == Tryd.prog.recurses 13) = true := by kernel_rfl
theorem kNamed : (Rows.ticketOrdersRow.named == Tryd.prog.varsNamed 13) = true := by kernel_rfl
theorem kGoes : false = Rows.ticketOrdersRow.goesBy Tryd.prog := by kernel_rfl
theorem kFn : Tryd.prog.funcNamed "entrust/entrustlaw13.TicketOrders" = some 13 := by kernel_rfl
theorem kInst : Tryd.f13.isInstance Tryd.prog Rows.ticketOrdersRow.origin Rows.ticketOrdersRow.targs := of_decide_eq_true (by kernel_rfl)
theorem kWrap : Tryd.f13.isWrapper Tryd.prog Rows.ticketOrdersRow.wrapper Rows.ticketOrdersRow.mainSum := by unfold Func.isWrapper; first | (rw [if_pos (by decide +kernel)]; kernel_rfl) | (rw [if_neg (by decide +kernel)]; exact ⟨rfl, rfl⟩)
theorem closed : joinedFacts Tryd.prog 13 Tryd.f13 Rows.ticketOrdersSpec Rows.ticketOrdersRow = true := by
  unfold joinedFacts
  exact (band (band (band (band (band (band (band (band (band (band (band (band (band (band (band (band (band (band (band (band (band (band (band (band (band (band (band (band (band (band (band (by kernel_rfl) kLaidOut) kRowed) (by kernel_rfl)) (by kernel_rfl)) (by kernel_rfl)) kStops) (by kernel_rfl)) kKnobs) kInPlace) kUnfollowed) kRecurses) kNamed) (by kernel_rfl)) (by kernel_rfl)) (by kernel_rfl)) (by kernel_rfl)) (by kernel_rfl)) (by kernel_rfl)) (by kernel_rfl)) (by kernel_rfl)) (by kernel_rfl)) (by kernel_rfl)) (by kernel_rfl)) kHeard) kMayEnter) (by rw [kLifts]; rfl)) (by rw [kMake]; rfl)) (by kernel_rfl)) (by kernel_rfl)) (by kernel_rfl)) (by kernel_rfl))
theorem over : Rows.ticketOrdersRow.holds Tryd.pinned (OpenSpec.ofChange Rows.ticketOrdersSpec) :=
  OpenClaim.holds_of_wide 13 Tryd.f13 rfl rfl rfl rfl rfl rfl rfl ⟨rfl, rfl, rfl, rfl, rfl⟩ rfl rfl rfl rfl rfl kFn Tryd.func13 closed kInst kWrap
    (fun os started H enc _ => lifted os started H enc)
theorem kText : Rows.ticketOrdersRow.wfByText (OpenSpec.ofChange Rows.ticketOrdersSpec) = true := by kernel_rfl
theorem proved : Rows.TicketOrdersCardSaid :=
  Claim7.holds_tied_plain_at .later [] [.data, .data, .data, .data] true (true, "2d70f5c833bfb7bc8de243230ee047973e9693ede75340627c994262dff806d2") true
    over (fun _ h => by cases h) kText (fun _ h => by cases h) ticketOrders_row_tie rfl ⟨rfl, rfl⟩ kMainIs rfl
    (fun f fn hf hfn => by
      obtain rfl : f = 13 := Option.some.inj (kFn.symm.trans hf) |>.symm
      obtain rfl : fn = Tryd.f13 := (Option.some.inj (Tryd.func13.symm.trans hfn)).symm
      exact ⟨kLooks, fun j t ht => by
        rw [Tryd.params13] at ht
        have hm : t ∈ [26, 22] := by simpa using Array.mem_of_getElem? ht
        have hall : ([26, 22].all fun u => !Tryd.prog.wantsStandIn u) = true := by kernel_rfl
        exact (show Tryd.prog.wantsStandIn t = false by simpa using List.all_eq_true.1 hall t hm)⟩)
    kGoes
end Go.Proofs.YtkdpdgpphpngeaaDoor.ticketOrders
