import Derived.Test.YtkdpdgpphpngeaaDoorRows
import Derived.Test.YtkdpdgpphpngeaaDoorCards
import Derived.Test.YtkdpdgpphpngeaaDoorTie
import Derived.WalkKit
import Derived.ProofKit
import Derived.LaidMore
import Derived.OpenShut
import Derived.ShutString
import Derived.ChangeOld
import Derived.Below
import Derived.Stop.Joined
import Derived.SevenTiedAt
import Derived.Test.YtkdpdgpphpngeaaDoorPkTkq6
namespace Go.Proofs.YtkdpdgpphpngeaaDoor.ticketSeals
open Go Go.Sx
open Go.ChangeShapes Go.WideShapes Go.ChangeAt Go.RowKit
open Go.ChangeMaps (open_string shut_string)
set_option linter.unusedVariables false
theorem own : ownKnob Tryd.prog.godebug = none := by kernel_rfl
theorem laidOut : laidOutB Tryd.prog = true := kLaidOut
theorem door_met (os : Os) (args : Array Value) : laidMetH Tryd.prog Rows.ticketSealsRow.laid ((World.doorLaid Tryd.prog 400 os).forCall (fun _ _ => 0) ⟨#[], args, []⟩).memory :=
  laidMetH_of_parts3 (fuel := 8) (laidMet_of_run' 8 (by kernel_rfl) (by kernel_rfl)) (by kernel_rfl) (by kernel_rfl)
theorem tabG {W : World} (h : laidMetH Tryd.prog Rows.ticketSealsRow.laid W) : GLs W :=
  ⟨(laid_rd h (by kernel_rfl) (name := "entrust/sha.constants") (d := Rows.laid_entrust_sha_constants) (List.mem_of_getElem? (i := 2) rfl) constL (by kernel_rfl) (g := 5) (t := 282) (e := 267) (by kernel_rfl) (by kernel_rfl) BU D5 (by kernel_rfl) (by kernel_rfl) (by decide)), (laid_rd h (by kernel_rfl) (name := "entrust/sha.initials") (d := Rows.laid_entrust_sha_initials) (List.mem_of_getElem? (i := 3) rfl) initL (by kernel_rfl) (g := 3) (t := 268) (e := 267) (by kernel_rfl) (by kernel_rfl) BX D5 (by kernel_rfl) (by kernel_rfl) (by decide))⟩
theorem tabGr {W : World} (h : laidMetH Tryd.prog Rows.ticketSealsRow.laid W) : GLr W :=
  (laid_rd h (by kernel_rfl) (name := "entrust/entrustref02.Constants") (d := Rows.laid_entrust_entrustref02_Constants) (List.mem_of_getElem? (i := 0) rfl) constL (by kernel_rfl) (g := 2) (t := 282) (e := 267) (by kernel_rfl) (by kernel_rfl) BU D5 (by kernel_rfl) (by kernel_rfl) (by decide))
theorem tabGi {W : World} (h : laidMetH Tryd.prog Rows.ticketSealsRow.laid W) : GLi W :=
  (laid_rd h (by kernel_rfl) (name := "entrust/entrustref02.Initials") (d := Rows.laid_entrust_entrustref02_Initials) (List.mem_of_getElem? (i := 1) rfl) initL (by kernel_rfl) (g := 1) (t := 268) (e := 267) (by kernel_rfl) (by kernel_rfl) BX D5 (by kernel_rfl) (by kernel_rfl) (by decide))
set_option maxRecDepth 100000 in
theorem lifted (os : Os) (started : os.Started) (H : Type) (enc : TypeId × Value → H) :
    ReturnsInHanded {} Tryd.checked os 16 .any (fun w args => (Rows.ticketSealsSpec.pre enc Tryd.prog Tryd.f16 [] false w args ∧ laidMetH Tryd.prog Rows.ticketSealsRow.laid w) ∧ sizedMet enc Tryd.prog Tryd.f16 (OpenSpec.ofChange Rows.ticketSealsSpec) false w args)
      (Rows.ticketSealsSpec.post enc Tryd.prog Tryd.f16 false true false false) := by
  refine returnsInHanded_of_change_and (C := Tryd.checked) (X := fun w _ => laidMetH Tryd.prog Rows.ticketSealsRow.laid w) (fun _ _ _ hh h => h.of_heap hh) own started (by kernel_rfl) Tryd.func16
    (ChangeSpec.witness_shaped (enc := enc) (C := Tryd.checked) (os := os) (X := fun w _ => laidMetH Tryd.prog Rows.ticketSealsRow.laid w) false (World.doorLaid Tryd.prog 400 os) #[.agg (Array.replicate 16 (.int .u8 0)), .int .u64 0, .agg #[.slice none 0 0, .slice none 0 0]] 8 rfl (World.shaped_of_RefB (by kernel_rfl) (by kernel_rfl)) (by kernel_rfl) (by kernel_rfl) (by kernel_rfl) (door_met os _)) ?_
  intro W base args ds gs before hval0 hW _ hz0 hL _
  have hval : ∀ (j : Nat) t v, Tryd.f16.params[j]? = some t → args[j]? = some v → Value.okWide Tryd.prog W .any base t v := hval0
  have hW' := hW
  obtain ⟨p, q, hA0, hV, rfl, hfz, hnd⟩ := hW
  have hA : DataW.TrodAll enc Tryd.prog W 0 (fun _ => true) true Tryd.f16.params.toList args.toList ds p := hA0
  rw [Tryd.params16] at hA hval
  obtain ⟨v0, vs0, d0, ds0, p0, q0, hargs, rfl, rfl, h0, r0⟩ := trodAll_cons hA
  obtain ⟨v1, vs1, d1, ds1, p1, q1, rfl, rfl, rfl, h1, r1⟩ := trodAll_cons r0
  obtain ⟨v2, vs2, d2, ds2, p2, q2, rfl, rfl, rfl, h2, r2⟩ := trodAll_cons r1
  obtain ⟨rfl, rfl, rfl⟩ := trodAll_nil r2
  obtain rfl : args = #[v0, v1, v2] := by cases args; simp_all
  obtain ⟨rfl, rfl⟩ := trodVars_none hV
  have k0 := h0
  have lt0 : ∀ x ∈ p0, x.block < W.heap.size := by obtain ⟨m, hm⟩ := k0; exact DataW.trod_lt m _ _ _ hm
  obtain ⟨a0, rfl, w0⟩ := open_arr_u8 EX B3 (by kernel_rfl) (by kernel_rfl) (hval 0 131 v0 rfl rfl) h0
  have k1 := h1
  have lt1 : ∀ x ∈ p1, x.block < W.heap.size := by obtain ⟨m, hm⟩ := k1; exact DataW.trod_lt m _ _ _ hm
  obtain ⟨a1, rfl, _, _, w1⟩ := open_int B8 (hval 1 22 v1 rfl rfl) h1
  obtain ⟨a1, rfl⟩ := wf_u64 w1
  have k2 := h2
  have lt2 : ∀ x ∈ p2, x.block < W.heap.size := by obtain ⟨m, hm⟩ := k2; exact DataW.trod_lt m _ _ _ hm
  have th2_1 := TD.ofN h2
  have th2_2 := TD.field 0 0 23 1 BY (by kernel_rfl) (by kernel_rfl) th2_1
  obtain ⟨ta2_3, ta2_4, ta2_5, ta2_6, tq2_7, tl2_8, tl2_9, tl2_10, tl2_11⟩ := TD.sl64 BI B8 (by kernel_rfl) (of_decide_eq_true (by kernel_rfl)) th2_2
  have th2_12 := TD.field 1 1 132 1 BY (by kernel_rfl) (by kernel_rfl) th2_1
  obtain ⟨ta2_13, ta2_14, ta2_15, ta2_16, tq2_17, tl2_18, tl2_19, tl2_20, tl2_21⟩ := TD.sl32 C3 DJ B3 (by kernel_rfl) (of_decide_eq_true (by kernel_rfl)) (by kernel_rfl) th2_12
  have te2_22 : v2.cells.toList = [.slice ta2_3 ta2_4 ta2_5, .slice ta2_13 ta2_14 ta2_15] := cat_end (cat_step (cat0 tq2_7) tq2_17 rfl) ((TD.slen BY th2_1).trans (by kernel_rfl))
  obtain rfl := agg_of BY (hval 2 134 v2 rfl rfl) te2_22
  clear hA0 hval0
  refine (ticketSeals_w a0 a1 ta2_3 ta2_4 ta2_5 ta2_6 ta2_13 ta2_14 ta2_15 ta2_16 W w0 tl2_8 tl2_9 tl2_10 tl2_11 tl2_18 tl2_19 tl2_20 tl2_21 (tabG hL) (tabGr hL) (tabGi hL)).mono fun e W' hp => ?_
  obtain ⟨rfl, bel⟩ := hp.law
  exact ⟨_, rfl, _, _, _, [], _, [], hW', trodAll_mk1 (shut_bool Tryd.underlying4 _), (trodAll_cons_mk (Below.trod laidOut (by kernel_rfl) (of_decide_eq_true (by kernel_rfl)) k0 bel lt0) (trodAll_cons_mk (Below.trod laidOut (by kernel_rfl) (of_decide_eq_true (by kernel_rfl)) k1 bel lt1) (trodAll_cons_mk (Below.trod laidOut (by kernel_rfl) (of_decide_eq_true (by kernel_rfl)) k2 bel lt2) trodAll_mk0))), rfl, bel.frame _, fun h => by cases h⟩
theorem band {a b : Bool} (ha : a = true) (hb : b = true) : (a && b) = true := by rw [ha, hb]; rfl
theorem kInPlace : (Rows.ticketSealsRow.inPlace == Tryd.prog.inPlace 16) = true := by kernel_rfl
theorem kUnfollowed : (Rows.ticketSealsRow.unfollowed == Tryd.prog.unfollowed 16) = true := by kernel_rfl
theorem kRecurses : (Rows.ticketSealsRow.recurses == Tryd.prog.recurses 16) = true := by kernel_rfl
theorem kNamed : (Rows.ticketSealsRow.named == Tryd.prog.varsNamed 16) = true := by kernel_rfl
theorem kGoes : false = Rows.ticketSealsRow.goesBy Tryd.prog := by kernel_rfl
theorem kFn : Tryd.prog.funcNamed "entrust/entrustlaw13.TicketSeals" = some 16 := by kernel_rfl
theorem kInst : Tryd.f16.isInstance Tryd.prog Rows.ticketSealsRow.origin Rows.ticketSealsRow.targs := of_decide_eq_true (by kernel_rfl)
theorem kWrap : Tryd.f16.isWrapper Tryd.prog Rows.ticketSealsRow.wrapper Rows.ticketSealsRow.mainSum := by unfold Func.isWrapper; first | (rw [if_pos (by decide +kernel)]; kernel_rfl) | (rw [if_neg (by decide +kernel)]; exact ⟨rfl, rfl⟩)
theorem closed : joinedFacts Tryd.prog 16 Tryd.f16 Rows.ticketSealsSpec Rows.ticketSealsRow = true := by
  unfold joinedFacts
  exact (band (band (band (band (band (band (band (band (band (band (band (band (band (band (band (band (band (band (band (band (band (band (band (band (band (band (band (band (band (band (band (by kernel_rfl) kLaidOut) kRowed) (by kernel_rfl)) (by kernel_rfl)) (by kernel_rfl)) kStops) (by kernel_rfl)) kKnobs) kInPlace) kUnfollowed) kRecurses) kNamed) (by kernel_rfl)) (by kernel_rfl)) (by kernel_rfl)) (by kernel_rfl)) (by kernel_rfl)) (by kernel_rfl)) (by kernel_rfl)) (by kernel_rfl)) (by kernel_rfl)) (by kernel_rfl)) (by kernel_rfl)) kHeard) kMayEnter) (by rw [kLifts]; rfl)) (by rw [kMake]; rfl)) (by kernel_rfl)) (by kernel_rfl)) (by kernel_rfl)) (by kernel_rfl))
theorem over : Rows.ticketSealsRow.holds Tryd.pinned (OpenSpec.ofChange Rows.ticketSealsSpec) :=
  OpenClaim.holds_of_wide 16 Tryd.f16 rfl rfl rfl rfl rfl rfl rfl ⟨rfl, rfl, rfl, rfl, rfl⟩ rfl rfl rfl rfl rfl kFn Tryd.func16 closed kInst kWrap
    (fun os started H enc _ => lifted os started H enc)
theorem kText : Rows.ticketSealsRow.wfByText (OpenSpec.ofChange Rows.ticketSealsSpec) = true := by kernel_rfl
theorem proved : Rows.TicketSealsCardSaid :=
  Claim7.holds_tied_plain_at .later [] [.data, .data, .data, .data] true (true, "2d70f5c833bfb7bc8de243230ee047973e9693ede75340627c994262dff806d2") true
    over (fun _ h => by cases h) kText (fun _ h => by cases h) ticketSeals_row_tie rfl ⟨rfl, rfl⟩ kMainIs rfl
    (fun f fn hf hfn => by
      obtain rfl : f = 16 := Option.some.inj (kFn.symm.trans hf) |>.symm
      obtain rfl : fn = Tryd.f16 := (Option.some.inj (Tryd.func16.symm.trans hfn)).symm
      exact ⟨kLooks, fun j t ht => by
        rw [Tryd.params16] at ht
        have hm : t ∈ [131, 22, 134] := by simpa using Array.mem_of_getElem? ht
        have hall : ([131, 22, 134].all fun u => !Tryd.prog.wantsStandIn u) = true := by kernel_rfl
        exact (show Tryd.prog.wantsStandIn t = false by simpa using List.all_eq_true.1 hall t hm)⟩)
    kGoes
end Go.Proofs.YtkdpdgpphpngeaaDoor.ticketSeals
