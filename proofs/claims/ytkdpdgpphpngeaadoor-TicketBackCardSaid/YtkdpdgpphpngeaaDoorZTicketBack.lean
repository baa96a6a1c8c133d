import Derived.Test.YtkdpdgpphpngeaaDoorRows
import Derived.Test.YtkdpdgpphpngeaaDoorCards
import Derived.Test.YtkdpdgpphpngeaaDoorTie
import Derived.WalkKit
import Derived.ProofKit
import Derived.LaidMore
import Derived.OpenShut
import Derived.ShutString
import Derived.ChangeOld
import Derived.Below
import Derived.Stop.Joined
import Derived.SevenTiedAt
import Derived.Test.YtkdpdgpphpngeaaDoorPkTB7
namespace Go.Proofs.YtkdpdgpphpngeaaDoor.ticketBack
open Go Go.Sx
open Go.ChangeShapes Go.WideShapes Go.ChangeAt Go.RowKit
open Go.ChangeMaps (open_string shut_string)
set_option linter.unusedVariables false
theorem own : ownKnob Tryd.prog.godebug = none := by kernel_rfl
theorem laidOut : laidOutB Tryd.prog = true := kLaidOut
theorem door_met (os : Os) (args : Array Value) : laidMetH Tryd.prog Rows.ticketBackRow.laid ((World.doorLaid Tryd.prog 400 os).forCall (fun _ _ => 0) ⟨#[], args, []⟩).memory :=
  laidMetH_of_parts3 (fuel := 8) (laidMet_of_run' 8 (by kernel_rfl) (by kernel_rfl)) (by kernel_rfl) (by kernel_rfl)
theorem tabG {W : World} (h : laidMetH Tryd.prog Rows.ticketBackRow.laid W) : GLs W :=
  ⟨(laid_rd h (by kernel_rfl) (name := "entrust/sha.constants") (d := Rows.laid_entrust_sha_constants) (List.mem_of_getElem? (i := 2) rfl) constL (by kernel_rfl) (g := 5) (t := 282) (e := 267) (by kernel_rfl) (by kernel_rfl) BS DR (by kernel_rfl) (by kernel_rfl) (by decide)), (laid_rd h (by kernel_rfl) (name := "entrust/sha.initials") (d := Rows.laid_entrust_sha_initials) (List.mem_of_getElem? (i := 3) rfl) initL (by kernel_rfl) (g := 3) (t := 268) (e := 267) (by kernel_rfl) (by kernel_rfl) BX DR (by kernel_rfl) (by kernel_rfl) (by decide))⟩
theorem tabGr {W : World} (h : laidMetH Tryd.prog Rows.ticketBackRow.laid W) : GLr W :=
  (laid_rd h (by kernel_rfl) (name := "entrust/entrustref02.Constants") (d := Rows.laid_entrust_entrustref02_Constants) (List.mem_of_getElem? (i := 0) rfl) constL (by kernel_rfl) (g := 2) (t := 282) (e := 267) (by kernel_rfl) (by kernel_rfl) BS DR (by kernel_rfl) (by kernel_rfl) (by decide))
theorem tabGi {W : World} (h : laidMetH Tryd.prog Rows.ticketBackRow.laid W) : GLi W :=
  (laid_rd h (by kernel_rfl) (name := "entrust/entrustref02.Initials") (d := Rows.laid_entrust_entrustref02_Initials) (List.mem_of_getElem? (i := 1) rfl) initL (by kernel_rfl) (g := 1) (t := 268) (e := 267) (by kernel_rfl) (by kernel_rfl) BX DR (by kernel_rfl) (by kernel_rfl) (by decide))
set_option maxRecDepth 100000 in
theorem lifted (os : Os) (started : os.Started) (H : Type) (enc : TypeId × Value → H) :
    ReturnsInHanded {} Tryd.checked os 12 .any (fun w args => (Rows.ticketBackSpec.pre enc Tryd.prog Tryd.f12 [] false w args ∧ laidMetH Tryd.prog Rows.ticketBackRow.laid w) ∧ sizedMet enc Tryd.prog Tryd.f12 (OpenSpec.ofChange Rows.ticketBackSpec) false w args)
      (Rows.ticketBackSpec.post enc Tryd.prog Tryd.f12 false true false false) := by
  refine returnsInHanded_of_change_and (C := Tryd.checked) (X := fun w _ => laidMetH Tryd.prog Rows.ticketBackRow.laid w) (fun _ _ _ hh h => h.of_heap hh) own started (by kernel_rfl) Tryd.func12
    (ChangeSpec.witness_shaped (enc := enc) (C := Tryd.checked) (os := os) (X := fun w _ => laidMetH Tryd.prog Rows.ticketBackRow.laid w) false (World.doorLaid Tryd.prog 400 os) #[.agg (Array.replicate 32 (.int .u8 0)), .agg #[.int .u64 0, .int .u64 0, .int .i64 0, .slice none 0 0, .slice none 0 0, .int .u64 0, .int .u8 0, .int .u8 0, .int .u8 0, .int .u8 0, .int .u8 0, .int .u8 0, .int .u8 0, .int .u8 0, .int .u8 0, .int .u8 0, .int .u8 0, .int .u8 0, .int .u8 0, .int .u8 0, .int .u8 0, .int .u8 0], .int .i64 0] 8 rfl (World.shaped_of_RefB (by kernel_rfl) (by kernel_rfl)) (by kernel_rfl) (by kernel_rfl) (by kernel_rfl) (door_met os _)) ?_
  intro W base args ds gs before hval0 hW _ hz0 hL _
  have hval : ∀ (j : Nat) t v, Tryd.f12.params[j]? = some t → args[j]? = some v → Value.okWide Tryd.prog W .any base t v := hval0
  have hW' := hW
  obtain ⟨p, q, hA0, hV, rfl, hfz, hnd⟩ := hW
  have hA : DataW.TrodAll enc Tryd.prog W 0 (fun _ => true) true Tryd.f12.params.toList args.toList ds p := hA0
  rw [Tryd.params12] at hA hval
  obtain ⟨v0, vs0, d0, ds0, p0, q0, hargs, rfl, rfl, h0, r0⟩ := trodAll_cons hA
  obtain ⟨v1, vs1, d1, ds1, p1, q1, rfl, rfl, rfl, h1, r1⟩ := trodAll_cons r0
  obtain ⟨v2, vs2, d2, ds2, p2, q2, rfl, rfl, rfl, h2, r2⟩ := trodAll_cons r1
  obtain ⟨rfl, rfl, rfl⟩ := trodAll_nil r2
  obtain rfl : args = #[v0, v1, v2] := by cases args; simp_all
  obtain ⟨rfl, rfl⟩ := trodVars_none hV
  have k0 := h0
  have lt0 : ∀ x ∈ p0, x.block < W.heap.size := by obtain ⟨m, hm⟩ := k0; exact DataW.trod_lt m _ _ _ hm
  obtain ⟨a0, rfl, w0⟩ := open_arr_u8 B9 B6 (by kernel_rfl) (by kernel_rfl) (hval 0 54 v0 rfl rfl) h0
  have k1 := h1
  have lt1 : ∀ x ∈ p1, x.block < W.heap.size := by obtain ⟨m, hm⟩ := k1; exact DataW.trod_lt m _ _ _ hm
  have th1_1 := TD.ofN h1
  have th1_2 := GG 0 0 22 1 AO (by kernel_rfl) (by kernel_rfl) th1_1
  obtain ⟨ta1_3, tq1_4⟩ := TD.u64 CF th1_2
  have th1_5 := GG 1 1 22 1 AO (by kernel_rfl) (by kernel_rfl) th1_1
  obtain ⟨ta1_6, tq1_7⟩ := TD.u64 CF th1_5
  have th1_8 := GG 2 2 26 4 AO (by kernel_rfl) (by kernel_rfl) th1_1
  have th1_9 := TD.sub (o := 2) (GG 0 0 3 1 AF (by kernel_rfl) (by kernel_rfl) th1_8) (by decide) (by decide)
  obtain ⟨ta1_10, tq1_11, tl1_12⟩ := TD.i64 CG th1_9
  have th1_13 := TD.sub (o := 3) (GG 1 1 23 1 AF (by kernel_rfl) (by kernel_rfl) th1_8) (by decide) (by decide)
  obtain ⟨ta1_14, ta1_15, ta1_16, ta1_17, tq1_18, tl1_19, tl1_20, tl1_21, tl1_22⟩ := TD.sl64 CA CF (by kernel_rfl) (of_decide_eq_true (by kernel_rfl)) th1_13
  have th1_23 := TD.sub (o := 4) (GG 2 2 24 1 AF (by kernel_rfl) (by kernel_rfl) th1_8) (by decide) (by decide)
  obtain ⟨ta1_24, ta1_25, ta1_26, ta1_27, tq1_28, tl1_29, tl1_30, tl1_31, tl1_32⟩ := TD.slSeal CC (by kernel_rfl) (of_decide_eq_true (by kernel_rfl)) CT (by kernel_rfl) (by kernel_rfl) (by kernel_rfl) CF E1 BJ B6 (by kernel_rfl) (by kernel_rfl) (by kernel_rfl) (by kernel_rfl) th1_23
  have th1_33 := TD.sub (o := 5) (GG 3 3 22 1 AF (by kernel_rfl) (by kernel_rfl) th1_8) (by decide) (by decide)
  obtain ⟨ta1_34, tq1_35⟩ := TD.u64 CF th1_33
  have th1_36 := GG 3 6 27 16 AO (by kernel_rfl) (by kernel_rfl) th1_1
  obtain ⟨ta1_37, tq1_38, tl1_39⟩ := TD.arr8 BJ B6 (by kernel_rfl) (by kernel_rfl) th1_36
  have te1_40 : v1.cells.toList = [U64 ta1_3, U64 ta1_6, I64 ta1_10, .slice ta1_14 ta1_15 ta1_16, .slice ta1_24 ta1_25 ta1_26, U64 ta1_34] ++ cu8 ta1_37 := cat_end (cat_step (cat_step (cat_step (cat_step (cat_step (cat_step (cat0 tq1_4) tq1_7 rfl) tq1_11 rfl) tq1_18 rfl) tq1_28 rfl) tq1_35 rfl) tq1_38 rfl) ((TD.slen AO th1_1).trans (by kernel_rfl))
  obtain rfl := agg_of AO (hval 1 29 v1 rfl rfl) te1_40
  have k2 := h2
  have lt2 : ∀ x ∈ p2, x.block < W.heap.size := by obtain ⟨m, hm⟩ := k2; exact DataW.trod_lt m _ _ _ hm
  obtain ⟨a2, rfl, _, _, w2⟩ := open_int CG (hval 2 3 v2 rfl rfl) h2
  have w2 := bounds_i64 w2
  clear hA0 hval0
  refine (ticketBack_w a0 ta1_3 ta1_6 ta1_10 ta1_14 ta1_15 ta1_16 ta1_17 ta1_24 ta1_25 ta1_26 ta1_27 ta1_34 ta1_37 a2 W w0 tl1_12 tl1_19 tl1_20 tl1_21 tl1_22 tl1_29 tl1_30 tl1_31 tl1_32 tl1_39 w2 (tabG hL) (tabGr hL) (tabGi hL)).mono fun e W' hp => ?_
  obtain ⟨rfl, bel⟩ := hp.law
  exact ⟨_, rfl, _, _, _, [], _, [], hW', trodAll_mk1 (shut_bool Tryd.underlying4 _), (trodAll_cons_mk (Below.trod laidOut (by kernel_rfl) (of_decide_eq_true (by kernel_rfl)) k0 bel lt0) (trodAll_cons_mk (Below.trod laidOut (by kernel_rfl) (of_decide_eq_true (by kernel_rfl)) k1 bel lt1) (trodAll_cons_mk (Below.trod laidOut (by kernel_rfl) (of_decide_eq_true (by kernel_rfl)) k2 bel lt2) trodAll_mk0))), rfl, bel.frame _, fun h => by cases h⟩
theorem band {a b : Bool} (ha : a = true) (hb : b = true) : (a && b) = true := by rw [ha, hb]; rfl
theorem kInPlace : (Rows.ticketBackRow.inPlace == Tryd.prog.inPlace 12) = true := by kernel_rfl
theorem kUnfollowed : (Rows.ticketBackRow.unfollowed == Tryd.prog.unfollowed 12) = true := by kernel_rfl
theorem kRecurses : (Rows.ticketBackRow.recurses == Tryd.prog.recurses 12) = true := by kernel_rfl
theorem kNamed : (Rows.ticketBackRow.named == Tryd.prog.varsNamed 12) = true := by kernel_rfl
theorem kGoes : false = Rows.ticketBackRow.goesBy Tryd.prog := by kernel_rfl
theorem kFn : Tryd.prog.funcNamed "entrust/entrustlaw13.TicketBack" = some 12 := by kernel_rfl
theorem kInst : Tryd.f12.isInstance Tryd.prog Rows.ticketBackRow.origin Rows.ticketBackRow.targs := of_decide_eq_true (by kernel_rfl)
theorem kWrap : Tryd.f12.isWrapper Tryd.prog Rows.ticketBackRow.wrapper Rows.ticketBackRow.mainSum := by unfold Func.isWrapper; first | (rw [if_pos (by decide +kernel)]; kernel_rfl) | (rw [if_neg (by decide +kernel)]; exact ⟨rfl, rfl⟩)
theorem closed : joinedFacts Tryd.prog 12 Tryd.f12 Rows.ticketBackSpec Rows.ticketBackRow = true := by
  unfold joinedFacts
  exact (band (band (band (band (band (band (band (band (band (band (band (band (band (band (band (band (band (band (band (band (band (band (band (band (band (band (band (band (band (band (band (by kernel_rfl) kLaidOut) kRowed) (by kernel_rfl)) (by kernel_rfl)) (by kernel_rfl)) kStops) (by kernel_rfl)) kKnobs) kInPlace) kUnfollowed) kRecurses) kNamed) (by kernel_rfl)) (by kernel_rfl)) (by kernel_rfl)) (by kernel_rfl)) (by kernel_rfl)) (by kernel_rfl)) (by kernel_rfl)) (by kernel_rfl)) (by kernel_rfl)) (by kernel_rfl)) (by kernel_rfl)) kHeard) kMayEnter) (by rw [kLifts]; rfl)) (by rw [kMake]; rfl)) (by kernel_rfl)) (by kernel_rfl)) (by kernel_rfl)) (by kernel_rfl))
theorem over : Rows.ticketBackRow.holds Tryd.pinned (OpenSpec.ofChange Rows.ticketBackSpec) :=
  OpenClaim.holds_of_wide 12 Tryd.f12 rfl rfl rfl rfl rfl rfl rfl ⟨rfl, rfl, rfl, rfl, rfl⟩ rfl rfl rfl rfl rfl kFn Tryd.func12 closed kInst kWrap
    (fun os started H enc _ => lifted os started H enc)
theorem kText : Rows.ticketBackRow.wfByText (OpenSpec.ofChange Rows.ticketBackSpec) = true := by kernel_rfl
theorem proved : Rows.TicketBackCardSaid :=
  Claim7.holds_tied_plain_at .later [] [.data, .data, .data, .data] true (true, "2d70f5c833bfb7bc8de243230ee047973e9693ede75340627c994262dff806d2") true
    over (fun _ h => by cases h) kText (fun _ h => by cases h) ticketBack_row_tie rfl ⟨rfl, rfl⟩ kMainIs rfl
    (fun f fn hf hfn => by
      obtain rfl : f = 12 := Option.some.inj (kFn.symm.trans hf) |>.symm
      obtain rfl : fn = Tryd.f12 := (Option.some.inj (Tryd.func12.symm.trans hfn)).symm
      exact ⟨kLooks, fun j t ht => by
        rw [Tryd.params12] at ht
        have hm : t ∈ [54, 29, 3] := by simpa using Array.mem_of_getElem? ht
        have hall : ([54, 29, 3].all fun u => !Tryd.prog.wantsStandIn u) = true := by kernel_rfl
        exact (show Tryd.prog.wantsStandIn t = false by simpa using List.all_eq_true.1 hall t hm)⟩)
    kGoes
end Go.Proofs.YtkdpdgpphpngeaaDoor.ticketBack
