import Derived.Test.YtkdpdgpphpngeaaDoorRows
import Derived.Test.YtkdpdgpphpngeaaDoorCards
import Derived.Test.YtkdpdgpphpngeaaDoorTie
import Derived.WalkKit
import Derived.ProofKit
import Derived.LaidMore
import Derived.OpenShut
import Derived.ShutString
import Derived.ChangeOld
import Derived.Below
import Derived.Stop.Joined
import Derived.SevenTiedAt
import Derived.Test.YtkdpdgpphpngeaaDoorPkTks6
namespace Go.Proofs.YtkdpdgpphpngeaaDoor.ticketSigns
open Go Go.Sx
open Go.ChangeShapes Go.WideShapes Go.ChangeAt Go.RowKit
open Go.ChangeMaps (open_string shut_string)
set_option linter.unusedVariables false
theorem own : ownKnob Tryd.prog.godebug = none := by kernel_rfl
theorem laidOut : laidOutB Tryd.prog = true := kLaidOut
theorem door_met (os : Os) (args : Array Value) : laidMetH Tryd.prog Rows.ticketSignsRow.laid ((World.doorLaid Tryd.prog 400 os).forCall (fun _ _ => 0) ⟨#[], args, []⟩).memory :=
  laidMetH_of_parts3 (fuel := 8) (laidMet_of_run' 8 (by kernel_rfl) (by kernel_rfl)) (by kernel_rfl) (by kernel_rfl)
theorem tabG {W : World} (h : laidMetH Tryd.prog Rows.ticketSignsRow.laid W) : GLs W :=
  ⟨(laid_rd h (by kernel_rfl) (name := "entrust/sha.constants") (d := Rows.laid_entrust_sha_constants) (List.mem_of_getElem? (i := 2) rfl) constL (by kernel_rfl) (g := 5) (t := 282) (e := 267) (by kernel_rfl) (by kernel_rfl) BW DS (by kernel_rfl) (by kernel_rfl) (by decide)), (laid_rd h (by kernel_rfl) (name := "entrust/sha.initials") (d := Rows.laid_entrust_sha_initials) (List.mem_of_getElem? (i := 3) rfl) initL (by kernel_rfl) (g := 3) (t := 268) (e := 267) (by kernel_rfl) (by kernel_rfl) B2 DS (by kernel_rfl) (by kernel_rfl) (by decide))⟩
theorem tabGr {W : World} (h : laidMetH Tryd.prog Rows.ticketSignsRow.laid W) : GLr W :=
  (laid_rd h (by kernel_rfl) (name := "entrust/entrustref02.Constants") (d := Rows.laid_entrust_entrustref02_Constants) (List.mem_of_getElem? (i := 0) rfl) constL (by kernel_rfl) (g := 2) (t := 282) (e := 267) (by kernel_rfl) (by kernel_rfl) BW DS (by kernel_rfl) (by kernel_rfl) (by decide))
theorem tabGi {W : World} (h : laidMetH Tryd.prog Rows.ticketSignsRow.laid W) : GLi W :=
  (laid_rd h (by kernel_rfl) (name := "entrust/entrustref02.Initials") (d := Rows.laid_entrust_entrustref02_Initials) (List.mem_of_getElem? (i := 1) rfl) initL (by kernel_rfl) (g := 1) (t := 268) (e := 267) (by kernel_rfl) (by kernel_rfl) B2 DS (by kernel_rfl) (by kernel_rfl) (by decide))
set_option maxRecDepth 100000 in
theorem lifted (os : Os) (started : os.Started) (H : Type) (enc : TypeId × Value → H) :
    ReturnsInHanded {} Tryd.checked os 9 .any (fun w args => (Rows.ticketSignsSpec.pre enc Tryd.prog Tryd.f9 [] false w args ∧ laidMetH Tryd.prog Rows.ticketSignsRow.laid w) ∧ sizedMet enc Tryd.prog Tryd.f9 (OpenSpec.ofChange Rows.ticketSignsSpec) false w args)
      (Rows.ticketSignsSpec.post enc Tryd.prog Tryd.f9 false true false false) := by
  refine returnsInHanded_of_change_and (C := Tryd.checked) (X := fun w _ => laidMetH Tryd.prog Rows.ticketSignsRow.laid w) (fun _ _ _ hh h => h.of_heap hh) own started (by kernel_rfl) Tryd.func9
    (ChangeSpec.witness_shaped (enc := enc) (C := Tryd.checked) (os := os) (X := fun w _ => laidMetH Tryd.prog Rows.ticketSignsRow.laid w) false (World.doorLaid Tryd.prog 400 os) #[.agg (Array.replicate 32 (.int .u8 0)), .agg #[.int .u64 0, .int .u64 0, .int .i64 0, .slice none 0 0, .slice none 0 0, .int .u64 0, .int .u8 0, .int .u8 0, .int .u8 0, .int .u8 0, .int .u8 0, .int .u8 0, .int .u8 0, .int .u8 0, .int .u8 0, .int .u8 0, .int .u8 0, .int .u8 0, .int .u8 0, .int .u8 0, .int .u8 0, .int .u8 0]] 8 rfl (World.shaped_of_RefB (by kernel_rfl) (by kernel_rfl)) (by kernel_rfl) (by kernel_rfl) (by kernel_rfl) (door_met os _)) ?_
  intro W base args ds gs before hval0 hW _ hz0 hL _
  have hval : ∀ (j : Nat) t v, Tryd.f9.params[j]? = some t → args[j]? = some v → Value.okWide Tryd.prog W .any base t v := hval0
  have hW' := hW
  obtain ⟨p, q, hA0, hV, rfl, hfz, hnd⟩ := hW
  have hA : DataW.TrodAll enc Tryd.prog W 0 (fun _ => true) true Tryd.f9.params.toList args.toList ds p := hA0
  rw [Tryd.params9] at hA hval
  obtain ⟨v0, vs0, d0, ds0, p0, q0, hargs, rfl, rfl, h0, r0⟩ := trodAll_cons hA
  obtain ⟨v1, vs1, d1, ds1, p1, q1, rfl, rfl, rfl, h1, r1⟩ := trodAll_cons r0
  obtain ⟨rfl, rfl, rfl⟩ := trodAll_nil r1
  obtain rfl : args = #[v0, v1] := by cases args; simp_all
  obtain ⟨rfl, rfl⟩ := trodVars_none hV
  have k0 := h0
  have lt0 : ∀ x ∈ p0, x.block < W.heap.size := by obtain ⟨m, hm⟩ := k0; exact DataW.trod_lt m _ _ _ hm
  obtain ⟨a0, rfl, w0⟩ := open_arr_u8 BL BY (by kernel_rfl) (by kernel_rfl) (hval 0 54 v0 rfl rfl) h0
  have k1 := h1
  have lt1 : ∀ x ∈ p1, x.block < W.heap.size := by obtain ⟨m, hm⟩ := k1; exact DataW.trod_lt m _ _ _ hm
  have th1_1 := TD.ofN h1
  have th1_2 := F8 0 0 22 1 AS (by kernel_rfl) (by kernel_rfl) th1_1
  obtain ⟨ta1_3, tq1_4⟩ := TD.u64 CF th1_2
  have th1_5 := F8 1 1 22 1 AS (by kernel_rfl) (by kernel_rfl) th1_1
  obtain ⟨ta1_6, tq1_7⟩ := TD.u64 CF th1_5
  have th1_8 := F8 2 2 26 4 AS (by kernel_rfl) (by kernel_rfl) th1_1
  have th1_9 := TD.sub (o := 2) (F8 0 0 3 1 AG (by kernel_rfl) (by kernel_rfl) th1_8) (by decide) (by decide)
  obtain ⟨ta1_10, tq1_11, tl1_12⟩ := TD.i64 DH th1_9
  have th1_13 := TD.sub (o := 3) (F8 1 1 23 1 AG (by kernel_rfl) (by kernel_rfl) th1_8) (by decide) (by decide)
  obtain ⟨ta1_14, ta1_15, ta1_16, ta1_17, tq1_18, tl1_19, tl1_20, tl1_21, tl1_22⟩ := TD.sl64 BU CF (by kernel_rfl) (of_decide_eq_true (by kernel_rfl)) th1_13
  have th1_23 := TD.sub (o := 4) (F8 2 2 24 1 AG (by kernel_rfl) (by kernel_rfl) th1_8) (by decide) (by decide)
  obtain ⟨ta1_24, ta1_25, ta1_26, ta1_27, tq1_28, tl1_29, tl1_30, tl1_31, tl1_32⟩ := TD.slSeal CJ (by kernel_rfl) (of_decide_eq_true (by kernel_rfl)) D8 (by kernel_rfl) (by kernel_rfl) (by kernel_rfl) CF Tryd.underlying159 BC BY (by kernel_rfl) (by kernel_rfl) (by kernel_rfl) (by kernel_rfl) th1_23
  have th1_33 := TD.sub (o := 5) (F8 3 3 22 1 AG (by kernel_rfl) (by kernel_rfl) th1_8) (by decide) (by decide)
  obtain ⟨ta1_34, tq1_35⟩ := TD.u64 CF th1_33
  have th1_36 := F8 3 6 27 16 AS (by kernel_rfl) (by kernel_rfl) th1_1
  obtain ⟨ta1_37, tq1_38, tl1_39⟩ := TD.arr8 BC BY (by kernel_rfl) (by kernel_rfl) th1_36
  have te1_40 : v1.cells.toList = [U64 ta1_3, U64 ta1_6, I64 ta1_10, .slice ta1_14 ta1_15 ta1_16, .slice ta1_24 ta1_25 ta1_26, U64 ta1_34] ++ cu8 ta1_37 := cat_end (cat_step (cat_step (cat_step (cat_step (cat_step (cat_step (cat0 tq1_4) tq1_7 rfl) tq1_11 rfl) tq1_18 rfl) tq1_28 rfl) tq1_35 rfl) tq1_38 rfl) ((TD.slen AS th1_1).trans (by kernel_rfl))
  obtain rfl := agg_of AS (hval 1 29 v1 rfl rfl) te1_40
  clear hA0 hval0
  refine (ticketSigns_w a0 ta1_3 ta1_6 ta1_10 ta1_14 ta1_15 ta1_16 ta1_17 ta1_24 ta1_25 ta1_26 ta1_27 ta1_34 ta1_37 W w0 tl1_12 tl1_19 tl1_20 tl1_21 tl1_22 tl1_29 tl1_30 tl1_31 tl1_32 tl1_39 (tabG hL) (tabGr hL) (tabGi hL)).mono fun e W' hp => ?_
  obtain ⟨rfl, bel⟩ := hp.law
  exact ⟨_, rfl, _, _, _, [], _, [], hW', trodAll_mk1 (shut_bool Tryd.underlying4 _), (trodAll_cons_mk (Below.trod laidOut (by kernel_rfl) (of_decide_eq_true (by kernel_rfl)) k0 bel lt0) (trodAll_cons_mk (Below.trod laidOut (by kernel_rfl) (of_decide_eq_true (by kernel_rfl)) k1 bel lt1) trodAll_mk0)), rfl, bel.frame _, fun h => by cases h⟩
theorem band {a b : Bool} (ha : a = true) (hb : b = true) : (a && b) = true := by rw [ha, hb]; rfl
theorem kInPlace : (Rows.ticketSignsRow.inPlace == Tryd.prog.inPlace 9) = true := by kernel_rfl
theorem kUnfollowed : (Rows.ticketSignsRow.unfollowed == Tryd.prog.unfollowed 9) = true := by kernel_rfl
theorem kRecurses : (Rows.ticketSignsRow.recurses == Tryd.prog.recurses 9) = true := by kernel_rfl
theorem kNamed : (Rows.ticketSignsRow.named == Tryd.prog.varsNamed 9) = true := by kernel_rfl
theorem kGoes : false = Rows.ticketSignsRow.goesBy Tryd.prog := by kernel_rfl
theorem kFn : Tryd.prog.funcNamed "entrust/entrustlaw13.TicketSigns" = some 9 := by kernel_rfl
theorem kInst : Tryd.f9.isInstance Tryd.prog Rows.ticketSignsRow.origin Rows.ticketSignsRow.targs := of_decide_eq_true (by kernel_rfl)
theorem kWrap : Tryd.f9.isWrapper Tryd.prog Rows.ticketSignsRow.wrapper Rows.ticketSignsRow.mainSum := by unfold Func.isWrapper; first | (rw [if_pos (by decide +kernel)]; kernel_rfl) | (rw [if_neg (by decide +kernel)]; exact ⟨rfl, rfl⟩)
theorem closed : joinedFacts Tryd.prog 9 Tryd.f9 Rows.ticketSignsSpec Rows.ticketSignsRow = true := by
  unfold joinedFacts
  exact (band (band (band (band (band (band (band (band (band (band (band (band (band (band (band (band (band (band (band (band (band (band (band (band (band (band (band (band (band (band (band (by kernel_rfl) kLaidOut) kRowed) (by kernel_rfl)) (by kernel_rfl)) (by kernel_rfl)) kStops) (by kernel_rfl)) kKnobs) kInPlace) kUnfollowed) kRecurses) kNamed) (by kernel_rfl)) (by kernel_rfl)) (by kernel_rfl)) (by kernel_rfl)) (by kernel_rfl)) (by kernel_rfl)) (by kernel_rfl)) (by kernel_rfl)) (by kernel_rfl)) (by kernel_rfl)) (by kernel_rfl)) kHeard) kMayEnter) (by rw [kLifts]; rfl)) (by rw [kMake]; rfl)) (by kernel_rfl)) (by kernel_rfl)) (by kernel_rfl)) (by kernel_rfl))
theorem over : Rows.ticketSignsRow.holds Tryd.pinned (OpenSpec.ofChange Rows.ticketSignsSpec) :=
  OpenClaim.holds_of_wide 9 Tryd.f9 rfl rfl rfl rfl rfl rfl rfl ⟨rfl, rfl, rfl, rfl, rfl⟩ rfl rfl rfl rfl rfl kFn Tryd.func9 closed kInst kWrap
    (fun os started H enc _ => lifted os started H enc)
theorem kText : Rows.ticketSignsRow.wfByText (OpenSpec.ofChange Rows.ticketSignsSpec) = true := by kernel_rfl
theorem proved : Rows.TicketSignsCardSaid :=
  Claim7.holds_tied_plain_at .later [] [.data, .data, .data, .data] true (true, "2d70f5c833bfb7bc8de243230ee047973e9693ede75340627c994262dff806d2") true
    over (fun _ h => by cases h) kText (fun _ h => by cases h) ticketSigns_row_tie rfl ⟨rfl, rfl⟩ kMainIs rfl
    (fun f fn hf hfn => by
      obtain rfl : f = 9 := Option.some.inj (kFn.symm.trans hf) |>.symm
      obtain rfl : fn = Tryd.f9 := (Option.some.inj (Tryd.func9.symm.trans hfn)).symm
      exact ⟨kLooks, fun j t ht => by
        rw [Tryd.params9] at ht
        have hm : t ∈ [54, 29] := by simpa using Array.mem_of_getElem? ht
        have hall : ([54, 29].all fun u => !Tryd.prog.wantsStandIn u) = true := by kernel_rfl
        exact (show Tryd.prog.wantsStandIn t = false by simpa using List.all_eq_true.1 hall t hm)⟩)
    kGoes
end Go.Proofs.YtkdpdgpphpngeaaDoor.ticketSigns
