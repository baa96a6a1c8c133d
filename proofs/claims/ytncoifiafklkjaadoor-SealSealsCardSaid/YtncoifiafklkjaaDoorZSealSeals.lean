import Derived.Test.YtncoifiafklkjaaDoorRows
import Derived.Test.YtncoifiafklkjaaDoorCards
import Derived.Test.YtncoifiafklkjaaDoorTie
import Derived.WalkKit
import Derived.ProofKit
import Derived.LaidMore
import Derived.OpenShut
import Derived.ShutString
import Derived.ChangeOld
import Derived.Below
import Derived.Stop.Joined
import Derived.SevenTiedAt
import Derived.Test.YtncoifiafklkjaaDoorPkSealxSealSeals2
namespace Go.Proofs.YtncoifiafklkjaaDoor.sealSeals
open Go Go.Sx
open Go.ChangeShapes Go.WideShapes Go.ChangeAt Go.RowKit
open Go.ChangeMaps (open_string shut_string)
set_option linter.unusedVariables false
theorem own : ownKnob Tryd.prog.godebug = none := by kernel_rfl
theorem laidOut : laidOutB Tryd.prog = true := kLaidOut
theorem door_met (os : Os) (args : Array Value) : laidMetH Tryd.prog Rows.sealSealsRow.laid ((World.doorLaid Tryd.prog 400 os).forCall (fun _ _ => 0) ⟨#[], args, []⟩).memory :=
  laidMetH_of_parts3 (fuel := 8) (laidMet_of_run' 8 (by kernel_rfl) (by kernel_rfl)) (by kernel_rfl) (by kernel_rfl)
theorem tabG {W : World} (h : laidMetH Tryd.prog Rows.sealSealsRow.laid W) : GLs W :=
  ⟨(laid_rd h (by kernel_rfl) (name := "entrust/sha.constants") (d := Rows.laid_entrust_sha_constants) (List.mem_of_getElem? (i := 2) rfl) constL (by kernel_rfl) (g := 3) (t := 44) (e := 30) (by kernel_rfl) (by kernel_rfl) Tryd.underlying44 Tryd.underlying30 (by kernel_rfl) (by kernel_rfl) (by decide)), (laid_rd h (by kernel_rfl) (name := "entrust/sha.initials") (d := Rows.laid_entrust_sha_initials) (List.mem_of_getElem? (i := 3) rfl) initL (by kernel_rfl) (g := 2) (t := 31) (e := 30) (by kernel_rfl) (by kernel_rfl) Tryd.underlying31 Tryd.underlying30 (by kernel_rfl) (by kernel_rfl) (by decide))⟩
theorem tabGr {W : World} (h : laidMetH Tryd.prog Rows.sealSealsRow.laid W) : GLr W :=
  (laid_rd h (by kernel_rfl) (name := "entrust/entrustref02.Constants") (d := Rows.laid_entrust_entrustref02_Constants) (List.mem_of_getElem? (i := 0) rfl) constL (by kernel_rfl) (g := 0) (t := 44) (e := 30) (by kernel_rfl) (by kernel_rfl) Tryd.underlying44 Tryd.underlying30 (by kernel_rfl) (by kernel_rfl) (by decide))
theorem tabGi {W : World} (h : laidMetH Tryd.prog Rows.sealSealsRow.laid W) : GLi W :=
  (laid_rd h (by kernel_rfl) (name := "entrust/entrustref02.Initials") (d := Rows.laid_entrust_entrustref02_Initials) (List.mem_of_getElem? (i := 1) rfl) initL (by kernel_rfl) (g := 1) (t := 31) (e := 30) (by kernel_rfl) (by kernel_rfl) Tryd.underlying31 Tryd.underlying30 (by kernel_rfl) (by kernel_rfl) (by decide))
set_option maxRecDepth 100000 in
theorem lifted (os : Os) (started : os.Started) (H : Type) (enc : TypeId × Value → H) :
    ReturnsInHanded {} Tryd.checked os 14 .any (fun w args => (Rows.sealSealsSpec.pre enc Tryd.prog Tryd.f14 [] false w args ∧ laidMetH Tryd.prog Rows.sealSealsRow.laid w) ∧ sizedMet enc Tryd.prog Tryd.f14 (OpenSpec.ofChange Rows.sealSealsSpec) false w args)
      (Rows.sealSealsSpec.post enc Tryd.prog Tryd.f14 false true false false) := by
  refine returnsInHanded_of_change_and (C := Tryd.checked) (X := fun w _ => laidMetH Tryd.prog Rows.sealSealsRow.laid w) (fun _ _ _ hh h => h.of_heap hh) own started (by kernel_rfl) Tryd.func14
    (ChangeSpec.witness_shaped (enc := enc) (C := Tryd.checked) (os := os) (X := fun w _ => laidMetH Tryd.prog Rows.sealSealsRow.laid w) false (World.doorLaid Tryd.prog 400 os) #[.agg (Array.replicate 16 (.int .u8 0)), .agg #[.int .u64 0, .int .u64 0], .agg (Array.replicate 32 (.int .u8 0))] 8 rfl (World.shaped_of_RefB (by kernel_rfl) (by kernel_rfl)) (by kernel_rfl) (by kernel_rfl) (by kernel_rfl) (door_met os _)) ?_
  intro W base args ds gs before hval0 hW _ hz0 hL _
  have hval : ∀ (j : Nat) t v, Tryd.f14.params[j]? = some t → args[j]? = some v → Value.okWide Tryd.prog W .any base t v := hval0
  have hW' := hW
  obtain ⟨p, q, hA0, hV, rfl, hfz, hnd⟩ := hW
  have hA : DataW.TrodAll enc Tryd.prog W 0 (fun _ => true) true Tryd.f14.params.toList args.toList ds p := hA0
  rw [Tryd.params14] at hA hval
  obtain ⟨v0, vs0, d0, ds0, p0, q0, hargs, rfl, rfl, h0, r0⟩ := trodAll_cons hA
  obtain ⟨v1, vs1, d1, ds1, p1, q1, rfl, rfl, rfl, h1, r1⟩ := trodAll_cons r0
  obtain ⟨v2, vs2, d2, ds2, p2, q2, rfl, rfl, rfl, h2, r2⟩ := trodAll_cons r1
  obtain ⟨rfl, rfl, rfl⟩ := trodAll_nil r2
  obtain rfl : args = #[v0, v1, v2] := by cases args; simp_all
  obtain ⟨rfl, rfl⟩ := trodVars_none hV
  have k0 := h0
  have lt0 : ∀ x ∈ p0, x.block < W.heap.size := by obtain ⟨m, hm⟩ := k0; exact DataW.trod_lt m _ _ _ hm
  obtain ⟨a0, rfl, w0⟩ := open_arr_u8 Tryd.underlying55 Tryd.underlying5 (by kernel_rfl) (by kernel_rfl) (hval 0 55 v0 rfl rfl) h0
  have k1 := h1
  have lt1 : ∀ x ∈ p1, x.block < W.heap.size := by obtain ⟨m, hm⟩ := k1; exact DataW.trod_lt m _ _ _ hm
  have th1_1 := TD.ofN h1
  have th1_2 := TD.field 0 0 58 1 Tryd.underlying73 (by kernel_rfl) (by kernel_rfl) th1_1
  obtain ⟨ta1_3, tq1_4⟩ := TD.u64 Tryd.underlying58 th1_2
  have th1_5 := TD.field 1 1 58 1 Tryd.underlying73 (by kernel_rfl) (by kernel_rfl) th1_1
  obtain ⟨ta1_6, tq1_7⟩ := TD.u64 Tryd.underlying58 th1_5
  have te1_8 : v1.cells.toList = [U64 ta1_3, U64 ta1_6] := cat_end (cat_step (cat0 tq1_4) tq1_7 rfl) ((TD.slen Tryd.underlying73 th1_1).trans (by kernel_rfl))
  obtain rfl := agg_of Tryd.underlying73 (hval 1 73 v1 rfl rfl) te1_8
  have k2 := h2
  have lt2 : ∀ x ∈ p2, x.block < W.heap.size := by obtain ⟨m, hm⟩ := k2; exact DataW.trod_lt m _ _ _ hm
  obtain ⟨a2, rfl, w2⟩ := open_arr_u8 Tryd.underlying74 Tryd.underlying5 (by kernel_rfl) (by kernel_rfl) (hval 2 74 v2 rfl rfl) h2
  clear hA0 hval0
  refine (sealSeals_w a0 ta1_3 ta1_6 a2 W w0 w2 (tabG hL) (tabGr hL) (tabGi hL)).mono fun e W' hp => ?_
  obtain ⟨rfl, bel⟩ := hp.law
  exact ⟨_, rfl, _, _, _, [], _, [], hW', trodAll_mk1 (shut_bool Tryd.underlying4 _), (trodAll_cons_mk (Below.trod laidOut (by kernel_rfl) (of_decide_eq_true (by kernel_rfl)) k0 bel lt0) (trodAll_cons_mk (Below.trod laidOut (by kernel_rfl) (of_decide_eq_true (by kernel_rfl)) k1 bel lt1) (trodAll_cons_mk (Below.trod laidOut (by kernel_rfl) (of_decide_eq_true (by kernel_rfl)) k2 bel lt2) trodAll_mk0))), rfl, bel.frame _, fun h => by cases h⟩
theorem band {a b : Bool} (ha : a = true) (hb : b = true) : (a && b) = true := by rw [ha, hb]; rfl
theorem kInPlace : (Rows.sealSealsRow.inPlace == Tryd.prog.inPlace 14) = true := by kernel_rfl
theorem kUnfollowed : (Rows.sealSealsRow.unfollowed == Tryd.prog.unfollowed 14) = true := by kernel_rfl
theorem kRecurses : (Rows.sealSealsRow.recurses == Tryd.prog.recurses 14) = true := by kernel_rfl
theorem kNamed : (Rows.sealSealsRow.named == Tryd.prog.varsNamed 14) = true := by kernel_rfl
theorem kGoes : false = Rows.sealSealsRow.goesBy Tryd.prog := by kernel_rfl
theorem kFn : Tryd.prog.funcNamed "entrust/entrustlaw07.SealSeals" = some 14 := by kernel_rfl
theorem kInst : Tryd.f14.isInstance Tryd.prog Rows.sealSealsRow.origin Rows.sealSealsRow.targs := of_decide_eq_true (by kernel_rfl)
theorem kWrap : Tryd.f14.isWrapper Tryd.prog Rows.sealSealsRow.wrapper Rows.sealSealsRow.mainSum := by unfold Func.isWrapper; first | (rw [if_pos (by decide +kernel)]; kernel_rfl) | (rw [if_neg (by decide +kernel)]; exact ⟨rfl, rfl⟩)
theorem closed : joinedFacts Tryd.prog 14 Tryd.f14 Rows.sealSealsSpec Rows.sealSealsRow = true := by
  unfold joinedFacts
  exact (band (band (band (band (band (band (band (band (band (band (band (band (band (band (band (band (band (band (band (band (band (band (band (band (band (band (band (band (band (band (band (by kernel_rfl) kLaidOut) kRowed) (by kernel_rfl)) (by kernel_rfl)) (by kernel_rfl)) kStops) (by kernel_rfl)) kKnobs) kInPlace) kUnfollowed) kRecurses) kNamed) (by kernel_rfl)) (by kernel_rfl)) (by kernel_rfl)) (by kernel_rfl)) (by kernel_rfl)) (by kernel_rfl)) (by kernel_rfl)) (by kernel_rfl)) (by kernel_rfl)) (by kernel_rfl)) (by kernel_rfl)) kHeard) kMayEnter) (by rw [kLifts]; rfl)) (by rw [kMake]; rfl)) (by kernel_rfl)) (by kernel_rfl)) (by kernel_rfl)) (by kernel_rfl))
theorem over : Rows.sealSealsRow.holds Tryd.pinned (OpenSpec.ofChange Rows.sealSealsSpec) :=
  OpenClaim.holds_of_wide 14 Tryd.f14 rfl rfl rfl rfl rfl rfl rfl ⟨rfl, rfl, rfl, rfl, rfl⟩ rfl rfl rfl rfl rfl kFn Tryd.func14 closed kInst kWrap
    (fun os started H enc _ => lifted os started H enc)
theorem kText : Rows.sealSealsRow.wfByText (OpenSpec.ofChange Rows.sealSealsSpec) = true := by kernel_rfl
theorem proved : Rows.SealSealsCardSaid :=
  Claim7.holds_tied_plain_at .later [] [.data, .data, .data, .data] true (true, "de7479bad4e85e403277db0d8cd99171af61f94a42c6cfc2fccf53d6b4e53da4") true
    over (fun _ h => by cases h) kText (fun _ h => by cases h) sealSeals_row_tie rfl ⟨rfl, rfl⟩ kMainIs rfl
    (fun f fn hf hfn => by
      obtain rfl : f = 14 := Option.some.inj (kFn.symm.trans hf) |>.symm
      obtain rfl : fn = Tryd.f14 := (Option.some.inj (Tryd.func14.symm.trans hfn)).symm
      exact ⟨kLooks, fun j t ht => by
        rw [Tryd.params14] at ht
        have hm : t ∈ [55, 73, 74] := by simpa using Array.mem_of_getElem? ht
        have hall : ([55, 73, 74].all fun u => !Tryd.prog.wantsStandIn u) = true := by kernel_rfl
        exact (show Tryd.prog.wantsStandIn t = false by simpa using List.all_eq_true.1 hall t hm)⟩)
    kGoes
end Go.Proofs.YtncoifiafklkjaaDoor.sealSeals
