import Derived.Test.YtncoifiafklkjaaDoorHmac2
namespace Go.Proofs.YtncoifiafklkjaaDoor
open Go Go.Sx
set_option linter.unusedVariables false
set_option linter.unusedSimpArgs false
set_option maxRecDepth 100000
attribute [local irreducible] mid zr8 zr32 rotr wordL spreadL comprL cpN adN spN wrdN constL initL padL stN outN routN hashL sumG blkL xbN raN macL orN
theorem rblock_w (ao : Option Addr) (n cb : Nat) (b : List UInt8) (w : World) (hb : b.length = n) (hcb : ao = none → cb = 0) (hr : RdB w [] ao b) (hGr : GLr w) (hGi : GLi w) (hn : n ≤ 17592186044416) : Calls Tryd.prog 41 #[.slice ao n cb] w (Post w [] (fun v L => ∃ g sp cap, v = Slc g 0 64 cap ∧ L = [⟨g, cu8 (blkL b) ++ sp, 5, (0, 0)⟩] ∧ sp.length = cap - 64 ∧ 64 ≤ cap ∧ cap ≤ maxLen)) := by
  by_cases h : n ≤ 64
  · exact rblockS_c ao n cb b w hb hcb hr hGr hGi h
  · exact rblockB_c ao n cb b w hb hcb hr hGr hGi (by omega) hn

theorem rmac_c (ao : Option Addr) (n cb : Nat) (key : List UInt8) (ax : Option Addr) (m ct : Nat) (t : List UInt8) (w : World) (hb : key.length = n) (hcb : ao = none → cb = 0) (hn : n ≤ 17592186044416) (hr : RdB w [] ao key) (ht : t.length = m) (hm : m ≤ 1000000000) (hrt : RdB w [] ax t) (hGr : GLr w) (hGi : GLi w) : Calls Tryd.prog 37 #[.slice ao n cb, .slice ax m ct] w (Post w [] (fun v L => v = .agg (cu8 (macL key t)).toArray ∧ L = [])) := by
  have hmx : maxLen = 9223372036854775807 := rfl
  refine enter w [] 40 [] [.slice ao n cb, .slice ax m ct] Tryd.func37 rfl rfl (by simp) (Hp.start (by simp) (by simp) (by simp)) ?_
  show JC _ _ _ [(0, .slice ao n cb), (1, .slice ax m ct)] _
  refine JC_seq ?_
  refine JC_region ?_
  refine JL_step (Step_alloc _ (cu8 (zr8 32)) Tryd.zeroValue25 (by kernel_rfl)) rfl ?_
  rintro v1 L1 ⟨nb1, hnb1, rfl, rfl⟩
  show JL _ _ _ _ ((4, Ptr nb1 0) :: _) [⟨nb1, cu8 (zr8 32), 25, (0, 0)⟩]
  refine JL_nil ?_
  refine JQ_then ?_
  refine JC_seq ?_
  refine JC_region ?_
  refine JL_val _ (Ev_move rfl) rfl ?_
  refine JL_step (Step_callN 41 [.slice ao n cb] _ (Cl_func [.slice ao n cb] Tryd.call41 rfl) (fun w1 hw1 => rblock_w ao n cb key w1 hb hcb (hr.at (M' := []) hw1 (by simp)) (GLr.at hw1 hGr) (GLi.at hw1 hGi) (by omega))) rfl ?_
  rintro v1 L1 ⟨_, ⟨nb2, sp1, cp1, rfl, rfl, hc1, hc2, hc3⟩, rfl⟩
  show JL _ _ _ _ ((11, Slc nb2 0 64 cp1) :: _) [⟨nb1, cu8 (zr8 32), 25, (0, 0)⟩, ⟨nb2, cu8 (blkL key) ++ sp1, 5, (0, 0)⟩]
  refine JL_val _ (Ev_assign rfl) rfl ?_
  refine JL_nil ?_
  refine JQ_then ?_
  refine JC_seq ?_
  refine JC_region ?_
  refine JL_val _ (Ev_assign rfl) rfl ?_
  refine JL_val _ (Ev_assign rfl) rfl ?_
  refine JL_nil ?_
  refine JQ_then ?_
  refine JC_seq ?_
  refine JC_seq ?_
  refine JC_region ?_
  refine JL_val _ (Ev_assign rfl) rfl ?_
  refine JL_nil ?_
  refine JQ_then ?_
  refine JC_block ?_
  refine JC_loop (ι := (Unit) ⊕ (Nat × List UInt8 × Nat × List Value × Nat × List UInt8 × Nat × List Value × Nat)) (fun x => match x with | .inl _ => [(1, .slice ax m ct), (4, Ptr nb1 0), (5, Slc nb2 0 64 cp1), (6, .slice none 0 0), (7, .slice none 0 0), (8, I64 (0:Int))] | .inr ⟨k, o6, g6, sp6, cp6, o7, g7, sp7, cp7⟩ => [(1, .slice ax m ct), (4, Ptr nb1 0), (5, Slc nb2 0 64 cp1), (6, Slc g6 0 k cp6), (7, Slc g7 0 k cp7), (8, I64 ((k:Int)))]) (fun x => match x with | .inl _ => [⟨nb1, cu8 (zr8 32), 25, (0, 0)⟩, ⟨nb2, cu8 (blkL key) ++ sp1, 5, (0, 0)⟩] | .inr ⟨k, o6, g6, sp6, cp6, o7, g7, sp7, cp7⟩ => [⟨nb1, cu8 (zr8 32), 25, (0, 0)⟩, ⟨nb2, cu8 (blkL key) ++ sp1, 5, (0, 0)⟩, ⟨g6, cu8 o6 ++ sp6, 5, (0, 0)⟩, ⟨g7, cu8 o7 ++ sp7, 5, (0, 0)⟩]) (fun x => match x with | .inl _ => True | .inr ⟨k, o6, g6, sp6, cp6, o7, g7, sp7, cp7⟩ => 1 ≤ k ∧ k ≤ 64 ∧ o6 = raN (blkL key) 54 k ∧ o6.length = k ∧ sp6.length = cp6 - k ∧ k ≤ cp6 ∧ cp6 ≤ maxLen ∧ o7 = raN (blkL key) 92 k ∧ o7.length = k ∧ sp7.length = cp7 - k ∧ k ≤ cp7 ∧ cp7 ≤ maxLen) (fun x => match x with | .inl _ => 65 | .inr ⟨k, o6, g6, sp6, cp6, o7, g7, sp7, cp7⟩ => 64 - k) (.inl ()) trivial (Sub.cons rfl (Sub.cons rfl (Sub.cons rfl (Sub.cons rfl (Sub.cons rfl (Sub.cons rfl (Sub.nil))))))) rfl ?_
  rintro (_ | ⟨k, o6, g6, sp6, cp6, o7, g7, sp7, cp7⟩) hx
  ·
    obtain _ := hx
    show JC _ _ _ [(1, .slice ax m ct), (4, Ptr nb1 0), (5, Slc nb2 0 64 cp1), (6, .slice none 0 0), (7, .slice none 0 0), (8, I64 (0:Int))] [⟨nb1, cu8 (zr8 32), 25, (0, 0)⟩, ⟨nb2, cu8 (blkL key) ++ sp1, 5, (0, 0)⟩]
    refine JC_seq ?_
    refine JC_seq ?_
    refine JC_region ?_
    refine JL_val _ (Ev_move rfl) rfl ?_
    refine JL_val (.bool (decide ((0:Int) < (64:Int)))) (Ev_bini rfl rfl fun _ => bin_lss_i _ _) rfl ?_
    refine JL_nil ?_
    refine JQ_then ?_
    refine JC_condT _ rfl (by decide) ?_
    refine JC_skip ?_
    refine JQ_then ?_
    refine JC_seq ?_
    refine JC_block ?_
    refine JC_seq ?_
    refine JC_region ?_
    refine JL_val _ (Ev_move rfl) rfl ?_
    refine JL_val _ (Ev_move rfl) rfl ?_
    refine JL_val _ (Ev_move rfl) rfl ?_
    refine JL_val (Ptr nb2 0) (Ev_indexSl 5 1 0 Tryd.underlying22 Tryd.sizeOf5 rfl rfl (by omega) (by omega) (by omega)) rfl ?_
    refine JL_val (U8 (g8 (blkL key) 0)) (Ev_load rfl (Ld_one Tryd.isAgg5 (MemAt.ent 1 rfl (Seg.left (Seg.get (g8_get (i := 0) (by rw [(blkL_len _)]; omega))))))) rfl ?_
    refine JL_val (U8 ((g8 (blkL key) 0) ^^^ (54:UInt8))) (Ev_bini rfl rfl fun _ => bin_xor_u8 (g8 (blkL key) 0) (54:UInt8)) rfl ?_
    refine JL_step (Step_buildSlice 5 1 _ [(0, U8 ((g8 (blkL key) 0) ^^^ (54:UInt8)))] (cu8 ([(g8 (blkL key) 0) ^^^ (54:UInt8)])) Tryd.underlying22 Tryd.sizeOf5 Tryd.zeroValue5 rfl rfl rfl (by kernel_rfl)) rfl ?_
    rintro v1 L1 ⟨nb3, hnb3, rfl, rfl⟩
    show JL _ _ _ _ ((22, Slc nb3 0 1 1) :: _) [⟨nb1, cu8 (zr8 32), 25, (0, 0)⟩, ⟨nb2, cu8 (blkL key) ++ sp1, 5, (0, 0)⟩, ⟨nb3, cu8 ([(g8 (blkL key) 0) ^^^ (54:UInt8)]), 5, (0, 0)⟩]
    refine JL_step (Step_appM8 22 5 [false, false, false] (.slice none 0 0) 0 ([] : List UInt8) ([(g8 (blkL key) 0) ^^^ (54:UInt8)]) (some ⟨nb3, 0, none⟩) 1 1 1 Tryd.underlying22 Tryd.info5 rfl (.inl ⟨rfl, rfl, rfl, rfl, by omega⟩) rfl (by simp) (SrcAt.mem (MemAt.ent 2 rfl (Seg.whole _))) (by omega) (by unfold maxLen; omega) (by omega)) rfl ?_
    rintro v1 L1 ⟨nb4, sp2, cp2, hg1, rfl, rfl, ha1, ha2, ha3, ha4⟩
    show JL _ _ _ _ ((23, Slc nb4 0 1 cp2) :: _) [⟨nb1, cu8 (zr8 32), 25, (0, 0)⟩, ⟨nb2, cu8 (blkL key) ++ sp1, 5, (0, 0)⟩, ⟨nb3, cu8 ([(g8 (blkL key) 0) ^^^ (54:UInt8)]), 5, (0, 0)⟩, ⟨nb4, cu8 (([] : List UInt8) ++ ([(g8 (blkL key) 0) ^^^ (54:UInt8)])) ++ sp2, 5, (0, 0)⟩]
    refine JL_val _ (Ev_assign rfl) rfl ?_
    refine JL_nil ?_
    refine JQ_then ?_
    refine JC_region ?_
    refine JL_val _ (Ev_move rfl) rfl ?_
    refine JL_val _ (Ev_move rfl) rfl ?_
    refine JL_val _ (Ev_move rfl) rfl ?_
    refine JL_val (Ptr nb2 0) (Ev_indexSl 5 1 0 Tryd.underlying22 Tryd.sizeOf5 rfl rfl (by omega) (by omega) (by omega)) rfl ?_
    refine JL_val (U8 (g8 (blkL key) 0)) (Ev_load rfl (Ld_one Tryd.isAgg5 (MemAt.ent 1 rfl (Seg.left (Seg.get (g8_get (i := 0) (by rw [(blkL_len _)]; omega))))))) rfl ?_
    refine JL_val (U8 ((g8 (blkL key) 0) ^^^ (92:UInt8))) (Ev_bini rfl rfl fun _ => bin_xor_u8 (g8 (blkL key) 0) (92:UInt8)) rfl ?_
    refine JL_step (Step_buildSlice 5 1 _ [(0, U8 ((g8 (blkL key) 0) ^^^ (92:UInt8)))] (cu8 ([(g8 (blkL key) 0) ^^^ (92:UInt8)])) Tryd.underlying22 Tryd.sizeOf5 Tryd.zeroValue5 rfl rfl rfl (by kernel_rfl)) rfl ?_
    rintro v1 L1 ⟨nb5, hnb5, rfl, rfl⟩
    show JL _ _ _ _ ((30, Slc nb5 0 1 1) :: _) [⟨nb1, cu8 (zr8 32), 25, (0, 0)⟩, ⟨nb2, cu8 (blkL key) ++ sp1, 5, (0, 0)⟩, ⟨nb3, cu8 ([(g8 (blkL key) 0) ^^^ (54:UInt8)]), 5, (0, 0)⟩, ⟨nb4, cu8 (([] : List UInt8) ++ ([(g8 (blkL key) 0) ^^^ (54:UInt8)])) ++ sp2, 5, (0, 0)⟩, ⟨nb5, cu8 ([(g8 (blkL key) 0) ^^^ (92:UInt8)]), 5, (0, 0)⟩]
    refine JL_step (Step_appM8 22 5 [false, false, false, false, false] (.slice none 0 0) 0 ([] : List UInt8) ([(g8 (blkL key) 0) ^^^ (92:UInt8)]) (some ⟨nb5, 0, none⟩) 1 1 1 Tryd.underlying22 Tryd.info5 rfl (.inl ⟨rfl, rfl, rfl, rfl, by omega⟩) rfl (by simp) (SrcAt.mem (MemAt.ent 4 rfl (Seg.whole _))) (by omega) (by unfold maxLen; omega) (by omega)) rfl ?_
    rintro v1 L1 ⟨nb6, sp3, cp3, hg2, rfl, rfl, ha5, ha6, ha7, ha8⟩
    show JL _ _ _ _ ((31, Slc nb6 0 1 cp3) :: _) [⟨nb1, cu8 (zr8 32), 25, (0, 0)⟩, ⟨nb2, cu8 (blkL key) ++ sp1, 5, (0, 0)⟩, ⟨nb3, cu8 ([(g8 (blkL key) 0) ^^^ (54:UInt8)]), 5, (0, 0)⟩, ⟨nb4, cu8 (([] : List UInt8) ++ ([(g8 (blkL key) 0) ^^^ (54:UInt8)])) ++ sp2, 5, (0, 0)⟩, ⟨nb5, cu8 ([(g8 (blkL key) 0) ^^^ (92:UInt8)]), 5, (0, 0)⟩, ⟨nb6, cu8 (([] : List UInt8) ++ ([(g8 (blkL key) 0) ^^^ (92:UInt8)])) ++ sp3, 5, (0, 0)⟩]
    refine JL_val _ (Ev_assign rfl) rfl ?_
    refine JL_nil ?_
    refine JQ_in_normal ?_
    refine JQ_then ?_
    refine JC_region ?_
    refine JL_val _ (Ev_move rfl) rfl ?_
    refine JL_val (I64 (1:Int)) (Ev_bini rfl rfl fun _ => bin_add_i _ _ (1:Int) (by omega) (by omega)) rfl ?_
    refine JL_val _ (Ev_assign rfl) rfl ?_
    refine JL_nil ?_
    refine JQ_thenK ?_
    refine K_mask [true, true, false, true, false, true] ?_
    show K _ _ [⟨nb1, cu8 (zr8 32), 25, (0, 0)⟩, ⟨nb2, cu8 (blkL key) ++ sp1, 5, (0, 0)⟩, ⟨nb4, cu8 (([] : List UInt8) ++ ([(g8 (blkL key) 0) ^^^ (54:UInt8)])) ++ sp2, 5, (0, 0)⟩, ⟨nb6, cu8 (([] : List UInt8) ++ ([(g8 (blkL key) 0) ^^^ (92:UInt8)])) ++ sp3, 5, (0, 0)⟩] _
    refine K_next (.inr (1, ([] : List UInt8) ++ ([(g8 (blkL key) 0) ^^^ (54:UInt8)]), nb4, sp2, cp2, ([] : List UInt8) ++ ([(g8 (blkL key) 0) ^^^ (92:UInt8)]), nb6, sp3, cp3)) ⟨by omega, by omega, by rw [raN, raN], (ha1).trans (by first | rfl | simp +arith), (ha2).trans (by first | rfl | simp +arith), by omega, ha4, by rw [raN, raN], (ha5).trans (by first | rfl | simp +arith), (ha6).trans (by first | rfl | simp +arith), by omega, ha8⟩ (by first | (simp; omega) | simp | (dsimp only; omega) | omega) (Sub.cons rfl (Sub.cons rfl (Sub.cons rfl (Sub.cons rfl (Sub.cons rfl (Sub.cons rfl (Sub.nil))))))) rfl
  ·
    obtain ⟨hx0, hx1, hx2, ho6, hs6, hy6, hz6, hx3, ho7, hs7, hy7, hz7⟩ := hx
    show JC _ _ _ [(1, .slice ax m ct), (4, Ptr nb1 0), (5, Slc nb2 0 64 cp1), (6, Slc g6 0 k cp6), (7, Slc g7 0 k cp7), (8, I64 ((k:Int)))] [⟨nb1, cu8 (zr8 32), 25, (0, 0)⟩, ⟨nb2, cu8 (blkL key) ++ sp1, 5, (0, 0)⟩, ⟨g6, cu8 o6 ++ sp6, 5, (0, 0)⟩, ⟨g7, cu8 o7 ++ sp7, 5, (0, 0)⟩]
    refine JC_seq ?_
    refine JC_seq ?_
    refine JC_region ?_
    refine JL_val _ (Ev_move rfl) rfl ?_
    refine JL_val (.bool (decide (((k:Int)) < (64:Int)))) (Ev_bini rfl rfl fun _ => bin_lss_i _ _) rfl ?_
    refine JL_nil ?_
    refine JQ_then ?_
    refine JC_cond (decide (((k:Int)) < (64:Int))) rfl (fun hb1 => ?_) (fun hb1 => ?_)
    ·
      have hp1 : ((k:Int)) < (64:Int) := of_decide_eq_true hb1
      refine JC_skip ?_
      refine JQ_then ?_
      refine JC_seq ?_
      refine JC_block ?_
      refine JC_seq ?_
      refine JC_region ?_
      refine JL_val _ (Ev_move rfl) rfl ?_
      refine JL_val _ (Ev_move rfl) rfl ?_
      refine JL_val _ (Ev_move rfl) rfl ?_
      refine JL_val (Ptr nb2 k) (Ev_indexSl 5 1 k Tryd.underlying22 Tryd.sizeOf5 rfl rfl (by omega) (by omega) (by omega)) rfl ?_
      refine JL_val (U8 (g8 (blkL key) k)) (Ev_load rfl (Ld_one Tryd.isAgg5 (MemAt.ent 1 rfl (Seg.left (Seg.get (g8_get (i := k) (by rw [(blkL_len _)]; omega))))))) rfl ?_
      refine JL_val (U8 ((g8 (blkL key) k) ^^^ (54:UInt8))) (Ev_bini rfl rfl fun _ => bin_xor_u8 (g8 (blkL key) k) (54:UInt8)) rfl ?_
      refine JL_step (Step_buildSlice 5 1 _ [(0, U8 ((g8 (blkL key) k) ^^^ (54:UInt8)))] (cu8 ([(g8 (blkL key) k) ^^^ (54:UInt8)])) Tryd.underlying22 Tryd.sizeOf5 Tryd.zeroValue5 rfl rfl rfl (by kernel_rfl)) rfl ?_
      rintro v1 L1 ⟨nb7, hnb7, rfl, rfl⟩
      show JL _ _ _ _ ((22, Slc nb7 0 1 1) :: _) [⟨nb1, cu8 (zr8 32), 25, (0, 0)⟩, ⟨nb2, cu8 (blkL key) ++ sp1, 5, (0, 0)⟩, ⟨g6, cu8 o6 ++ sp6, 5, (0, 0)⟩, ⟨g7, cu8 o7 ++ sp7, 5, (0, 0)⟩, ⟨nb7, cu8 ([(g8 (blkL key) k) ^^^ (54:UInt8)]), 5, (0, 0)⟩]
      refine JL_step (Step_appM8 22 5 [false, false, true, false, false] (Slc g6 0 k cp6) k o6 ([(g8 (blkL key) k) ^^^ (54:UInt8)]) (some ⟨nb7, 0, none⟩) 1 1 (k + 1) Tryd.underlying22 Tryd.info5 rfl (.inr ⟨g6, sp6, cp6, rfl, rfl, (by first | exact ho6 | simp [ho6]), hs6, (by omega), (by omega)⟩) rfl (by simp) (SrcAt.mem (MemAt.ent 4 rfl (Seg.whole _))) (by omega) (by unfold maxLen; omega) (by omega)) rfl ?_
      rintro v1 L1 ⟨nb8, sp4, cp4, hg3, rfl, rfl, ha9, ha10, ha11, ha12⟩
      show JL _ _ _ _ ((23, Slc nb8 0 (k + 1) cp4) :: _) [⟨nb1, cu8 (zr8 32), 25, (0, 0)⟩, ⟨nb2, cu8 (blkL key) ++ sp1, 5, (0, 0)⟩, ⟨g7, cu8 o7 ++ sp7, 5, (0, 0)⟩, ⟨nb7, cu8 ([(g8 (blkL key) k) ^^^ (54:UInt8)]), 5, (0, 0)⟩, ⟨nb8, cu8 (o6 ++ ([(g8 (blkL key) k) ^^^ (54:UInt8)])) ++ sp4, 5, (0, 0)⟩]
      refine JL_val _ (Ev_assign rfl) rfl ?_
      refine JL_nil ?_
      refine JQ_then ?_
      refine JC_region ?_
      refine JL_val _ (Ev_move rfl) rfl ?_
      refine JL_val _ (Ev_move rfl) rfl ?_
      refine JL_val _ (Ev_move rfl) rfl ?_
      refine JL_val (Ptr nb2 k) (Ev_indexSl 5 1 k Tryd.underlying22 Tryd.sizeOf5 rfl rfl (by omega) (by omega) (by omega)) rfl ?_
      refine JL_val (U8 (g8 (blkL key) k)) (Ev_load rfl (Ld_one Tryd.isAgg5 (MemAt.ent 1 rfl (Seg.left (Seg.get (g8_get (i := k) (by rw [(blkL_len _)]; omega))))))) rfl ?_
      refine JL_val (U8 ((g8 (blkL key) k) ^^^ (92:UInt8))) (Ev_bini rfl rfl fun _ => bin_xor_u8 (g8 (blkL key) k) (92:UInt8)) rfl ?_
      refine JL_step (Step_buildSlice 5 1 _ [(0, U8 ((g8 (blkL key) k) ^^^ (92:UInt8)))] (cu8 ([(g8 (blkL key) k) ^^^ (92:UInt8)])) Tryd.underlying22 Tryd.sizeOf5 Tryd.zeroValue5 rfl rfl rfl (by kernel_rfl)) rfl ?_
      rintro v1 L1 ⟨nb9, hnb9, rfl, rfl⟩
      show JL _ _ _ _ ((30, Slc nb9 0 1 1) :: _) [⟨nb1, cu8 (zr8 32), 25, (0, 0)⟩, ⟨nb2, cu8 (blkL key) ++ sp1, 5, (0, 0)⟩, ⟨g7, cu8 o7 ++ sp7, 5, (0, 0)⟩, ⟨nb7, cu8 ([(g8 (blkL key) k) ^^^ (54:UInt8)]), 5, (0, 0)⟩, ⟨nb8, cu8 (o6 ++ ([(g8 (blkL key) k) ^^^ (54:UInt8)])) ++ sp4, 5, (0, 0)⟩, ⟨nb9, cu8 ([(g8 (blkL key) k) ^^^ (92:UInt8)]), 5, (0, 0)⟩]
      refine JL_step (Step_appM8 22 5 [false, false, true, false, false, false] (Slc g7 0 k cp7) k o7 ([(g8 (blkL key) k) ^^^ (92:UInt8)]) (some ⟨nb9, 0, none⟩) 1 1 (k + 1) Tryd.underlying22 Tryd.info5 rfl (.inr ⟨g7, sp7, cp7, rfl, rfl, (by first | exact ho7 | simp [ho7]), hs7, (by omega), (by omega)⟩) rfl (by simp) (SrcAt.mem (MemAt.ent 5 rfl (Seg.whole _))) (by omega) (by unfold maxLen; omega) (by omega)) rfl ?_
      rintro v1 L1 ⟨nb10, sp5, cp5, hg4, rfl, rfl, ha13, ha14, ha15, ha16⟩
      show JL _ _ _ _ ((31, Slc nb10 0 (k + 1) cp5) :: _) [⟨nb1, cu8 (zr8 32), 25, (0, 0)⟩, ⟨nb2, cu8 (blkL key) ++ sp1, 5, (0, 0)⟩, ⟨nb7, cu8 ([(g8 (blkL key) k) ^^^ (54:UInt8)]), 5, (0, 0)⟩, ⟨nb8, cu8 (o6 ++ ([(g8 (blkL key) k) ^^^ (54:UInt8)])) ++ sp4, 5, (0, 0)⟩, ⟨nb9, cu8 ([(g8 (blkL key) k) ^^^ (92:UInt8)]), 5, (0, 0)⟩, ⟨nb10, cu8 (o7 ++ ([(g8 (blkL key) k) ^^^ (92:UInt8)])) ++ sp5, 5, (0, 0)⟩]
      refine JL_val _ (Ev_assign rfl) rfl ?_
      refine JL_nil ?_
      refine JQ_in_normal ?_
      refine JQ_then ?_
      refine JC_region ?_
      refine JL_val _ (Ev_move rfl) rfl ?_
      refine JL_val (I64 ((k:Int) + 1)) (Ev_bini rfl rfl fun _ => bin_add_i _ _ ((k:Int) + 1) (by omega) (by omega)) rfl ?_
      refine JL_val _ (Ev_assign rfl) rfl ?_
      refine JL_nil ?_
      refine JQ_thenK ?_
      refine K_mask [true, true, false, true, false, true] ?_
      show K _ _ [⟨nb1, cu8 (zr8 32), 25, (0, 0)⟩, ⟨nb2, cu8 (blkL key) ++ sp1, 5, (0, 0)⟩, ⟨nb8, cu8 (o6 ++ ([(g8 (blkL key) k) ^^^ (54:UInt8)])) ++ sp4, 5, (0, 0)⟩, ⟨nb10, cu8 (o7 ++ ([(g8 (blkL key) k) ^^^ (92:UInt8)])) ++ sp5, 5, (0, 0)⟩] _
      refine K_next (.inr (k + 1, o6 ++ ([(g8 (blkL key) k) ^^^ (54:UInt8)]), nb8, sp4, cp4, o7 ++ ([(g8 (blkL key) k) ^^^ (92:UInt8)]), nb10, sp5, cp5)) ⟨by omega, by omega, by rw [raN, ← hx2], (ha9).trans (by first | rfl | simp +arith), (ha10).trans (by first | rfl | simp +arith), by omega, ha12, by rw [raN, ← hx3], (ha13).trans (by first | rfl | simp +arith), (ha14).trans (by first | rfl | simp +arith), by omega, ha16⟩ (by first | (simp; omega) | simp | (dsimp only; omega) | omega) (Sub.cons rfl (Sub.cons rfl (Sub.cons rfl (Sub.cons rfl (Sub.cons rfl (Sub.cons rfl (Sub.nil))))))) rfl
    ·
      have hp1 : ¬ (((k:Int)) < (64:Int)) := of_decide_eq_false hb1
      refine JC_exit ?_
      refine JQ_then_exit ?_
      refine JQ_then_exit ?_
      refine JQ_in_same ?_
      refine JQ_then ?_
      refine JC_seq ?_
      refine JC_region ?_
      refine JL_val _ (Ev_move rfl) rfl ?_
      refine JL_val _ (Ev_move rfl) rfl ?_
      refine JL_step (Step_appM8 22 5 [false, false, true, false] (Slc g6 0 k cp6) k o6 t ax m ct (k + m) Tryd.underlying22 Tryd.info5 rfl (.inr ⟨g6, sp6, cp6, rfl, rfl, (by first | exact ho6 | simp [ho6]), hs6, (by omega), (by omega)⟩) rfl (by simp [ht]; try omega) (hrt.src) (by omega) (by unfold maxLen; omega) (by omega)) rfl ?_
      rintro v1 L1 ⟨nb11, sp6, cp6, hg5, rfl, rfl, ha17, ha18, ha19, ha20⟩
      show JL _ _ _ _ ((34, Slc nb11 0 (k + m) cp6) :: _) [⟨nb1, cu8 (zr8 32), 25, (0, 0)⟩, ⟨nb2, cu8 (blkL key) ++ sp1, 5, (0, 0)⟩, ⟨g7, cu8 o7 ++ sp7, 5, (0, 0)⟩, ⟨nb11, cu8 (o6 ++ t) ++ sp6, 5, (0, 0)⟩]
      refine JL_step (Step_callP 24 [Slc nb11 0 (k + m) cp6] (.agg (cu8 (sumG constL initL (o6 ++ t))).toArray) (Cl_func [Slc nb11 0 (k + m) cp6] Tryd.call24 rfl) (fun w1 hw1 => rsum_c (some ⟨nb11, 0, none⟩) (k + m) cp6 (o6 ++ t) w1 ha17 (by omega) (RdB.of hw1 (MemAt.ent 3 rfl (Seg.left (Seg.whole _))) (by simp)) (GLr.at hw1 hGr) (GLi.at hw1 hGi))) rfl ?_
      rintro v1 L1 ⟨rfl, rfl⟩
      show JL _ _ _ _ ((35, .agg (cu8 (sumG constL initL (o6 ++ t))).toArray) :: _) [⟨nb1, cu8 (zr8 32), 25, (0, 0)⟩, ⟨nb2, cu8 (blkL key) ++ sp1, 5, (0, 0)⟩, ⟨g7, cu8 o7 ++ sp7, 5, (0, 0)⟩, ⟨nb11, cu8 (o6 ++ t) ++ sp6, 5, (0, 0)⟩]
      refine JL_step (Step_alloc _ (cu8 (zr8 32)) Tryd.zeroValue25 (by kernel_rfl)) rfl ?_
      rintro v1 L1 ⟨nb12, hnb12, rfl, rfl⟩
      show JL _ _ _ _ ((9, Ptr nb12 0) :: _) [⟨nb1, cu8 (zr8 32), 25, (0, 0)⟩, ⟨nb2, cu8 (blkL key) ++ sp1, 5, (0, 0)⟩, ⟨g7, cu8 o7 ++ sp7, 5, (0, 0)⟩, ⟨nb11, cu8 (o6 ++ t) ++ sp6, 5, (0, 0)⟩, ⟨nb12, cu8 (zr8 32), 25, (0, 0)⟩]
      refine JL_step (Step_store 4 nb12 0 32 (cu8 (zr8 32)) 25 (.agg (cu8 (sumG constL initL (o6 ++ t))).toArray) (cu8 (sumG constL initL (o6 ++ t))) (cu8 (sumG constL initL (o6 ++ t))) rfl rfl rfl (by first | rfl | simp) Tryd.sizeOf25 (len_cu8 (sumG_len _ _ _)) (by first | exact one_u8 | exact one_u32 | exact one_u64 | (simp [cu8, cu32, cu64, Value.oneCell']; done)) (by simp [(zr8_len 32)]) (lay_whole (by simp [(zr8_len 32), (sumG_len _ _ _)]))) rfl ?_
      rintro v1 L1 ⟨rfl, rfl⟩
      show JL _ _ _ _ _ [⟨nb1, cu8 (zr8 32), 25, (0, 0)⟩, ⟨nb2, cu8 (blkL key) ++ sp1, 5, (0, 0)⟩, ⟨g7, cu8 o7 ++ sp7, 5, (0, 0)⟩, ⟨nb11, cu8 (o6 ++ t) ++ sp6, 5, (0, 0)⟩, ⟨nb12, cu8 (sumG constL initL (o6 ++ t)), 25, (0, 0)⟩]
      refine JL_nil ?_
      refine JQ_then ?_
      refine JC_seq ?_
      refine JC_region ?_
      refine JL_val _ (Ev_move rfl) rfl ?_
      refine JL_val (Slc nb12 0 32 32) (Ev_sliceA 32 5 1 0 32 0 32 Tryd.underlying25 Tryd.sizeOf5 rfl rfl rfl (by omega) (by omega) (by omega) (by omega) (by omega) 32 (by omega)) rfl ?_
      refine JL_step (Step_appM8 22 5 [false, false, true, false, false] (Slc g7 0 k cp7) k o7 (sumG constL initL (o6 ++ t)) (some ⟨nb12, 0, none⟩) 32 32 (k + 32) Tryd.underlying22 Tryd.info5 rfl (.inr ⟨g7, sp7, cp7, rfl, rfl, (by first | exact ho7 | simp [ho7]), hs7, (by omega), (by omega)⟩) rfl (by simp [(sumG_len _ _ _)]; try omega) (SrcAt.mem (MemAt.ent 4 rfl (Seg.whole _))) (by omega) (by unfold maxLen; omega) (by omega)) rfl ?_
      rintro v1 L1 ⟨nb13, sp7, cp7, hg6, rfl, rfl, ha21, ha22, ha23, ha24⟩
      show JL _ _ _ _ ((38, Slc nb13 0 (k + 32) cp7) :: _) [⟨nb1, cu8 (zr8 32), 25, (0, 0)⟩, ⟨nb2, cu8 (blkL key) ++ sp1, 5, (0, 0)⟩, ⟨nb11, cu8 (o6 ++ t) ++ sp6, 5, (0, 0)⟩, ⟨nb12, cu8 (sumG constL initL (o6 ++ t)), 25, (0, 0)⟩, ⟨nb13, cu8 (o7 ++ (sumG constL initL (o6 ++ t))) ++ sp7, 5, (0, 0)⟩]
      refine JL_step (Step_callP 24 [Slc nb13 0 (k + 32) cp7] (.agg (cu8 (sumG constL initL (o7 ++ (sumG constL initL (o6 ++ t))))).toArray) (Cl_func [Slc nb13 0 (k + 32) cp7] Tryd.call24 rfl) (fun w1 hw1 => rsum_c (some ⟨nb13, 0, none⟩) (k + 32) cp7 (o7 ++ (sumG constL initL (o6 ++ t))) w1 ha21 (by omega) (RdB.of hw1 (MemAt.ent 4 rfl (Seg.left (Seg.whole _))) (by simp)) (GLr.at hw1 hGr) (GLi.at hw1 hGi))) rfl ?_
      rintro v1 L1 ⟨rfl, rfl⟩
      show JL _ _ _ _ ((39, .agg (cu8 (sumG constL initL (o7 ++ (sumG constL initL (o6 ++ t))))).toArray) :: _) [⟨nb1, cu8 (zr8 32), 25, (0, 0)⟩, ⟨nb2, cu8 (blkL key) ++ sp1, 5, (0, 0)⟩, ⟨nb11, cu8 (o6 ++ t) ++ sp6, 5, (0, 0)⟩, ⟨nb12, cu8 (sumG constL initL (o6 ++ t)), 25, (0, 0)⟩, ⟨nb13, cu8 (o7 ++ (sumG constL initL (o6 ++ t))) ++ sp7, 5, (0, 0)⟩]
      refine JL_step (Step_store 0 nb1 0 32 (cu8 (zr8 32)) 25 (.agg (cu8 (sumG constL initL (o7 ++ (sumG constL initL (o6 ++ t))))).toArray) (cu8 (sumG constL initL (o7 ++ (sumG constL initL (o6 ++ t))))) (cu8 (sumG constL initL (o7 ++ (sumG constL initL (o6 ++ t))))) rfl rfl rfl (by first | rfl | simp) Tryd.sizeOf25 (len_cu8 (sumG_len _ _ _)) (by first | exact one_u8 | exact one_u32 | exact one_u64 | (simp [cu8, cu32, cu64, Value.oneCell']; done)) (by simp [(zr8_len 32)]) (lay_whole (by simp [(zr8_len 32), (sumG_len _ _ _)]))) rfl ?_
      rintro v1 L1 ⟨rfl, rfl⟩
      show JL _ _ _ _ _ [⟨nb1, cu8 (sumG constL initL (o7 ++ (sumG constL initL (o6 ++ t)))), 25, (0, 0)⟩, ⟨nb2, cu8 (blkL key) ++ sp1, 5, (0, 0)⟩, ⟨nb11, cu8 (o6 ++ t) ++ sp6, 5, (0, 0)⟩, ⟨nb12, cu8 (sumG constL initL (o6 ++ t)), 25, (0, 0)⟩, ⟨nb13, cu8 (o7 ++ (sumG constL initL (o6 ++ t))) ++ sp7, 5, (0, 0)⟩]
      refine JL_nil ?_
      refine JQ_then ?_
      refine JC_ret ?_
      refine JQ_ret (.agg (cu8 (sumG constL initL (o7 ++ (sumG constL initL (o6 ++ t))))).toArray) (res1 Tryd.results37 (RV_cell rfl (Ld_agg Tryd.isAgg25 Tryd.sizeOf25 (len_cu8 (sumG_len _ _ _)) (MemAt.ent 0 rfl (Seg.whole _))))) fun w1 hw1 => ?_
      have e1 : k = 64 := by omega
      subst e1
      refine ⟨_, [], rfl, ⟨?_, rfl⟩, hw1.sub (by simp) (by simp)⟩
      rw [macL, hx2, hx3, raN_xbN _ (blkL_len _), raN_xbN _ (blkL_len _)]

theorem same_c (a1 a2 : Option Addr) (n1 n2 c1 c2 : Nat) (x y : List UInt8) (w : World) (hx : x.length = n1) (hy : y.length = n2) (h1 : RdB w [] a1 x) (h2 : RdB w [] a2 y) (hi1 : n1 ≤ 9223372036854775807) (hi2 : n2 ≤ 9223372036854775807) : Calls Tryd.prog 36 #[.slice a1 n1 c1, .slice a2 n2 c2] w (Post w [] (fun v L => v = .bool (decide (x = y)) ∧ L = [])) := by
  refine enter w [] 31 [] [.slice a1 n1 c1, .slice a2 n2 c2] Tryd.func36 rfl rfl (by simp) (Hp.start (by simp) (by simp) (by simp)) ?_
  show JC _ _ _ [(0, .slice a1 n1 c1), (1, .slice a2 n2 c2)] _
  refine JC_seq ?_
  refine JC_region ?_
  refine JL_val _ (Ev_assign rfl) rfl ?_
  refine JL_nil ?_
  refine JQ_then ?_
  refine JC_seq ?_
  refine JC_seq ?_
  refine JC_region ?_
  refine JL_val _ (Ev_move rfl) rfl ?_
  refine JL_val (I64 ((n1:Int))) (Ev_len Tryd.underlying22 rfl) rfl ?_
  refine JL_val _ (Ev_move rfl) rfl ?_
  refine JL_val (I64 ((n2:Int))) (Ev_len Tryd.underlying22 rfl) rfl ?_
  refine JL_val (.bool (decide (((n1:Int)) ≠ ((n2:Int))))) (Ev_bini rfl rfl fun _ => bin_neq_i _ _) rfl ?_
  refine JL_nil ?_
  refine JQ_then ?_
  refine JC_cond (decide (((n1:Int)) ≠ ((n2:Int)))) rfl (fun hb1 => ?_) (fun hb1 => ?_)
  ·
    have hp1 : ((n1:Int)) ≠ ((n2:Int)) := of_decide_eq_true hb1
    refine JC_seq ?_
    refine JC_region ?_
    refine JL_val _ (Ev_assign rfl) rfl ?_
    refine JL_nil ?_
    refine JQ_then ?_
    refine JC_ret ?_
    refine JQ_then_ret ?_
    refine JQ_ret (.bool false) (res1 Tryd.results36 (RV_tmp rfl)) fun w1 hw1 => ?_
    refine ⟨_, [], rfl, ⟨?_, rfl⟩, hw1.sub (by simp) (by simp)⟩
    have hne : x ≠ y := fun h => by subst h; omega
    rw [decide_eq_false hne]
  ·
    have hp1 : ¬ (((n1:Int)) ≠ ((n2:Int))) := of_decide_eq_false hb1
    refine JC_skip ?_
    refine JQ_then ?_
    refine JC_seq ?_
    refine JC_region ?_
    refine JL_val _ (Ev_assign rfl) rfl ?_
    refine JL_nil ?_
    refine JQ_then ?_
    refine JC_seq ?_
    refine JC_seq ?_
    refine JC_region ?_
    refine JL_val _ (Ev_move rfl) rfl ?_
    refine JL_val (I64 ((n1:Int))) (Ev_len Tryd.underlying22 rfl) rfl ?_
    refine JL_val _ (Ev_move rfl) rfl ?_
    refine JL_nil ?_
    refine JQ_then ?_
    refine JC_block ?_
    refine JC_loop (ι := Nat × UInt8) (fun ⟨i, a⟩ => [(0, .slice a1 n1 c1), (1, .slice a2 n2 c2), (4, .bool false), (13, I64 ((n1:Int))), (14, I64 ((i:Int))), (5, U8 a)]) (fun ⟨i, a⟩ => []) (fun ⟨i, a⟩ => i ≤ n1 ∧ a = orN x y i) (fun ⟨i, a⟩ => n1 - i) (0, 0) ⟨by omega, by rw [orN]⟩ (Sub.cons rfl (Sub.cons rfl (Sub.cons rfl (Sub.cons rfl (Sub.cons rfl (Sub.cons rfl (Sub.nil))))))) rfl ?_
    rintro ⟨i, a⟩ ⟨hx1, hx2⟩
    show JC _ _ _ [(0, .slice a1 n1 c1), (1, .slice a2 n2 c2), (4, .bool false), (13, I64 ((n1:Int))), (14, I64 ((i:Int))), (5, U8 a)] []
    refine JC_seq ?_
    refine JC_region ?_
    refine JL_val (.bool (decide (((i:Int)) < ((n1:Int))))) (Ev_bini rfl rfl fun _ => bin_lss_i _ _) rfl ?_
    refine JL_nil ?_
    refine JQ_then ?_
    refine JC_seq ?_
    refine JC_cond (decide (((i:Int)) < ((n1:Int)))) rfl (fun hb2 => ?_) (fun hb2 => ?_)
    ·
      have hp2 : ((i:Int)) < ((n1:Int)) := of_decide_eq_true hb2
      refine JC_skip ?_
      refine JQ_then ?_
      refine JC_seq ?_
      refine JC_block ?_
      refine JC_seq ?_
      refine JC_region ?_
      refine JL_val _ (Ev_move rfl) rfl ?_
      refine JL_val _ (Ev_assign rfl) rfl ?_
      refine JL_nil ?_
      refine JQ_then ?_
      obtain ⟨bz1, oz1, hz1, hm1⟩ := h1.pos (by rw [hx]; omega)
      obtain ⟨bz2, oz2, hz2, hm2⟩ := h2.pos (by rw [hy]; omega)
      refine JC_draw 31 1 [(0, U8 a), (1, .slice a1 n1 c1), (2, I64 ((i:Int))), (3, Ptr bz1 (i + oz1)), (4, U8 (g8 x i)), (5, .slice a2 n2 c2), (6, I64 ((i:Int))), (7, Ptr bz2 (i + oz2)), (8, U8 (g8 y i)), (9, U8 ((g8 x i) ^^^ (g8 y i))), (10, U8 (a ||| ((g8 x i) ^^^ (g8 y i)))), (11, U8 (a ||| ((g8 x i) ^^^ (g8 y i))))] Tryd.mixed rfl (by decide +kernel) ?_
      refine DP_end ⟨[], [0, 1, 2, 3, 4, 5, 6, 7, 8, 9, 10, 11], [], [0, 1, 2, 3, 4, 5, 6, 7, 8, 9, 10, 11], []⟩ rfl rfl (by decide +kernel) rfl ⟨⟨_, rfl, Qok_val rfl (Ev_move rfl)⟩, ⟨_, rfl, Qok_val rfl (Ev_move rfl)⟩, ⟨_, rfl, Qok_val rfl (Ev_move rfl)⟩, ⟨_, rfl, Qok_val rfl (Ev_indexSlG 5 1 (i + oz1) Tryd.underlying22 Tryd.sizeOf5 rfl hz1 rfl (by omega) (by omega) (by omega))⟩, ⟨_, rfl, Qok_val rfl (Ev_load rfl (Ld_one Tryd.isAgg5 (MemAt.seg (MemAt.base hm1.1 hm1.2.1 hm1.2.2) (Seg.get (g8_get (i := i) (by rw [hx]; omega))) (by omega))))⟩, ⟨_, rfl, Qok_val rfl (Ev_move rfl)⟩, ⟨_, rfl, Qok_val rfl (Ev_move rfl)⟩, ⟨_, rfl, Qok_val rfl (Ev_indexSlG 5 1 (i + oz2) Tryd.underlying22 Tryd.sizeOf5 rfl hz2 rfl (by omega) (by omega) (by omega))⟩, ⟨_, rfl, Qok_val rfl (Ev_load rfl (Ld_one Tryd.isAgg5 (MemAt.seg (MemAt.base hm2.1 hm2.2.1 hm2.2.2) (Seg.get (g8_get (i := i) (by rw [hy]; omega))) (by omega))))⟩, ⟨_, rfl, Qok_val rfl (Ev_bini rfl rfl fun _ => bin_xor_u8 (g8 x i) (g8 y i))⟩, ⟨_, rfl, Qok_val rfl (Ev_bini rfl rfl fun _ => bin_or_u8 a ((g8 x i) ^^^ (g8 y i)))⟩, ⟨_, rfl, Qok_val rfl (Ev_assign rfl)⟩, trivial⟩ ?_
      refine K_sub (F' := [(17, U8 a), (18, .slice a1 n1 c1), (19, I64 ((i:Int))), (20, Ptr bz1 (i + oz1)), (21, U8 (g8 x i)), (22, .slice a2 n2 c2), (23, I64 ((i:Int))), (24, Ptr bz2 (i + oz2)), (25, U8 (g8 y i)), (26, U8 ((g8 x i) ^^^ (g8 y i))), (27, U8 (a ||| ((g8 x i) ^^^ (g8 y i)))), (5, U8 (a ||| ((g8 x i) ^^^ (g8 y i)))), (0, .slice a1 n1 c1), (1, .slice a2 n2 c2), (4, .bool false), (13, I64 ((n1:Int))), (14, I64 ((i:Int))), (15, .bool (decide (((i:Int)) < ((n1:Int))))), (16, I64 ((i:Int))), (6, I64 ((i:Int)))]) (Sub.cons (by kernel_rfl) (Sub.cons (by kernel_rfl) (Sub.cons (by kernel_rfl) (Sub.cons (by kernel_rfl) (Sub.cons (by kernel_rfl) (Sub.cons (by kernel_rfl) (Sub.cons (by kernel_rfl) (Sub.cons (by kernel_rfl) (Sub.cons (by kernel_rfl) (Sub.cons (by kernel_rfl) (Sub.cons (by kernel_rfl) (Sub.cons (by kernel_rfl) (Sub.cons (by kernel_rfl) (Sub.cons (by kernel_rfl) (Sub.cons (by kernel_rfl) (Sub.cons (by kernel_rfl) (Sub.cons (by kernel_rfl) (Sub.cons (by kernel_rfl) (Sub.cons (by kernel_rfl) (Sub.cons (by kernel_rfl) (Sub.nil))))))))))))))))))))) ?_
      show JQ _ _ _ [(17, U8 a), (18, .slice a1 n1 c1), (19, I64 ((i:Int))), (20, Ptr bz1 (i + oz1)), (21, U8 (g8 x i)), (22, .slice a2 n2 c2), (23, I64 ((i:Int))), (24, Ptr bz2 (i + oz2)), (25, U8 (g8 y i)), (26, U8 ((g8 x i) ^^^ (g8 y i))), (27, U8 (a ||| ((g8 x i) ^^^ (g8 y i)))), (5, U8 (a ||| ((g8 x i) ^^^ (g8 y i)))), (0, .slice a1 n1 c1), (1, .slice a2 n2 c2), (4, .bool false), (13, I64 ((n1:Int))), (14, I64 ((i:Int))), (15, .bool (decide (((i:Int)) < ((n1:Int))))), (16, I64 ((i:Int))), (6, I64 ((i:Int)))] _
      refine JQ_in_normal ?_
      refine JQ_then ?_
      refine JC_region ?_
      refine JL_val (I64 ((i:Int) + 1)) (Ev_bini rfl rfl fun _ => bin_add_i _ _ ((i:Int) + 1) (by omega) (by omega)) rfl ?_
      refine JL_val _ (Ev_move rfl) rfl ?_
      refine JL_nil ?_
      refine JQ_thenK ?_
      refine K_next (i + 1, a ||| ((g8 x i) ^^^ (g8 y i))) ⟨by omega, by rw [orN, ← hx2]⟩ (by first | (simp; omega) | simp | (dsimp only; omega) | omega) (Sub.cons rfl (Sub.cons rfl (Sub.cons rfl (Sub.cons rfl (Sub.cons rfl (Sub.cons rfl (Sub.nil))))))) rfl
    ·
      have hp2 : ¬ (((i:Int)) < ((n1:Int))) := of_decide_eq_false hb2
      refine JC_exit ?_
      refine JQ_then_exit ?_
      refine JQ_then_exit ?_
      refine JQ_in_same ?_
      refine JQ_then ?_
      refine JC_seq ?_
      refine JC_region ?_
      refine JL_val _ (Ev_move rfl) rfl ?_
      refine JL_val (.bool (decide (a = (0:UInt8)))) (Ev_bini rfl rfl fun _ => bin_eql_u8 a (0:UInt8)) rfl ?_
      refine JL_val _ (Ev_assign rfl) rfl ?_
      refine JL_nil ?_
      refine JQ_then ?_
      refine JC_ret ?_
      refine JQ_ret (.bool (decide (a = (0:UInt8)))) (res1 Tryd.results36 (RV_tmp rfl)) fun w1 hw1 => ?_
      refine ⟨_, [], rfl, ⟨?_, rfl⟩, hw1.sub (by simp) (by simp)⟩
      have e1 : i = n1 := by omega
      rw [hx2, e1, orN_same hx (by omega)]

end Go.Proofs.YtncoifiafklkjaaDoor
