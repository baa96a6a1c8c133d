import Derived.Test.YtncoifiafklkjaaDoorSha1
namespace Go.Proofs.YtncoifiafklkjaaDoor
open Go Go.Sx
set_option linter.unusedVariables false
set_option linter.unusedSimpArgs false
set_option maxRecDepth 100000
attribute [local irreducible] mid zr8 zr32 rotr wordL spreadL comprL cpN adN spN wrdN constL initL
theorem spread_c (blk : List UInt8) (w : World) (hb : blk.length = 64) : Calls Tryd.prog 85 #[.agg (cu8 blk).toArray] w (Post w [] (fun v L => v = .agg (cu32 (spreadL blk)).toArray ∧ L = [])) := by
  refine enter w [] 60 [] [.agg (cu8 blk).toArray] Tryd.func85 rfl rfl (by simp) (Hp.start (by simp) (by simp) (by simp)) ?_
  show JC _ _ _ [(0, .agg (cu8 blk).toArray)] _
  refine JC_seq ?_
  refine JC_region ?_
  refine JL_step (Step_box (.agg (cu8 blk).toArray) (cu8 blk) rfl (by first | rfl | simp)) rfl ?_
  rintro v1 L1 ⟨nb1, hnb1, rfl, rfl⟩
  show JL _ _ _ _ ((1, Ptr nb1 0) :: _) [⟨nb1, cu8 blk, 32, (0, 0)⟩]
  refine JL_step (Step_alloc _ (cu32 (zr32 64)) Tryd.zeroValue44 (by kernel_rfl)) rfl ?_
  rintro v1 L1 ⟨nb2, hnb2, rfl, rfl⟩
  show JL _ _ _ _ ((2, Ptr nb2 0) :: _) [⟨nb1, cu8 blk, 32, (0, 0)⟩, ⟨nb2, cu32 (zr32 64), 44, (0, 0)⟩]
  refine JL_nil ?_
  refine JQ_then ?_
  refine JC_seq ?_
  refine JC_region ?_
  refine JL_step (Step_alloc _ (cu32 (zr32 64)) Tryd.zeroValue44 (by kernel_rfl)) rfl ?_
  rintro v1 L1 ⟨nb3, hnb3, rfl, rfl⟩
  show JL _ _ _ _ ((3, Ptr nb3 0) :: _) [⟨nb1, cu8 blk, 32, (0, 0)⟩, ⟨nb2, cu32 (zr32 64), 44, (0, 0)⟩, ⟨nb3, cu32 (zr32 64), 44, (0, 0)⟩]
  refine JL_nil ?_
  refine JQ_then ?_
  refine JC_seq ?_
  refine JC_seq ?_
  refine JC_region ?_
  refine JL_val _ (Ev_move rfl) rfl ?_
  refine JL_nil ?_
  refine JQ_then ?_
  refine JC_block ?_
  refine JC_loop (ι := Nat × List UInt32) (fun ⟨t, ww⟩ => [(1, Ptr nb1 0), (2, Ptr nb2 0), (3, Ptr nb3 0), (7, I64 ((t:Int)))]) (fun ⟨t, ww⟩ => [⟨nb1, cu8 blk, 32, (0, 0)⟩, ⟨nb2, cu32 (zr32 64), 44, (0, 0)⟩, ⟨nb3, cu32 ww, 44, (0, 0)⟩]) (fun ⟨t, ww⟩ => t ≤ 64 ∧ ww = spN blk t ∧ ww.length = 64) (fun ⟨t, ww⟩ => 64 - t) (0, zr32 64) ⟨by omega, by rw [spN], zr32_len 64⟩ (Sub.cons rfl (Sub.cons rfl (Sub.cons rfl (Sub.cons rfl (Sub.nil))))) rfl ?_
  rintro ⟨t, ww⟩ ⟨hx1, hx2, hw⟩
  show JC _ _ _ [(1, Ptr nb1 0), (2, Ptr nb2 0), (3, Ptr nb3 0), (7, I64 ((t:Int)))] [⟨nb1, cu8 blk, 32, (0, 0)⟩, ⟨nb2, cu32 (zr32 64), 44, (0, 0)⟩, ⟨nb3, cu32 ww, 44, (0, 0)⟩]
  refine JC_seq ?_
  refine JC_region ?_
  refine JL_val (.bool (decide (((t:Int)) < (64:Int)))) (Ev_bini rfl rfl fun _ => bin_lss_i _ _) rfl ?_
  refine JL_nil ?_
  refine JQ_then ?_
  refine JC_seq ?_
  refine JC_cond (decide (((t:Int)) < (64:Int))) rfl (fun hb1 => ?_) (fun hb1 => ?_)
  ·
    have hp1 : ((t:Int)) < (64:Int) := of_decide_eq_true hb1
    refine JC_skip ?_
    refine JQ_then ?_
    refine JC_seq ?_
    refine JC_block ?_
    refine JC_seq ?_
    refine JC_region ?_
    refine JL_val _ (Ev_move rfl) rfl ?_
    refine JL_val _ (Ev_assign rfl) rfl ?_
    refine JL_nil ?_
    refine JQ_then ?_
    refine JC_seq ?_
    refine JC_seq ?_
    refine JC_region ?_
    refine JL_val _ (Ev_move rfl) rfl ?_
    refine JL_val (.bool (decide (((t:Int)) < (16:Int)))) (Ev_bini rfl rfl fun _ => bin_lss_i _ _) rfl ?_
    refine JL_nil ?_
    refine JQ_then ?_
    refine JC_cond (decide (((t:Int)) < (16:Int))) rfl (fun hb2 => ?_) (fun hb2 => ?_)
    ·
      have hp2 : ((t:Int)) < (16:Int) := of_decide_eq_true hb2
      refine JC_seq ?_
      refine JC_region ?_
      refine JL_val _ (Ev_move rfl) rfl ?_
      refine JL_val _ (Ev_move rfl) rfl ?_
      refine JL_val (I64 (4*(t:Int))) (Ev_bini rfl rfl fun _ => bin_mul_i _ _ (4*(t:Int)) (by omega) (by omega)) rfl ?_
      refine JL_val _ (Ev_move rfl) rfl ?_
      refine JL_val (I64 (4*(t:Int))) (Ev_bini rfl rfl fun _ => bin_mul_i _ _ (4*(t:Int)) (by omega) (by omega)) rfl ?_
      refine JL_val (I64 (4*(t:Int) + 4)) (Ev_bini rfl rfl fun _ => bin_add_i _ _ (4*(t:Int) + 4) (by omega) (by omega)) rfl ?_
      refine JL_val (Slc nb1 (4*t) 4 (64 - 4*t)) (Ev_sliceA 64 5 1 (4*t) (4*t + 4) (4*t) (64 - 4*t) Tryd.underlying32 Tryd.sizeOf5 rfl (some_i64 (by omega)) (some_i64 (by omega)) (by omega) (by omega) (by omega) (by omega) (by omega) 4 (by omega)) rfl ?_
      have hl1 : (mid blk (4*t) 4).length = 4 := mid_len (by rw [hb]; omega)
      refine JL_step (Step_callP 114 [Slc nb1 (4*t) 4 (64 - 4*t)] (U32 (wordL (mid blk (4*t) 4))) (Cl_func [Slc nb1 (4*t) 4 (64 - 4*t)] Tryd.call114 rfl) (fun w1 hw1 => word_c (some ⟨nb1, (4*t), none⟩) (64 - 4*t) (mid blk (4*t) 4) w1 hl1 (RdB.of hw1 (MemAt.ent 0 rfl (segm_u8 (4*t) 4 (by rw [hb]; omega))) (by simp)))) rfl ?_
      rintro v1 L1 ⟨rfl, rfl⟩
      show JL _ _ _ _ ((19, U32 (wordL (mid blk (4*t) 4))) :: _) [⟨nb1, cu8 blk, 32, (0, 0)⟩, ⟨nb2, cu32 (zr32 64), 44, (0, 0)⟩, ⟨nb3, cu32 ww, 44, (0, 0)⟩]
      refine JL_val (Ptr nb3 t) (Ev_indexArr 64 30 1 t Tryd.underlying44 Tryd.sizeOf30 rfl rfl (by omega) (by omega) (by omega)) rfl ?_
      have hl2 : (ww.set t (wordL (mid blk (4*t) 4))).length = 64 := by simp [hw]
      refine JL_step (Step_store 2 nb3 t 1 (cu32 ww) 44 (U32 (wordL (mid blk (4*t) 4))) ([U32 (wordL (mid blk (4*t) 4))]) (cu32 (ww.set t (wordL (mid blk (4*t) 4)))) rfl rfl rfl rfl Tryd.sizeOf30 rfl (by simp [Value.oneCell']) (by simp [hw]; try omega) (lay32 _ _ _ (by rw [hw]; omega))) rfl ?_
      rintro v1 L1 ⟨rfl, rfl⟩
      show JL _ _ _ _ _ [⟨nb1, cu8 blk, 32, (0, 0)⟩, ⟨nb2, cu32 (zr32 64), 44, (0, 0)⟩, ⟨nb3, cu32 (ww.set t (wordL (mid blk (4*t) 4))), 44, (0, 0)⟩]
      refine JL_nil ?_
      refine JQ_then ?_
      refine JC_exit ?_
      refine JQ_then_exit ?_
      refine JQ_in_same ?_
      refine JQ_then ?_
      refine JC_region ?_
      refine JL_val (I64 ((t:Int) + 1)) (Ev_bini rfl rfl fun _ => bin_add_i _ _ ((t:Int) + 1) (by omega) (by omega)) rfl ?_
      refine JL_val _ (Ev_move rfl) rfl ?_
      refine JL_nil ?_
      refine JQ_thenK ?_
      refine K_next (t + 1, ww.set t (wordL (mid blk (4*t) 4))) ⟨by omega, by rw [spN, spS, if_pos (by omega), ← hx2], hl2⟩ (by first | (simp; omega) | simp) (Sub.cons rfl (Sub.cons rfl (Sub.cons rfl (Sub.cons rfl (Sub.nil))))) rfl
    ·
      have hp2 : ¬ (((t:Int)) < (16:Int)) := of_decide_eq_false hb2
      refine JC_skip ?_
      refine JQ_then ?_
      refine JC_seq ?_
      refine JC_draw 60 1 [(0, I64 ((t:Int))), (1, I64 ((t:Int) - 15)), (2, Ptr nb3 (t - 15)), (3, U32 (g32 ww (t - 15))), (4, I64 ((t:Int))), (5, I64 ((t:Int) - 2)), (6, Ptr nb3 (t - 2)), (7, U32 (g32 ww (t - 2))), (8, U32 (g32 ww (t - 15))), (9, U32 (g32 ww (t - 2)))] Tryd.mixed rfl (by decide +kernel) ?_
      refine DP_end ⟨[], [0, 1, 2, 3, 4, 5, 6, 7, 8, 9], [], [0, 1, 2, 3, 4, 5, 6, 7, 8, 9], []⟩ rfl rfl (by decide +kernel) rfl ⟨⟨_, rfl, Qok_val rfl (Ev_move rfl)⟩, ⟨_, rfl, Qok_val rfl (Ev_bini rfl rfl fun _ => bin_sub_i _ _ ((t:Int) - 15) (by omega) (by omega))⟩, ⟨_, rfl, Qok_val rfl (Ev_indexArr 64 30 1 (t - 15) Tryd.underlying44 Tryd.sizeOf30 rfl rfl (by omega) (by omega) (by omega))⟩, ⟨_, rfl, Qok_val rfl (Ev_load rfl (Ld_one Tryd.isAgg30 (MemAt.ent 2 rfl (Seg.get (g32_get (i := (t - 15)) (by rw [hw]; omega))))))⟩, ⟨_, rfl, Qok_val rfl (Ev_move rfl)⟩, ⟨_, rfl, Qok_val rfl (Ev_bini rfl rfl fun _ => bin_sub_i _ _ ((t:Int) - 2) (by omega) (by omega))⟩, ⟨_, rfl, Qok_val rfl (Ev_indexArr 64 30 1 (t - 2) Tryd.underlying44 Tryd.sizeOf30 rfl rfl (by omega) (by omega) (by omega))⟩, ⟨_, rfl, Qok_val rfl (Ev_load rfl (Ld_one Tryd.isAgg30 (MemAt.ent 2 rfl (Seg.get (g32_get (i := (t - 2)) (by rw [hw]; omega))))))⟩, ⟨_, rfl, Qok_val rfl (Ev_assign rfl)⟩, ⟨_, rfl, Qok_val rfl (Ev_assign rfl)⟩, trivial⟩ ?_
      refine K_sub (F' := [(21, I64 ((t:Int))), (22, I64 ((t:Int) - 15)), (23, Ptr nb3 (t - 15)), (24, U32 (g32 ww (t - 15))), (25, I64 ((t:Int))), (26, I64 ((t:Int) - 2)), (27, Ptr nb3 (t - 2)), (28, U32 (g32 ww (t - 2))), (5, U32 (g32 ww (t - 15))), (6, U32 (g32 ww (t - 2))), (1, Ptr nb1 0), (2, Ptr nb2 0), (3, Ptr nb3 0), (7, I64 ((t:Int))), (8, .bool (decide (((t:Int)) < (64:Int)))), (9, I64 ((t:Int))), (4, I64 ((t:Int))), (10, I64 ((t:Int))), (11, .bool (decide (((t:Int)) < (16:Int))))]) (Sub.cons (by kernel_rfl) (Sub.cons (by kernel_rfl) (Sub.cons (by kernel_rfl) (Sub.cons (by kernel_rfl) (Sub.cons (by kernel_rfl) (Sub.cons (by kernel_rfl) (Sub.cons (by kernel_rfl) (Sub.cons (by kernel_rfl) (Sub.cons (by kernel_rfl) (Sub.cons (by kernel_rfl) (Sub.cons (by kernel_rfl) (Sub.cons (by kernel_rfl) (Sub.cons (by kernel_rfl) (Sub.cons (by kernel_rfl) (Sub.cons (by kernel_rfl) (Sub.cons (by kernel_rfl) (Sub.cons (by kernel_rfl) (Sub.cons (by kernel_rfl) (Sub.cons (by kernel_rfl) (Sub.nil)))))))))))))))))))) ?_
      show JQ _ _ _ [(21, I64 ((t:Int))), (22, I64 ((t:Int) - 15)), (23, Ptr nb3 (t - 15)), (24, U32 (g32 ww (t - 15))), (25, I64 ((t:Int))), (26, I64 ((t:Int) - 2)), (27, Ptr nb3 (t - 2)), (28, U32 (g32 ww (t - 2))), (5, U32 (g32 ww (t - 15))), (6, U32 (g32 ww (t - 2))), (1, Ptr nb1 0), (2, Ptr nb2 0), (3, Ptr nb3 0), (7, I64 ((t:Int))), (8, .bool (decide (((t:Int)) < (64:Int)))), (9, I64 ((t:Int))), (4, I64 ((t:Int))), (10, I64 ((t:Int))), (11, .bool (decide (((t:Int)) < (16:Int))))] _
      refine JQ_then ?_
      refine JC_draw 60 6 [(0, I64 ((t:Int))), (1, I64 ((t:Int))), (2, I64 ((t:Int) - 16)), (3, Ptr nb3 (t - 16)), (4, U32 (g32 ww (t - 16))), (5, U32 (g32 ww (t - 15))), (7, U32 (g32 ww (t - 15))), (10, U32 (g32 ww (t - 15))), (11, U32 ((g32 ww (t - 15)) >>> (3:UInt32))), (14, I64 ((t:Int))), (15, I64 ((t:Int) - 7)), (16, Ptr nb3 (t - 7)), (17, U32 (g32 ww (t - 7))), (19, U32 (g32 ww (t - 2))), (21, U32 (g32 ww (t - 2))), (24, U32 (g32 ww (t - 2))), (25, U32 ((g32 ww (t - 2)) >>> (10:UInt32)))] Tryd.mixed rfl (by decide +kernel) ?_
      refine DP_one ⟨[], [0, 1, 2, 3, 4, 5, 7, 10, 11, 14, 15, 16, 17, 19, 21, 24, 25], [], [0, 1, 2, 3, 4, 5, 7, 10, 11, 14, 15, 16, 17, 19, 21, 24, 25], [6]⟩ 6 _ rfl rfl (by decide +kernel) rfl ⟨⟨_, rfl, Qok_val rfl (Ev_move rfl)⟩, ⟨_, rfl, Qok_val rfl (Ev_move rfl)⟩, ⟨_, rfl, Qok_val rfl (Ev_bini rfl rfl fun _ => bin_sub_i _ _ ((t:Int) - 16) (by omega) (by omega))⟩, ⟨_, rfl, Qok_val rfl (Ev_indexArr 64 30 1 (t - 16) Tryd.underlying44 Tryd.sizeOf30 rfl rfl (by omega) (by omega) (by omega))⟩, ⟨_, rfl, Qok_val rfl (Ev_load rfl (Ld_one Tryd.isAgg30 (MemAt.ent 2 rfl (Seg.get (g32_get (i := (t - 16)) (by rw [hw]; omega))))))⟩, ⟨_, rfl, Qok_val rfl (Ev_move rfl)⟩, ⟨_, rfl, Qok_val rfl (Ev_move rfl)⟩, ⟨_, rfl, Qok_val rfl (Ev_move rfl)⟩, ⟨_, rfl, Qok_val rfl (Ev_bini rfl rfl fun _ => bin_shr_u32 (g32 ww (t - 15)) _ _ 3 (by decide) rfl)⟩, ⟨_, rfl, Qok_val rfl (Ev_move rfl)⟩, ⟨_, rfl, Qok_val rfl (Ev_bini rfl rfl fun _ => bin_sub_i _ _ ((t:Int) - 7) (by omega) (by omega))⟩, ⟨_, rfl, Qok_val rfl (Ev_indexArr 64 30 1 (t - 7) Tryd.underlying44 Tryd.sizeOf30 rfl rfl (by omega) (by omega) (by omega))⟩, ⟨_, rfl, Qok_val rfl (Ev_load rfl (Ld_one Tryd.isAgg30 (MemAt.ent 2 rfl (Seg.get (g32_get (i := (t - 7)) (by rw [hw]; omega))))))⟩, ⟨_, rfl, Qok_val rfl (Ev_move rfl)⟩, ⟨_, rfl, Qok_val rfl (Ev_move rfl)⟩, ⟨_, rfl, Qok_val rfl (Ev_move rfl)⟩, ⟨_, rfl, Qok_val rfl (Ev_bini rfl rfl fun _ => bin_shr_u32 (g32 ww (t - 2)) _ _ 10 (by decide) rfl)⟩, trivial⟩ rfl (Cok_step rfl (Step_callP 86 [U32 (g32 ww (t - 15)), I64 (7:Int)] (U32 (rotr (g32 ww (t - 15)) 7)) (Cl_func [U32 (g32 ww (t - 15)), I64 (7:Int)] Tryd.call86 rfl) (fun w1 hw1 => turn_c (g32 ww (t - 15)) 7 w1 (by omega) (by omega)))) ?_
      rintro v1 L1 ⟨rfl, rfl⟩
      refine ⟨[], ?_⟩
      show DP _ _ _ _ _ _ _ _ [⟨nb1, cu8 blk, 32, (0, 0)⟩, ⟨nb2, cu32 (zr32 64), 44, (0, 0)⟩, ⟨nb3, cu32 ww, 44, (0, 0)⟩]
      refine DP_one ⟨[6], [0, 1, 2, 3, 4, 5, 7, 10, 11, 14, 15, 16, 17, 19, 21, 24, 25], [5], [0, 1, 2, 3, 4, 7, 10, 11, 14, 15, 16, 17, 19, 21, 24, 25], [8]⟩ 8 _ rfl rfl (by decide +kernel) rfl ⟨⟨_, rfl, Qok_val rfl (Ev_move rfl)⟩, ⟨_, rfl, Qok_val rfl (Ev_move rfl)⟩, ⟨_, rfl, Qok_val rfl (Ev_bini rfl rfl fun _ => bin_sub_i _ _ ((t:Int) - 16) (by omega) (by omega))⟩, ⟨_, rfl, Qok_val rfl (Ev_indexArr 64 30 1 (t - 16) Tryd.underlying44 Tryd.sizeOf30 rfl rfl (by omega) (by omega) (by omega))⟩, ⟨_, rfl, Qok_val rfl (Ev_load rfl (Ld_one Tryd.isAgg30 (MemAt.ent 2 rfl (Seg.get (g32_get (i := (t - 16)) (by rw [hw]; omega))))))⟩, ⟨_, rfl, Qok_val rfl (Ev_move rfl)⟩, ⟨_, rfl, Qok_val rfl (Ev_move rfl)⟩, ⟨_, rfl, Qok_val rfl (Ev_bini rfl rfl fun _ => bin_shr_u32 (g32 ww (t - 15)) _ _ 3 (by decide) rfl)⟩, ⟨_, rfl, Qok_val rfl (Ev_move rfl)⟩, ⟨_, rfl, Qok_val rfl (Ev_bini rfl rfl fun _ => bin_sub_i _ _ ((t:Int) - 7) (by omega) (by omega))⟩, ⟨_, rfl, Qok_val rfl (Ev_indexArr 64 30 1 (t - 7) Tryd.underlying44 Tryd.sizeOf30 rfl rfl (by omega) (by omega) (by omega))⟩, ⟨_, rfl, Qok_val rfl (Ev_load rfl (Ld_one Tryd.isAgg30 (MemAt.ent 2 rfl (Seg.get (g32_get (i := (t - 7)) (by rw [hw]; omega))))))⟩, ⟨_, rfl, Qok_val rfl (Ev_move rfl)⟩, ⟨_, rfl, Qok_val rfl (Ev_move rfl)⟩, ⟨_, rfl, Qok_val rfl (Ev_move rfl)⟩, ⟨_, rfl, Qok_val rfl (Ev_bini rfl rfl fun _ => bin_shr_u32 (g32 ww (t - 2)) _ _ 10 (by decide) rfl)⟩, trivial⟩ rfl (Cok_step rfl (Step_callP 86 [U32 (g32 ww (t - 15)), I64 (18:Int)] (U32 (rotr (g32 ww (t - 15)) 18)) (Cl_func [U32 (g32 ww (t - 15)), I64 (18:Int)] Tryd.call86 rfl) (fun w1 hw1 => turn_c (g32 ww (t - 15)) 18 w1 (by omega) (by omega)))) ?_
      rintro v1 L1 ⟨rfl, rfl⟩
      refine ⟨[(9, U32 ((rotr (g32 ww (t - 15)) 7) ^^^ (rotr (g32 ww (t - 15)) 18))), (12, U32 (((rotr (g32 ww (t - 15)) 7) ^^^ (rotr (g32 ww (t - 15)) 18)) ^^^ ((g32 ww (t - 15)) >>> (3:UInt32)))), (13, U32 ((g32 ww (t - 16)) + (((rotr (g32 ww (t - 15)) 7) ^^^ (rotr (g32 ww (t - 15)) 18)) ^^^ ((g32 ww (t - 15)) >>> (3:UInt32))))), (18, U32 (((g32 ww (t - 16)) + (((rotr (g32 ww (t - 15)) 7) ^^^ (rotr (g32 ww (t - 15)) 18)) ^^^ ((g32 ww (t - 15)) >>> (3:UInt32)))) + (g32 ww (t - 7))))], ?_⟩
      show DP _ _ _ _ _ _ _ _ [⟨nb1, cu8 blk, 32, (0, 0)⟩, ⟨nb2, cu32 (zr32 64), 44, (0, 0)⟩, ⟨nb3, cu32 ww, 44, (0, 0)⟩]
      refine DP_one ⟨[6, 8], [0, 1, 2, 3, 4, 5, 7, 9, 10, 11, 12, 13, 14, 15, 16, 17, 18, 19, 21, 24, 25], [5, 7], [0, 1, 2, 3, 4, 9, 10, 11, 12, 13, 14, 15, 16, 17, 18, 19, 21, 24, 25], [20]⟩ 20 _ rfl rfl (by decide +kernel) rfl ⟨⟨_, rfl, Qok_val rfl (Ev_move rfl)⟩, ⟨_, rfl, Qok_val rfl (Ev_move rfl)⟩, ⟨_, rfl, Qok_val rfl (Ev_bini rfl rfl fun _ => bin_sub_i _ _ ((t:Int) - 16) (by omega) (by omega))⟩, ⟨_, rfl, Qok_val rfl (Ev_indexArr 64 30 1 (t - 16) Tryd.underlying44 Tryd.sizeOf30 rfl rfl (by omega) (by omega) (by omega))⟩, ⟨_, rfl, Qok_val rfl (Ev_load rfl (Ld_one Tryd.isAgg30 (MemAt.ent 2 rfl (Seg.get (g32_get (i := (t - 16)) (by rw [hw]; omega))))))⟩, ⟨_, rfl, Qok_val rfl (Ev_bini rfl rfl fun _ => bin_xor_u32 (rotr (g32 ww (t - 15)) 7) (rotr (g32 ww (t - 15)) 18))⟩, ⟨_, rfl, Qok_val rfl (Ev_move rfl)⟩, ⟨_, rfl, Qok_val rfl (Ev_bini rfl rfl fun _ => bin_shr_u32 (g32 ww (t - 15)) _ _ 3 (by decide) rfl)⟩, ⟨_, rfl, Qok_val rfl (Ev_bini rfl rfl fun _ => bin_xor_u32 ((rotr (g32 ww (t - 15)) 7) ^^^ (rotr (g32 ww (t - 15)) 18)) ((g32 ww (t - 15)) >>> (3:UInt32)))⟩, ⟨_, rfl, Qok_val rfl (Ev_bini rfl rfl fun _ => bin_add_u32 (g32 ww (t - 16)) (((rotr (g32 ww (t - 15)) 7) ^^^ (rotr (g32 ww (t - 15)) 18)) ^^^ ((g32 ww (t - 15)) >>> (3:UInt32))))⟩, ⟨_, rfl, Qok_val rfl (Ev_move rfl)⟩, ⟨_, rfl, Qok_val rfl (Ev_bini rfl rfl fun _ => bin_sub_i _ _ ((t:Int) - 7) (by omega) (by omega))⟩, ⟨_, rfl, Qok_val rfl (Ev_indexArr 64 30 1 (t - 7) Tryd.underlying44 Tryd.sizeOf30 rfl rfl (by omega) (by omega) (by omega))⟩, ⟨_, rfl, Qok_val rfl (Ev_load rfl (Ld_one Tryd.isAgg30 (MemAt.ent 2 rfl (Seg.get (g32_get (i := (t - 7)) (by rw [hw]; omega))))))⟩, ⟨_, rfl, Qok_val rfl (Ev_bini rfl rfl fun _ => bin_add_u32 ((g32 ww (t - 16)) + (((rotr (g32 ww (t - 15)) 7) ^^^ (rotr (g32 ww (t - 15)) 18)) ^^^ ((g32 ww (t - 15)) >>> (3:UInt32)))) (g32 ww (t - 7)))⟩, ⟨_, rfl, Qok_val rfl (Ev_move rfl)⟩, ⟨_, rfl, Qok_val rfl (Ev_move rfl)⟩, ⟨_, rfl, Qok_val rfl (Ev_move rfl)⟩, ⟨_, rfl, Qok_val rfl (Ev_bini rfl rfl fun _ => bin_shr_u32 (g32 ww (t - 2)) _ _ 10 (by decide) rfl)⟩, trivial⟩ rfl (Cok_step rfl (Step_callP 86 [U32 (g32 ww (t - 2)), I64 (17:Int)] (U32 (rotr (g32 ww (t - 2)) 17)) (Cl_func [U32 (g32 ww (t - 2)), I64 (17:Int)] Tryd.call86 rfl) (fun w1 hw1 => turn_c (g32 ww (t - 2)) 17 w1 (by omega) (by omega)))) ?_
      rintro v1 L1 ⟨rfl, rfl⟩
      refine ⟨[], ?_⟩
      show DP _ _ _ _ _ _ _ _ [⟨nb1, cu8 blk, 32, (0, 0)⟩, ⟨nb2, cu32 (zr32 64), 44, (0, 0)⟩, ⟨nb3, cu32 ww, 44, (0, 0)⟩]
      refine DP_one ⟨[6, 8, 20], [0, 1, 2, 3, 4, 5, 7, 9, 10, 11, 12, 13, 14, 15, 16, 17, 18, 19, 21, 24, 25], [5, 7, 19], [0, 1, 2, 3, 4, 9, 10, 11, 12, 13, 14, 15, 16, 17, 18, 21, 24, 25], [22]⟩ 22 _ rfl rfl (by decide +kernel) rfl ⟨⟨_, rfl, Qok_val rfl (Ev_move rfl)⟩, ⟨_, rfl, Qok_val rfl (Ev_move rfl)⟩, ⟨_, rfl, Qok_val rfl (Ev_bini rfl rfl fun _ => bin_sub_i _ _ ((t:Int) - 16) (by omega) (by omega))⟩, ⟨_, rfl, Qok_val rfl (Ev_indexArr 64 30 1 (t - 16) Tryd.underlying44 Tryd.sizeOf30 rfl rfl (by omega) (by omega) (by omega))⟩, ⟨_, rfl, Qok_val rfl (Ev_load rfl (Ld_one Tryd.isAgg30 (MemAt.ent 2 rfl (Seg.get (g32_get (i := (t - 16)) (by rw [hw]; omega))))))⟩, ⟨_, rfl, Qok_val rfl (Ev_bini rfl rfl fun _ => bin_xor_u32 (rotr (g32 ww (t - 15)) 7) (rotr (g32 ww (t - 15)) 18))⟩, ⟨_, rfl, Qok_val rfl (Ev_move rfl)⟩, ⟨_, rfl, Qok_val rfl (Ev_bini rfl rfl fun _ => bin_shr_u32 (g32 ww (t - 15)) _ _ 3 (by decide) rfl)⟩, ⟨_, rfl, Qok_val rfl (Ev_bini rfl rfl fun _ => bin_xor_u32 ((rotr (g32 ww (t - 15)) 7) ^^^ (rotr (g32 ww (t - 15)) 18)) ((g32 ww (t - 15)) >>> (3:UInt32)))⟩, ⟨_, rfl, Qok_val rfl (Ev_bini rfl rfl fun _ => bin_add_u32 (g32 ww (t - 16)) (((rotr (g32 ww (t - 15)) 7) ^^^ (rotr (g32 ww (t - 15)) 18)) ^^^ ((g32 ww (t - 15)) >>> (3:UInt32))))⟩, ⟨_, rfl, Qok_val rfl (Ev_move rfl)⟩, ⟨_, rfl, Qok_val rfl (Ev_bini rfl rfl fun _ => bin_sub_i _ _ ((t:Int) - 7) (by omega) (by omega))⟩, ⟨_, rfl, Qok_val rfl (Ev_indexArr 64 30 1 (t - 7) Tryd.underlying44 Tryd.sizeOf30 rfl rfl (by omega) (by omega) (by omega))⟩, ⟨_, rfl, Qok_val rfl (Ev_load rfl (Ld_one Tryd.isAgg30 (MemAt.ent 2 rfl (Seg.get (g32_get (i := (t - 7)) (by rw [hw]; omega))))))⟩, ⟨_, rfl, Qok_val rfl (Ev_bini rfl rfl fun _ => bin_add_u32 ((g32 ww (t - 16)) + (((rotr (g32 ww (t - 15)) 7) ^^^ (rotr (g32 ww (t - 15)) 18)) ^^^ ((g32 ww (t - 15)) >>> (3:UInt32)))) (g32 ww (t - 7)))⟩, ⟨_, rfl, Qok_val rfl (Ev_move rfl)⟩, ⟨_, rfl, Qok_val rfl (Ev_move rfl)⟩, ⟨_, rfl, Qok_val rfl (Ev_bini rfl rfl fun _ => bin_shr_u32 (g32 ww (t - 2)) _ _ 10 (by decide) rfl)⟩, trivial⟩ rfl (Cok_step rfl (Step_callP 86 [U32 (g32 ww (t - 2)), I64 (19:Int)] (U32 (rotr (g32 ww (t - 2)) 19)) (Cl_func [U32 (g32 ww (t - 2)), I64 (19:Int)] Tryd.call86 rfl) (fun w1 hw1 => turn_c (g32 ww (t - 2)) 19 w1 (by omega) (by omega)))) ?_
      rintro v1 L1 ⟨rfl, rfl⟩
      refine ⟨[(23, U32 ((rotr (g32 ww (t - 2)) 17) ^^^ (rotr (g32 ww (t - 2)) 19))), (26, U32 (((rotr (g32 ww (t - 2)) 17) ^^^ (rotr (g32 ww (t - 2)) 19)) ^^^ ((g32 ww (t - 2)) >>> (10:UInt32)))), (27, U32 ((((g32 ww (t - 16)) + (((rotr (g32 ww (t - 15)) 7) ^^^ (rotr (g32 ww (t - 15)) 18)) ^^^ ((g32 ww (t - 15)) >>> (3:UInt32)))) + (g32 ww (t - 7))) + (((rotr (g32 ww (t - 2)) 17) ^^^ (rotr (g32 ww (t - 2)) 19)) ^^^ ((g32 ww (t - 2)) >>> (10:UInt32))))), (28, Ptr nb3 t)], ?_⟩
      show DP _ _ _ _ _ _ _ _ [⟨nb1, cu8 blk, 32, (0, 0)⟩, ⟨nb2, cu32 (zr32 64), 44, (0, 0)⟩, ⟨nb3, cu32 ww, 44, (0, 0)⟩]
      have hl3 : (ww.set t ((((g32 ww (t - 16)) + (((rotr (g32 ww (t - 15)) 7) ^^^ (rotr (g32 ww (t - 15)) 18)) ^^^ ((g32 ww (t - 15)) >>> (3:UInt32)))) + (g32 ww (t - 7))) + (((rotr (g32 ww (t - 2)) 17) ^^^ (rotr (g32 ww (t - 2)) 19)) ^^^ ((g32 ww (t - 2)) >>> (10:UInt32))))).length = 64 := by simp [hw]
      refine DP_one ⟨[6, 8, 20, 22], [0, 1, 2, 3, 4, 5, 7, 9, 10, 11, 12, 13, 14, 15, 16, 17, 18, 19, 21, 23, 24, 25, 26, 27, 28], [5, 7, 19, 21], [0, 1, 2, 3, 4, 9, 10, 11, 12, 13, 14, 15, 16, 17, 18, 23, 24, 25, 26, 27, 28], [29]⟩ 29 _ rfl rfl (by decide +kernel) rfl ⟨⟨_, rfl, Qok_val rfl (Ev_move rfl)⟩, ⟨_, rfl, Qok_val rfl (Ev_move rfl)⟩, ⟨_, rfl, Qok_val rfl (Ev_bini rfl rfl fun _ => bin_sub_i _ _ ((t:Int) - 16) (by omega) (by omega))⟩, ⟨_, rfl, Qok_val rfl (Ev_indexArr 64 30 1 (t - 16) Tryd.underlying44 Tryd.sizeOf30 rfl rfl (by omega) (by omega) (by omega))⟩, ⟨_, rfl, Qok_val rfl (Ev_load rfl (Ld_one Tryd.isAgg30 (MemAt.ent 2 rfl (Seg.get (g32_get (i := (t - 16)) (by rw [hw]; omega))))))⟩, ⟨_, rfl, Qok_val rfl (Ev_bini rfl rfl fun _ => bin_xor_u32 (rotr (g32 ww (t - 15)) 7) (rotr (g32 ww (t - 15)) 18))⟩, ⟨_, rfl, Qok_val rfl (Ev_move rfl)⟩, ⟨_, rfl, Qok_val rfl (Ev_bini rfl rfl fun _ => bin_shr_u32 (g32 ww (t - 15)) _ _ 3 (by decide) rfl)⟩, ⟨_, rfl, Qok_val rfl (Ev_bini rfl rfl fun _ => bin_xor_u32 ((rotr (g32 ww (t - 15)) 7) ^^^ (rotr (g32 ww (t - 15)) 18)) ((g32 ww (t - 15)) >>> (3:UInt32)))⟩, ⟨_, rfl, Qok_val rfl (Ev_bini rfl rfl fun _ => bin_add_u32 (g32 ww (t - 16)) (((rotr (g32 ww (t - 15)) 7) ^^^ (rotr (g32 ww (t - 15)) 18)) ^^^ ((g32 ww (t - 15)) >>> (3:UInt32))))⟩, ⟨_, rfl, Qok_val rfl (Ev_move rfl)⟩, ⟨_, rfl, Qok_val rfl (Ev_bini rfl rfl fun _ => bin_sub_i _ _ ((t:Int) - 7) (by omega) (by omega))⟩, ⟨_, rfl, Qok_val rfl (Ev_indexArr 64 30 1 (t - 7) Tryd.underlying44 Tryd.sizeOf30 rfl rfl (by omega) (by omega) (by omega))⟩, ⟨_, rfl, Qok_val rfl (Ev_load rfl (Ld_one Tryd.isAgg30 (MemAt.ent 2 rfl (Seg.get (g32_get (i := (t - 7)) (by rw [hw]; omega))))))⟩, ⟨_, rfl, Qok_val rfl (Ev_bini rfl rfl fun _ => bin_add_u32 ((g32 ww (t - 16)) + (((rotr (g32 ww (t - 15)) 7) ^^^ (rotr (g32 ww (t - 15)) 18)) ^^^ ((g32 ww (t - 15)) >>> (3:UInt32)))) (g32 ww (t - 7)))⟩, ⟨_, rfl, Qok_val rfl (Ev_bini rfl rfl fun _ => bin_xor_u32 (rotr (g32 ww (t - 2)) 17) (rotr (g32 ww (t - 2)) 19))⟩, ⟨_, rfl, Qok_val rfl (Ev_move rfl)⟩, ⟨_, rfl, Qok_val rfl (Ev_bini rfl rfl fun _ => bin_shr_u32 (g32 ww (t - 2)) _ _ 10 (by decide) rfl)⟩, ⟨_, rfl, Qok_val rfl (Ev_bini rfl rfl fun _ => bin_xor_u32 ((rotr (g32 ww (t - 2)) 17) ^^^ (rotr (g32 ww (t - 2)) 19)) ((g32 ww (t - 2)) >>> (10:UInt32)))⟩, ⟨_, rfl, Qok_val rfl (Ev_bini rfl rfl fun _ => bin_add_u32 (((g32 ww (t - 16)) + (((rotr (g32 ww (t - 15)) 7) ^^^ (rotr (g32 ww (t - 15)) 18)) ^^^ ((g32 ww (t - 15)) >>> (3:UInt32)))) + (g32 ww (t - 7))) (((rotr (g32 ww (t - 2)) 17) ^^^ (rotr (g32 ww (t - 2)) 19)) ^^^ ((g32 ww (t - 2)) >>> (10:UInt32))))⟩, ⟨_, rfl, Qok_val rfl (Ev_indexArr 64 30 1 t Tryd.underlying44 Tryd.sizeOf30 rfl rfl (by omega) (by omega) (by omega))⟩, trivial⟩ rfl (Cok_step rfl (Step_store 2 nb3 t 1 (cu32 ww) 44 (U32 ((((g32 ww (t - 16)) + (((rotr (g32 ww (t - 15)) 7) ^^^ (rotr (g32 ww (t - 15)) 18)) ^^^ ((g32 ww (t - 15)) >>> (3:UInt32)))) + (g32 ww (t - 7))) + (((rotr (g32 ww (t - 2)) 17) ^^^ (rotr (g32 ww (t - 2)) 19)) ^^^ ((g32 ww (t - 2)) >>> (10:UInt32))))) ([U32 ((((g32 ww (t - 16)) + (((rotr (g32 ww (t - 15)) 7) ^^^ (rotr (g32 ww (t - 15)) 18)) ^^^ ((g32 ww (t - 15)) >>> (3:UInt32)))) + (g32 ww (t - 7))) + (((rotr (g32 ww (t - 2)) 17) ^^^ (rotr (g32 ww (t - 2)) 19)) ^^^ ((g32 ww (t - 2)) >>> (10:UInt32))))]) (cu32 (ww.set t ((((g32 ww (t - 16)) + (((rotr (g32 ww (t - 15)) 7) ^^^ (rotr (g32 ww (t - 15)) 18)) ^^^ ((g32 ww (t - 15)) >>> (3:UInt32)))) + (g32 ww (t - 7))) + (((rotr (g32 ww (t - 2)) 17) ^^^ (rotr (g32 ww (t - 2)) 19)) ^^^ ((g32 ww (t - 2)) >>> (10:UInt32)))))) rfl rfl rfl rfl Tryd.sizeOf30 rfl (by simp [Value.oneCell']) (by simp [hw]; try omega) (lay32 _ _ _ (by rw [hw]; omega)))) ?_
      rintro v1 L1 ⟨rfl, rfl⟩
      refine ⟨[], ?_⟩
      show DP _ _ _ _ _ _ _ _ [⟨nb1, cu8 blk, 32, (0, 0)⟩, ⟨nb2, cu32 (zr32 64), 44, (0, 0)⟩, ⟨nb3, cu32 (ww.set t ((((g32 ww (t - 16)) + (((rotr (g32 ww (t - 15)) 7) ^^^ (rotr (g32 ww (t - 15)) 18)) ^^^ ((g32 ww (t - 15)) >>> (3:UInt32)))) + (g32 ww (t - 7))) + (((rotr (g32 ww (t - 2)) 17) ^^^ (rotr (g32 ww (t - 2)) 19)) ^^^ ((g32 ww (t - 2)) >>> (10:UInt32))))), 44, (0, 0)⟩]
      refine DP_end ⟨[6, 8, 20, 22, 29], [0, 1, 2, 3, 4, 5, 7, 9, 10, 11, 12, 13, 14, 15, 16, 17, 18, 19, 21, 23, 24, 25, 26, 27, 28], [0, 1, 2, 3, 4, 5, 7, 9, 10, 11, 12, 13, 14, 15, 16, 17, 18, 19, 21, 23, 24, 25, 26, 27, 28], [], []⟩ rfl rfl (by decide +kernel) rfl trivial ?_
      refine K_sub (F' := [(29, I64 ((t:Int))), (30, I64 ((t:Int))), (31, I64 ((t:Int) - 16)), (32, Ptr nb3 (t - 16)), (33, U32 (g32 ww (t - 16))), (34, U32 (g32 ww (t - 15))), (35, U32 (rotr (g32 ww (t - 15)) 7)), (36, U32 (g32 ww (t - 15))), (37, U32 (rotr (g32 ww (t - 15)) 18)), (38, U32 ((rotr (g32 ww (t - 15)) 7) ^^^ (rotr (g32 ww (t - 15)) 18))), (39, U32 (g32 ww (t - 15))), (40, U32 ((g32 ww (t - 15)) >>> (3:UInt32))), (41, U32 (((rotr (g32 ww (t - 15)) 7) ^^^ (rotr (g32 ww (t - 15)) 18)) ^^^ ((g32 ww (t - 15)) >>> (3:UInt32)))), (42, U32 ((g32 ww (t - 16)) + (((rotr (g32 ww (t - 15)) 7) ^^^ (rotr (g32 ww (t - 15)) 18)) ^^^ ((g32 ww (t - 15)) >>> (3:UInt32))))), (43, I64 ((t:Int))), (44, I64 ((t:Int) - 7)), (45, Ptr nb3 (t - 7)), (46, U32 (g32 ww (t - 7))), (47, U32 (((g32 ww (t - 16)) + (((rotr (g32 ww (t - 15)) 7) ^^^ (rotr (g32 ww (t - 15)) 18)) ^^^ ((g32 ww (t - 15)) >>> (3:UInt32)))) + (g32 ww (t - 7)))), (48, U32 (g32 ww (t - 2))), (49, U32 (rotr (g32 ww (t - 2)) 17)), (50, U32 (g32 ww (t - 2))), (51, U32 (rotr (g32 ww (t - 2)) 19)), (52, U32 ((rotr (g32 ww (t - 2)) 17) ^^^ (rotr (g32 ww (t - 2)) 19))), (53, U32 (g32 ww (t - 2))), (54, U32 ((g32 ww (t - 2)) >>> (10:UInt32))), (55, U32 (((rotr (g32 ww (t - 2)) 17) ^^^ (rotr (g32 ww (t - 2)) 19)) ^^^ ((g32 ww (t - 2)) >>> (10:UInt32)))), (56, U32 ((((g32 ww (t - 16)) + (((rotr (g32 ww (t - 15)) 7) ^^^ (rotr (g32 ww (t - 15)) 18)) ^^^ ((g32 ww (t - 15)) >>> (3:UInt32)))) + (g32 ww (t - 7))) + (((rotr (g32 ww (t - 2)) 17) ^^^ (rotr (g32 ww (t - 2)) 19)) ^^^ ((g32 ww (t - 2)) >>> (10:UInt32))))), (57, Ptr nb3 t), (21, I64 ((t:Int))), (22, I64 ((t:Int) - 15)), (23, Ptr nb3 (t - 15)), (24, U32 (g32 ww (t - 15))), (25, I64 ((t:Int))), (26, I64 ((t:Int) - 2)), (27, Ptr nb3 (t - 2)), (28, U32 (g32 ww (t - 2))), (5, U32 (g32 ww (t - 15))), (6, U32 (g32 ww (t - 2))), (1, Ptr nb1 0), (2, Ptr nb2 0), (3, Ptr nb3 0), (7, I64 ((t:Int))), (8, .bool (decide (((t:Int)) < (64:Int)))), (9, I64 ((t:Int))), (4, I64 ((t:Int))), (10, I64 ((t:Int))), (11, .bool (decide (((t:Int)) < (16:Int))))]) (Sub.cons (by kernel_rfl) (Sub.cons (by kernel_rfl) (Sub.cons (by kernel_rfl) (Sub.cons (by kernel_rfl) (Sub.cons (by kernel_rfl) (Sub.cons (by kernel_rfl) (Sub.cons (by kernel_rfl) (Sub.cons (by kernel_rfl) (Sub.cons (by kernel_rfl) (Sub.cons (by kernel_rfl) (Sub.cons (by kernel_rfl) (Sub.cons (by kernel_rfl) (Sub.cons (by kernel_rfl) (Sub.cons (by kernel_rfl) (Sub.cons (by kernel_rfl) (Sub.cons (by kernel_rfl) (Sub.cons (by kernel_rfl) (Sub.cons (by kernel_rfl) (Sub.cons (by kernel_rfl) (Sub.cons (by kernel_rfl) (Sub.cons (by kernel_rfl) (Sub.cons (by kernel_rfl) (Sub.cons (by kernel_rfl) (Sub.cons (by kernel_rfl) (Sub.cons (by kernel_rfl) (Sub.cons (by kernel_rfl) (Sub.cons (by kernel_rfl) (Sub.cons (by kernel_rfl) (Sub.cons (by kernel_rfl) (Sub.cons (by kernel_rfl) (Sub.cons (by kernel_rfl) (Sub.cons (by kernel_rfl) (Sub.cons (by kernel_rfl) (Sub.cons (by kernel_rfl) (Sub.cons (by kernel_rfl) (Sub.cons (by kernel_rfl) (Sub.cons (by kernel_rfl) (Sub.cons (by kernel_rfl) (Sub.cons (by kernel_rfl) (Sub.cons (by kernel_rfl) (Sub.cons (by kernel_rfl) (Sub.cons (by kernel_rfl) (Sub.cons (by kernel_rfl) (Sub.cons (by kernel_rfl) (Sub.cons (by kernel_rfl) (Sub.cons (by kernel_rfl) (Sub.cons (by kernel_rfl) (Sub.cons (by kernel_rfl) (Sub.nil))))))))))))))))))))))))))))))))))))))))))))))))) ?_
      show JQ _ _ _ [(29, I64 ((t:Int))), (30, I64 ((t:Int))), (31, I64 ((t:Int) - 16)), (32, Ptr nb3 (t - 16)), (33, U32 (g32 ww (t - 16))), (34, U32 (g32 ww (t - 15))), (35, U32 (rotr (g32 ww (t - 15)) 7)), (36, U32 (g32 ww (t - 15))), (37, U32 (rotr (g32 ww (t - 15)) 18)), (38, U32 ((rotr (g32 ww (t - 15)) 7) ^^^ (rotr (g32 ww (t - 15)) 18))), (39, U32 (g32 ww (t - 15))), (40, U32 ((g32 ww (t - 15)) >>> (3:UInt32))), (41, U32 (((rotr (g32 ww (t - 15)) 7) ^^^ (rotr (g32 ww (t - 15)) 18)) ^^^ ((g32 ww (t - 15)) >>> (3:UInt32)))), (42, U32 ((g32 ww (t - 16)) + (((rotr (g32 ww (t - 15)) 7) ^^^ (rotr (g32 ww (t - 15)) 18)) ^^^ ((g32 ww (t - 15)) >>> (3:UInt32))))), (43, I64 ((t:Int))), (44, I64 ((t:Int) - 7)), (45, Ptr nb3 (t - 7)), (46, U32 (g32 ww (t - 7))), (47, U32 (((g32 ww (t - 16)) + (((rotr (g32 ww (t - 15)) 7) ^^^ (rotr (g32 ww (t - 15)) 18)) ^^^ ((g32 ww (t - 15)) >>> (3:UInt32)))) + (g32 ww (t - 7)))), (48, U32 (g32 ww (t - 2))), (49, U32 (rotr (g32 ww (t - 2)) 17)), (50, U32 (g32 ww (t - 2))), (51, U32 (rotr (g32 ww (t - 2)) 19)), (52, U32 ((rotr (g32 ww (t - 2)) 17) ^^^ (rotr (g32 ww (t - 2)) 19))), (53, U32 (g32 ww (t - 2))), (54, U32 ((g32 ww (t - 2)) >>> (10:UInt32))), (55, U32 (((rotr (g32 ww (t - 2)) 17) ^^^ (rotr (g32 ww (t - 2)) 19)) ^^^ ((g32 ww (t - 2)) >>> (10:UInt32)))), (56, U32 ((((g32 ww (t - 16)) + (((rotr (g32 ww (t - 15)) 7) ^^^ (rotr (g32 ww (t - 15)) 18)) ^^^ ((g32 ww (t - 15)) >>> (3:UInt32)))) + (g32 ww (t - 7))) + (((rotr (g32 ww (t - 2)) 17) ^^^ (rotr (g32 ww (t - 2)) 19)) ^^^ ((g32 ww (t - 2)) >>> (10:UInt32))))), (57, Ptr nb3 t), (21, I64 ((t:Int))), (22, I64 ((t:Int) - 15)), (23, Ptr nb3 (t - 15)), (24, U32 (g32 ww (t - 15))), (25, I64 ((t:Int))), (26, I64 ((t:Int) - 2)), (27, Ptr nb3 (t - 2)), (28, U32 (g32 ww (t - 2))), (5, U32 (g32 ww (t - 15))), (6, U32 (g32 ww (t - 2))), (1, Ptr nb1 0), (2, Ptr nb2 0), (3, Ptr nb3 0), (7, I64 ((t:Int))), (8, .bool (decide (((t:Int)) < (64:Int)))), (9, I64 ((t:Int))), (4, I64 ((t:Int))), (10, I64 ((t:Int))), (11, .bool (decide (((t:Int)) < (16:Int))))] _
      refine JQ_in_normal ?_
      refine JQ_then ?_
      refine JC_region ?_
      refine JL_val (I64 ((t:Int) + 1)) (Ev_bini rfl rfl fun _ => bin_add_i _ _ ((t:Int) + 1) (by omega) (by omega)) rfl ?_
      refine JL_val _ (Ev_move rfl) rfl ?_
      refine JL_nil ?_
      refine JQ_thenK ?_
      refine K_next (t + 1, ww.set t ((((g32 ww (t - 16)) + (((rotr (g32 ww (t - 15)) 7) ^^^ (rotr (g32 ww (t - 15)) 18)) ^^^ ((g32 ww (t - 15)) >>> (3:UInt32)))) + (g32 ww (t - 7))) + (((rotr (g32 ww (t - 2)) 17) ^^^ (rotr (g32 ww (t - 2)) 19)) ^^^ ((g32 ww (t - 2)) >>> (10:UInt32))))) ⟨by omega, by rw [spN, spS, if_neg (by omega), ← hx2], hl3⟩ (by first | (simp; omega) | simp) (Sub.cons rfl (Sub.cons rfl (Sub.cons rfl (Sub.cons rfl (Sub.nil))))) rfl
  ·
    have hp1 : ¬ (((t:Int)) < (64:Int)) := of_decide_eq_false hb1
    refine JC_exit ?_
    refine JQ_then_exit ?_
    refine JQ_then_exit ?_
    refine JQ_in_same ?_
    refine JQ_then ?_
    refine JC_seq ?_
    refine JC_region ?_
    refine JL_val (.agg (cu32 ww).toArray) (Ev_load rfl (Ld_agg Tryd.isAgg44 Tryd.sizeOf44 (len_cu32 hw) (MemAt.ent 2 rfl (Seg.whole _)))) rfl ?_
    refine JL_step (Step_store 1 nb2 0 64 (cu32 (zr32 64)) 44 (.agg (cu32 ww).toArray) (cu32 ww) (cu32 ww) rfl rfl rfl (by first | rfl | simp) Tryd.sizeOf44 (len_cu32 hw) (by first | exact one_u8 | exact one_u32 | exact one_u64 | (simp [cu8, cu32, cu64, Value.oneCell']; done)) (by simp [(zr32_len 64)]) (lay_whole (by simp [(zr32_len 64), hw]))) rfl ?_
    rintro v1 L1 ⟨rfl, rfl⟩
    show JL _ _ _ _ _ [⟨nb1, cu8 blk, 32, (0, 0)⟩, ⟨nb2, cu32 ww, 44, (0, 0)⟩, ⟨nb3, cu32 ww, 44, (0, 0)⟩]
    refine JL_nil ?_
    refine JQ_then ?_
    refine JC_ret ?_
    refine JQ_ret (.agg (cu32 ww).toArray) (res1 Tryd.results85 (RV_cell rfl (Ld_agg Tryd.isAgg44 Tryd.sizeOf44 (len_cu32 hw) (MemAt.ent 1 rfl (Seg.whole _))))) fun w1 hw1 => ?_
    have e1 : t = 64 := by omega
    subst e1
    rw [show ww = spreadL blk by rw [spreadL, hx2]]
    exact ⟨_, [], rfl, ⟨rfl, rfl⟩, hw1.sub (by simp) (by simp)⟩

set_option maxHeartbeats 2000000 in
theorem compress_c (st : List UInt32) (blk : List UInt8) (w : World) (hs0 : st.length = 8) (hb : blk.length = 64) (hG : GLs w) : Calls Tryd.prog 28 #[.agg (cu32 st).toArray, .agg (cu8 blk).toArray] w (Post w [] (fun v L => v = .agg (cu32 (comprL constL st blk)).toArray ∧ L = [])) := by
  refine enter w [] 110 [] [.agg (cu32 st).toArray, .agg (cu8 blk).toArray] Tryd.func28 rfl rfl (by simp) (Hp.start (by simp) (by simp) (by simp)) ?_
  show JC _ _ _ [(0, .agg (cu32 st).toArray), (1, .agg (cu8 blk).toArray)] _
  refine JC_seq ?_
  refine JC_region ?_
  refine JL_step (Step_box (.agg (cu32 st).toArray) (cu32 st) rfl (by first | rfl | simp)) rfl ?_
  rintro v1 L1 ⟨nb1, hnb1, rfl, rfl⟩
  show JL _ _ _ _ ((2, Ptr nb1 0) :: _) [⟨nb1, cu32 st, 31, (0, 0)⟩]
  refine JL_step (Step_box (.agg (cu8 blk).toArray) (cu8 blk) rfl (by first | rfl | simp)) rfl ?_
  rintro v1 L1 ⟨nb2, hnb2, rfl, rfl⟩
  show JL _ _ _ _ ((3, Ptr nb2 0) :: _) [⟨nb1, cu32 st, 31, (0, 0)⟩, ⟨nb2, cu8 blk, 32, (0, 0)⟩]
  refine JL_step (Step_alloc _ (cu32 (zr32 8)) Tryd.zeroValue31 (by kernel_rfl)) rfl ?_
  rintro v1 L1 ⟨nb3, hnb3, rfl, rfl⟩
  show JL _ _ _ _ ((4, Ptr nb3 0) :: _) [⟨nb1, cu32 st, 31, (0, 0)⟩, ⟨nb2, cu8 blk, 32, (0, 0)⟩, ⟨nb3, cu32 (zr32 8), 31, (0, 0)⟩]
  refine JL_nil ?_
  refine JQ_then ?_
  refine JC_seq ?_
  refine JC_region ?_
  refine JL_val (.agg (cu32 st).toArray) (Ev_load rfl (Ld_agg Tryd.isAgg31 Tryd.sizeOf31 (len_cu32 hs0) (MemAt.ent 0 rfl (Seg.whole _)))) rfl ?_
  refine JL_step (Step_alloc _ (cu32 (zr32 8)) Tryd.zeroValue31 (by kernel_rfl)) rfl ?_
  rintro v1 L1 ⟨nb4, hnb4, rfl, rfl⟩
  show JL _ _ _ _ ((5, Ptr nb4 0) :: _) [⟨nb1, cu32 st, 31, (0, 0)⟩, ⟨nb2, cu8 blk, 32, (0, 0)⟩, ⟨nb3, cu32 (zr32 8), 31, (0, 0)⟩, ⟨nb4, cu32 (zr32 8), 31, (0, 0)⟩]
  refine JL_step (Step_store 3 nb4 0 8 (cu32 (zr32 8)) 31 (.agg (cu32 st).toArray) (cu32 st) (cu32 st) rfl rfl rfl (by first | rfl | simp) Tryd.sizeOf31 (len_cu32 hs0) (by first | exact one_u8 | exact one_u32 | exact one_u64 | (simp [cu8, cu32, cu64, Value.oneCell']; done)) (by simp [(zr32_len 8)]) (lay_whole (by simp [(zr32_len 8), hs0]))) rfl ?_
  rintro v1 L1 ⟨rfl, rfl⟩
  show JL _ _ _ _ _ [⟨nb1, cu32 st, 31, (0, 0)⟩, ⟨nb2, cu8 blk, 32, (0, 0)⟩, ⟨nb3, cu32 (zr32 8), 31, (0, 0)⟩, ⟨nb4, cu32 st, 31, (0, 0)⟩]
  refine JL_nil ?_
  refine JQ_then ?_
  refine JC_seq ?_
  refine JC_seq ?_
  refine JC_region ?_
  refine JL_val (.agg (cu8 blk).toArray) (Ev_load rfl (Ld_agg Tryd.isAgg32 Tryd.sizeOf32 (len_cu8 hb) (MemAt.ent 1 rfl (Seg.whole _)))) rfl ?_
  refine JL_step (Step_callP 85 [.agg (cu8 blk).toArray] (.agg (cu32 (spreadL blk)).toArray) (Cl_func [.agg (cu8 blk).toArray] Tryd.call85 rfl) (fun w1 hw1 => spread_c blk w1 hb)) rfl ?_
  rintro v1 L1 ⟨rfl, rfl⟩
  show JL _ _ _ _ ((19, .agg (cu32 (spreadL blk)).toArray) :: _) [⟨nb1, cu32 st, 31, (0, 0)⟩, ⟨nb2, cu8 blk, 32, (0, 0)⟩, ⟨nb3, cu32 (zr32 8), 31, (0, 0)⟩, ⟨nb4, cu32 st, 31, (0, 0)⟩]
  refine JL_val _ (Ev_move rfl) rfl ?_
  refine JL_nil ?_
  refine JQ_then ?_
  refine JC_block ?_
  refine K_mask [true, false, true, true] ?_
  show JC _ _ _ _ [⟨nb1, cu32 st, 31, (0, 0)⟩, ⟨nb3, cu32 (zr32 8), 31, (0, 0)⟩, ⟨nb4, cu32 st, 31, (0, 0)⟩]
  refine JC_loop (ι := Nat × List UInt32) (fun ⟨t, s⟩ => [(2, Ptr nb1 0), (4, Ptr nb3 0), (5, Ptr nb4 0), (19, .agg (cu32 (spreadL blk)).toArray), (20, I64 ((t:Int)))]) (fun ⟨t, s⟩ => [⟨nb1, cu32 st, 31, (0, 0)⟩, ⟨nb3, cu32 (zr32 8), 31, (0, 0)⟩, ⟨nb4, cu32 s, 31, (0, 0)⟩]) (fun ⟨t, s⟩ => t ≤ 64 ∧ s = cpN constL st (spreadL blk) t ∧ s.length = 8) (fun ⟨t, s⟩ => 64 - t) (0, st) ⟨by omega, by rw [cpN], hs0⟩ (Sub.cons rfl (Sub.cons rfl (Sub.cons rfl (Sub.cons rfl (Sub.cons rfl (Sub.nil)))))) rfl ?_
  rintro ⟨t, s⟩ ⟨hx1, hx2, hs⟩
  show JC _ _ _ [(2, Ptr nb1 0), (4, Ptr nb3 0), (5, Ptr nb4 0), (19, .agg (cu32 (spreadL blk)).toArray), (20, I64 ((t:Int)))] [⟨nb1, cu32 st, 31, (0, 0)⟩, ⟨nb3, cu32 (zr32 8), 31, (0, 0)⟩, ⟨nb4, cu32 s, 31, (0, 0)⟩]
  refine JC_seq ?_
  refine JC_region ?_
  refine JL_val (.bool (decide (((t:Int)) < (64:Int)))) (Ev_bini rfl rfl fun _ => bin_lss_i _ _) rfl ?_
  refine JL_nil ?_
  refine JQ_then ?_
  refine JC_seq ?_
  refine JC_cond (decide (((t:Int)) < (64:Int))) rfl (fun hb1 => ?_) (fun hb1 => ?_)
  ·
    have hp1 : ((t:Int)) < (64:Int) := of_decide_eq_true hb1
    refine JC_skip ?_
    refine JQ_then ?_
    refine JC_seq ?_
    refine JC_block ?_
    refine JC_seq ?_
    refine JC_region ?_
    refine JL_val _ (Ev_move rfl) rfl ?_
    refine JL_val (U32 (g32 (spreadL blk) t)) (Ev_index1 64 30 _ Tryd.underlying44 Tryd.isAgg30 Tryd.sizeOf30 rfl rfl (by omega) (by omega) (Seg.get1 (Seg.get (g32_get (i := t) (by rw [(spreadL_len _)]; omega))) (by omega))) rfl ?_
    refine JL_val _ (Ev_assign rfl) rfl ?_
    refine JL_val _ (Ev_assign rfl) rfl ?_
    refine JL_nil ?_
    refine JQ_then ?_
    refine JC_seq ?_
    refine JC_draw 110 1 [(0, Ptr nb4 0), (1, U32 (g32 s 0)), (2, Ptr nb4 1), (3, U32 (g32 s 1)), (4, Ptr nb4 2), (5, U32 (g32 s 2)), (6, Ptr nb4 4), (7, U32 (g32 s 4)), (8, Ptr nb4 5), (9, U32 (g32 s 5)), (10, Ptr nb4 6), (11, U32 (g32 s 6)), (12, U32 (g32 s 0)), (13, U32 (g32 s 1)), (14, U32 (g32 s 2)), (15, U32 (g32 s 4)), (16, U32 (g32 s 5)), (17, U32 (g32 s 6))] Tryd.mixed rfl (by decide +kernel) ?_
    refine DP_end ⟨[], [0, 1, 2, 3, 4, 5, 6, 7, 8, 9, 10, 11, 12, 13, 14, 15, 16, 17], [], [0, 1, 2, 3, 4, 5, 6, 7, 8, 9, 10, 11, 12, 13, 14, 15, 16, 17], []⟩ rfl rfl (by decide +kernel) rfl ⟨⟨_, rfl, Qok_val rfl (Ev_indexArr 8 30 1 0 Tryd.underlying31 Tryd.sizeOf30 rfl rfl (by omega) (by omega) (by omega))⟩, ⟨_, rfl, Qok_val rfl (Ev_load rfl (Ld_one Tryd.isAgg30 (MemAt.ent 2 rfl (Seg.get (g32_get (i := 0) (by rw [hs]; omega))))))⟩, ⟨_, rfl, Qok_val rfl (Ev_indexArr 8 30 1 1 Tryd.underlying31 Tryd.sizeOf30 rfl rfl (by omega) (by omega) (by omega))⟩, ⟨_, rfl, Qok_val rfl (Ev_load rfl (Ld_one Tryd.isAgg30 (MemAt.ent 2 rfl (Seg.get (g32_get (i := 1) (by rw [hs]; omega))))))⟩, ⟨_, rfl, Qok_val rfl (Ev_indexArr 8 30 1 2 Tryd.underlying31 Tryd.sizeOf30 rfl rfl (by omega) (by omega) (by omega))⟩, ⟨_, rfl, Qok_val rfl (Ev_load rfl (Ld_one Tryd.isAgg30 (MemAt.ent 2 rfl (Seg.get (g32_get (i := 2) (by rw [hs]; omega))))))⟩, ⟨_, rfl, Qok_val rfl (Ev_indexArr 8 30 1 4 Tryd.underlying31 Tryd.sizeOf30 rfl rfl (by omega) (by omega) (by omega))⟩, ⟨_, rfl, Qok_val rfl (Ev_load rfl (Ld_one Tryd.isAgg30 (MemAt.ent 2 rfl (Seg.get (g32_get (i := 4) (by rw [hs]; omega))))))⟩, ⟨_, rfl, Qok_val rfl (Ev_indexArr 8 30 1 5 Tryd.underlying31 Tryd.sizeOf30 rfl rfl (by omega) (by omega) (by omega))⟩, ⟨_, rfl, Qok_val rfl (Ev_load rfl (Ld_one Tryd.isAgg30 (MemAt.ent 2 rfl (Seg.get (g32_get (i := 5) (by rw [hs]; omega))))))⟩, ⟨_, rfl, Qok_val rfl (Ev_indexArr 8 30 1 6 Tryd.underlying31 Tryd.sizeOf30 rfl rfl (by omega) (by omega) (by omega))⟩, ⟨_, rfl, Qok_val rfl (Ev_load rfl (Ld_one Tryd.isAgg30 (MemAt.ent 2 rfl (Seg.get (g32_get (i := 6) (by rw [hs]; omega))))))⟩, ⟨_, rfl, Qok_val rfl (Ev_assign rfl)⟩, ⟨_, rfl, Qok_val rfl (Ev_assign rfl)⟩, ⟨_, rfl, Qok_val rfl (Ev_assign rfl)⟩, ⟨_, rfl, Qok_val rfl (Ev_assign rfl)⟩, ⟨_, rfl, Qok_val rfl (Ev_assign rfl)⟩, ⟨_, rfl, Qok_val rfl (Ev_assign rfl)⟩, trivial⟩ ?_
    refine K_sub (F' := [(24, Ptr nb4 0), (25, U32 (g32 s 0)), (26, Ptr nb4 1), (27, U32 (g32 s 1)), (28, Ptr nb4 2), (29, U32 (g32 s 2)), (30, Ptr nb4 4), (31, U32 (g32 s 4)), (32, Ptr nb4 5), (33, U32 (g32 s 5)), (34, Ptr nb4 6), (35, U32 (g32 s 6)), (8, U32 (g32 s 0)), (9, U32 (g32 s 1)), (10, U32 (g32 s 2)), (11, U32 (g32 s 4)), (12, U32 (g32 s 5)), (13, U32 (g32 s 6)), (2, Ptr nb1 0), (4, Ptr nb3 0), (5, Ptr nb4 0), (19, .agg (cu32 (spreadL blk)).toArray), (20, I64 ((t:Int))), (21, .bool (decide (((t:Int)) < (64:Int)))), (22, I64 ((t:Int))), (23, U32 (g32 (spreadL blk) t)), (6, I64 ((t:Int))), (7, U32 (g32 (spreadL blk) t))]) (Sub.cons (by kernel_rfl) (Sub.cons (by kernel_rfl) (Sub.cons (by kernel_rfl) (Sub.cons (by kernel_rfl) (Sub.cons (by kernel_rfl) (Sub.cons (by kernel_rfl) (Sub.cons (by kernel_rfl) (Sub.cons (by kernel_rfl) (Sub.cons (by kernel_rfl) (Sub.cons (by kernel_rfl) (Sub.cons (by kernel_rfl) (Sub.cons (by kernel_rfl) (Sub.cons (by kernel_rfl) (Sub.cons (by kernel_rfl) (Sub.cons (by kernel_rfl) (Sub.cons (by kernel_rfl) (Sub.cons (by kernel_rfl) (Sub.cons (by kernel_rfl) (Sub.cons (by kernel_rfl) (Sub.cons (by kernel_rfl) (Sub.cons (by kernel_rfl) (Sub.cons (by kernel_rfl) (Sub.cons (by kernel_rfl) (Sub.cons (by kernel_rfl) (Sub.cons (by kernel_rfl) (Sub.cons (by kernel_rfl) (Sub.cons (by kernel_rfl) (Sub.cons (by kernel_rfl) (Sub.nil))))))))))))))))))))))))))))) ?_
    show JQ _ _ _ [(24, Ptr nb4 0), (25, U32 (g32 s 0)), (26, Ptr nb4 1), (27, U32 (g32 s 1)), (28, Ptr nb4 2), (29, U32 (g32 s 2)), (30, Ptr nb4 4), (31, U32 (g32 s 4)), (32, Ptr nb4 5), (33, U32 (g32 s 5)), (34, Ptr nb4 6), (35, U32 (g32 s 6)), (8, U32 (g32 s 0)), (9, U32 (g32 s 1)), (10, U32 (g32 s 2)), (11, U32 (g32 s 4)), (12, U32 (g32 s 5)), (13, U32 (g32 s 6)), (2, Ptr nb1 0), (4, Ptr nb3 0), (5, Ptr nb4 0), (19, .agg (cu32 (spreadL blk)).toArray), (20, I64 ((t:Int))), (21, .bool (decide (((t:Int)) < (64:Int)))), (22, I64 ((t:Int))), (23, U32 (g32 (spreadL blk) t)), (6, I64 ((t:Int))), (7, U32 (g32 (spreadL blk) t))] _
    refine JQ_then ?_
    refine JC_seq ?_
    refine JC_draw 110 4 [(0, Ptr nb4 7), (1, U32 (g32 s 7)), (2, U32 (g32 s 4)), (4, U32 (g32 s 4)), (7, U32 (g32 s 4)), (11, U32 (g32 s 4)), (12, U32 (g32 s 5)), (13, U32 ((g32 s 4) &&& (g32 s 5))), (14, U32 (g32 s 4)), (15, U32 (~~~(g32 s 4))), (16, U32 (g32 s 6)), (17, U32 ((~~~(g32 s 4)) &&& (g32 s 6))), (18, U32 (((g32 s 4) &&& (g32 s 5)) ^^^ ((~~~(g32 s 4)) &&& (g32 s 6)))), (20, I64 ((t:Int))), (21, Ptr 3 t), (22, U32 (g32 constL t)), (24, U32 (g32 (spreadL blk) t))] Tryd.mixed rfl (by decide +kernel) ?_
    refine DP_one ⟨[], [0, 1, 2, 4, 7, 11, 12, 13, 14, 15, 16, 17, 18, 20, 21, 22, 24], [], [0, 1, 2, 4, 7, 11, 12, 13, 14, 15, 16, 17, 18, 20, 21, 22, 24], [3]⟩ 3 _ rfl rfl (by decide +kernel) rfl ⟨⟨_, rfl, Qok_val rfl (Ev_indexArr 8 30 1 7 Tryd.underlying31 Tryd.sizeOf30 rfl rfl (by omega) (by omega) (by omega))⟩, ⟨_, rfl, Qok_val rfl (Ev_load rfl (Ld_one Tryd.isAgg30 (MemAt.ent 2 rfl (Seg.get (g32_get (i := 7) (by rw [hs]; omega))))))⟩, ⟨_, rfl, Qok_val rfl (Ev_move rfl)⟩, ⟨_, rfl, Qok_val rfl (Ev_move rfl)⟩, ⟨_, rfl, Qok_val rfl (Ev_move rfl)⟩, ⟨_, rfl, Qok_val rfl (Ev_move rfl)⟩, ⟨_, rfl, Qok_val rfl (Ev_move rfl)⟩, ⟨_, rfl, Qok_val rfl (Ev_bini rfl rfl fun _ => bin_and_u32 (g32 s 4) (g32 s 5))⟩, ⟨_, rfl, Qok_val rfl (Ev_move rfl)⟩, ⟨_, rfl, Qok_val rfl (Ev_un _ _ rfl fun _ => un_xor_u32 _)⟩, ⟨_, rfl, Qok_val rfl (Ev_move rfl)⟩, ⟨_, rfl, Qok_val rfl (Ev_bini rfl rfl fun _ => bin_and_u32 (~~~(g32 s 4)) (g32 s 6))⟩, ⟨_, rfl, Qok_val rfl (Ev_bini rfl rfl fun _ => bin_xor_u32 ((g32 s 4) &&& (g32 s 5)) ((~~~(g32 s 4)) &&& (g32 s 6)))⟩, ⟨_, rfl, Qok_val rfl (Ev_move rfl)⟩, ⟨_, rfl, Qok_val rfl (Ev_indexArr 64 30 1 t Tryd.underlying44 Tryd.sizeOf30 rfl rfl (by omega) (by omega) (by omega))⟩, ⟨_, rfl, Qok_val rfl (Ev_load rfl (Ld_one Tryd.isAgg30 (MemAt.seg (hG.1.mem (by simp)) (Seg.get (g32_get (i := t) (by rw [constL_len]; omega))) (by omega))))⟩, ⟨_, rfl, Qok_val rfl (Ev_move rfl)⟩, trivial⟩ rfl (Cok_step rfl (Step_callP 86 [U32 (g32 s 4), I64 (6:Int)] (U32 (rotr (g32 s 4) 6)) (Cl_func [U32 (g32 s 4), I64 (6:Int)] Tryd.call86 rfl) (fun w1 hw1 => turn_c (g32 s 4) 6 w1 (by omega) (by omega)))) ?_
    rintro v1 L1 ⟨rfl, rfl⟩
    refine ⟨[], ?_⟩
    show DP _ _ _ _ _ _ _ _ [⟨nb1, cu32 st, 31, (0, 0)⟩, ⟨nb3, cu32 (zr32 8), 31, (0, 0)⟩, ⟨nb4, cu32 s, 31, (0, 0)⟩]
    refine DP_one ⟨[3], [0, 1, 2, 4, 7, 11, 12, 13, 14, 15, 16, 17, 18, 20, 21, 22, 24], [2], [0, 1, 4, 7, 11, 12, 13, 14, 15, 16, 17, 18, 20, 21, 22, 24], [5]⟩ 5 _ rfl rfl (by decide +kernel) rfl ⟨⟨_, rfl, Qok_val rfl (Ev_indexArr 8 30 1 7 Tryd.underlying31 Tryd.sizeOf30 rfl rfl (by omega) (by omega) (by omega))⟩, ⟨_, rfl, Qok_val rfl (Ev_load rfl (Ld_one Tryd.isAgg30 (MemAt.ent 2 rfl (Seg.get (g32_get (i := 7) (by rw [hs]; omega))))))⟩, ⟨_, rfl, Qok_val rfl (Ev_move rfl)⟩, ⟨_, rfl, Qok_val rfl (Ev_move rfl)⟩, ⟨_, rfl, Qok_val rfl (Ev_move rfl)⟩, ⟨_, rfl, Qok_val rfl (Ev_move rfl)⟩, ⟨_, rfl, Qok_val rfl (Ev_bini rfl rfl fun _ => bin_and_u32 (g32 s 4) (g32 s 5))⟩, ⟨_, rfl, Qok_val rfl (Ev_move rfl)⟩, ⟨_, rfl, Qok_val rfl (Ev_un _ _ rfl fun _ => un_xor_u32 _)⟩, ⟨_, rfl, Qok_val rfl (Ev_move rfl)⟩, ⟨_, rfl, Qok_val rfl (Ev_bini rfl rfl fun _ => bin_and_u32 (~~~(g32 s 4)) (g32 s 6))⟩, ⟨_, rfl, Qok_val rfl (Ev_bini rfl rfl fun _ => bin_xor_u32 ((g32 s 4) &&& (g32 s 5)) ((~~~(g32 s 4)) &&& (g32 s 6)))⟩, ⟨_, rfl, Qok_val rfl (Ev_move rfl)⟩, ⟨_, rfl, Qok_val rfl (Ev_indexArr 64 30 1 t Tryd.underlying44 Tryd.sizeOf30 rfl rfl (by omega) (by omega) (by omega))⟩, ⟨_, rfl, Qok_val rfl (Ev_load rfl (Ld_one Tryd.isAgg30 (MemAt.seg (hG.1.mem (by simp)) (Seg.get (g32_get (i := t) (by rw [constL_len]; omega))) (by omega))))⟩, ⟨_, rfl, Qok_val rfl (Ev_move rfl)⟩, trivial⟩ rfl (Cok_step rfl (Step_callP 86 [U32 (g32 s 4), I64 (11:Int)] (U32 (rotr (g32 s 4) 11)) (Cl_func [U32 (g32 s 4), I64 (11:Int)] Tryd.call86 rfl) (fun w1 hw1 => turn_c (g32 s 4) 11 w1 (by omega) (by omega)))) ?_
    rintro v1 L1 ⟨rfl, rfl⟩
    refine ⟨[(6, U32 ((rotr (g32 s 4) 6) ^^^ (rotr (g32 s 4) 11)))], ?_⟩
    show DP _ _ _ _ _ _ _ _ [⟨nb1, cu32 st, 31, (0, 0)⟩, ⟨nb3, cu32 (zr32 8), 31, (0, 0)⟩, ⟨nb4, cu32 s, 31, (0, 0)⟩]
    refine DP_one ⟨[3, 5], [0, 1, 2, 4, 6, 7, 11, 12, 13, 14, 15, 16, 17, 18, 20, 21, 22, 24], [2, 4], [0, 1, 6, 7, 11, 12, 13, 14, 15, 16, 17, 18, 20, 21, 22, 24], [8]⟩ 8 _ rfl rfl (by decide +kernel) rfl ⟨⟨_, rfl, Qok_val rfl (Ev_indexArr 8 30 1 7 Tryd.underlying31 Tryd.sizeOf30 rfl rfl (by omega) (by omega) (by omega))⟩, ⟨_, rfl, Qok_val rfl (Ev_load rfl (Ld_one Tryd.isAgg30 (MemAt.ent 2 rfl (Seg.get (g32_get (i := 7) (by rw [hs]; omega))))))⟩, ⟨_, rfl, Qok_val rfl (Ev_bini rfl rfl fun _ => bin_xor_u32 (rotr (g32 s 4) 6) (rotr (g32 s 4) 11))⟩, ⟨_, rfl, Qok_val rfl (Ev_move rfl)⟩, ⟨_, rfl, Qok_val rfl (Ev_move rfl)⟩, ⟨_, rfl, Qok_val rfl (Ev_move rfl)⟩, ⟨_, rfl, Qok_val rfl (Ev_bini rfl rfl fun _ => bin_and_u32 (g32 s 4) (g32 s 5))⟩, ⟨_, rfl, Qok_val rfl (Ev_move rfl)⟩, ⟨_, rfl, Qok_val rfl (Ev_un _ _ rfl fun _ => un_xor_u32 _)⟩, ⟨_, rfl, Qok_val rfl (Ev_move rfl)⟩, ⟨_, rfl, Qok_val rfl (Ev_bini rfl rfl fun _ => bin_and_u32 (~~~(g32 s 4)) (g32 s 6))⟩, ⟨_, rfl, Qok_val rfl (Ev_bini rfl rfl fun _ => bin_xor_u32 ((g32 s 4) &&& (g32 s 5)) ((~~~(g32 s 4)) &&& (g32 s 6)))⟩, ⟨_, rfl, Qok_val rfl (Ev_move rfl)⟩, ⟨_, rfl, Qok_val rfl (Ev_indexArr 64 30 1 t Tryd.underlying44 Tryd.sizeOf30 rfl rfl (by omega) (by omega) (by omega))⟩, ⟨_, rfl, Qok_val rfl (Ev_load rfl (Ld_one Tryd.isAgg30 (MemAt.seg (hG.1.mem (by simp)) (Seg.get (g32_get (i := t) (by rw [constL_len]; omega))) (by omega))))⟩, ⟨_, rfl, Qok_val rfl (Ev_move rfl)⟩, trivial⟩ rfl (Cok_step rfl (Step_callP 86 [U32 (g32 s 4), I64 (25:Int)] (U32 (rotr (g32 s 4) 25)) (Cl_func [U32 (g32 s 4), I64 (25:Int)] Tryd.call86 rfl) (fun w1 hw1 => turn_c (g32 s 4) 25 w1 (by omega) (by omega)))) ?_
    rintro v1 L1 ⟨rfl, rfl⟩
    refine ⟨[(9, U32 (((rotr (g32 s 4) 6) ^^^ (rotr (g32 s 4) 11)) ^^^ (rotr (g32 s 4) 25))), (10, U32 ((g32 s 7) + (((rotr (g32 s 4) 6) ^^^ (rotr (g32 s 4) 11)) ^^^ (rotr (g32 s 4) 25)))), (19, U32 (((g32 s 7) + (((rotr (g32 s 4) 6) ^^^ (rotr (g32 s 4) 11)) ^^^ (rotr (g32 s 4) 25))) + (((g32 s 4) &&& (g32 s 5)) ^^^ ((~~~(g32 s 4)) &&& (g32 s 6))))), (23, U32 ((((g32 s 7) + (((rotr (g32 s 4) 6) ^^^ (rotr (g32 s 4) 11)) ^^^ (rotr (g32 s 4) 25))) + (((g32 s 4) &&& (g32 s 5)) ^^^ ((~~~(g32 s 4)) &&& (g32 s 6)))) + (g32 constL t))), (25, U32 (((((g32 s 7) + (((rotr (g32 s 4) 6) ^^^ (rotr (g32 s 4) 11)) ^^^ (rotr (g32 s 4) 25))) + (((g32 s 4) &&& (g32 s 5)) ^^^ ((~~~(g32 s 4)) &&& (g32 s 6)))) + (g32 constL t)) + (g32 (spreadL blk) t))), (26, U32 (((((g32 s 7) + (((rotr (g32 s 4) 6) ^^^ (rotr (g32 s 4) 11)) ^^^ (rotr (g32 s 4) 25))) + (((g32 s 4) &&& (g32 s 5)) ^^^ ((~~~(g32 s 4)) &&& (g32 s 6)))) + (g32 constL t)) + (g32 (spreadL blk) t)))], ?_⟩
    show DP _ _ _ _ _ _ _ _ [⟨nb1, cu32 st, 31, (0, 0)⟩, ⟨nb3, cu32 (zr32 8), 31, (0, 0)⟩, ⟨nb4, cu32 s, 31, (0, 0)⟩]
    refine DP_end ⟨[3, 5, 8], [0, 1, 2, 4, 6, 7, 9, 10, 11, 12, 13, 14, 15, 16, 17, 18, 19, 20, 21, 22, 23, 24, 25, 26], [2, 4, 7], [0, 1, 6, 9, 10, 11, 12, 13, 14, 15, 16, 17, 18, 19, 20, 21, 22, 23, 24, 25, 26], []⟩ rfl rfl (by decide +kernel) rfl ⟨⟨_, rfl, Qok_val rfl (Ev_indexArr 8 30 1 7 Tryd.underlying31 Tryd.sizeOf30 rfl rfl (by omega) (by omega) (by omega))⟩, ⟨_, rfl, Qok_val rfl (Ev_load rfl (Ld_one Tryd.isAgg30 (MemAt.ent 2 rfl (Seg.get (g32_get (i := 7) (by rw [hs]; omega))))))⟩, ⟨_, rfl, Qok_val rfl (Ev_bini rfl rfl fun _ => bin_xor_u32 (rotr (g32 s 4) 6) (rotr (g32 s 4) 11))⟩, ⟨_, rfl, Qok_val rfl (Ev_bini rfl rfl fun _ => bin_xor_u32 ((rotr (g32 s 4) 6) ^^^ (rotr (g32 s 4) 11)) (rotr (g32 s 4) 25))⟩, ⟨_, rfl, Qok_val rfl (Ev_bini rfl rfl fun _ => bin_add_u32 (g32 s 7) (((rotr (g32 s 4) 6) ^^^ (rotr (g32 s 4) 11)) ^^^ (rotr (g32 s 4) 25)))⟩, ⟨_, rfl, Qok_val rfl (Ev_move rfl)⟩, ⟨_, rfl, Qok_val rfl (Ev_move rfl)⟩, ⟨_, rfl, Qok_val rfl (Ev_bini rfl rfl fun _ => bin_and_u32 (g32 s 4) (g32 s 5))⟩, ⟨_, rfl, Qok_val rfl (Ev_move rfl)⟩, ⟨_, rfl, Qok_val rfl (Ev_un _ _ rfl fun _ => un_xor_u32 _)⟩, ⟨_, rfl, Qok_val rfl (Ev_move rfl)⟩, ⟨_, rfl, Qok_val rfl (Ev_bini rfl rfl fun _ => bin_and_u32 (~~~(g32 s 4)) (g32 s 6))⟩, ⟨_, rfl, Qok_val rfl (Ev_bini rfl rfl fun _ => bin_xor_u32 ((g32 s 4) &&& (g32 s 5)) ((~~~(g32 s 4)) &&& (g32 s 6)))⟩, ⟨_, rfl, Qok_val rfl (Ev_bini rfl rfl fun _ => bin_add_u32 ((g32 s 7) + (((rotr (g32 s 4) 6) ^^^ (rotr (g32 s 4) 11)) ^^^ (rotr (g32 s 4) 25))) (((g32 s 4) &&& (g32 s 5)) ^^^ ((~~~(g32 s 4)) &&& (g32 s 6))))⟩, ⟨_, rfl, Qok_val rfl (Ev_move rfl)⟩, ⟨_, rfl, Qok_val rfl (Ev_indexArr 64 30 1 t Tryd.underlying44 Tryd.sizeOf30 rfl rfl (by omega) (by omega) (by omega))⟩, ⟨_, rfl, Qok_val rfl (Ev_load rfl (Ld_one Tryd.isAgg30 (MemAt.seg (hG.1.mem (by simp)) (Seg.get (g32_get (i := t) (by rw [constL_len]; omega))) (by omega))))⟩, ⟨_, rfl, Qok_val rfl (Ev_bini rfl rfl fun _ => bin_add_u32 (((g32 s 7) + (((rotr (g32 s 4) 6) ^^^ (rotr (g32 s 4) 11)) ^^^ (rotr (g32 s 4) 25))) + (((g32 s 4) &&& (g32 s 5)) ^^^ ((~~~(g32 s 4)) &&& (g32 s 6)))) (g32 constL t))⟩, ⟨_, rfl, Qok_val rfl (Ev_move rfl)⟩, ⟨_, rfl, Qok_val rfl (Ev_bini rfl rfl fun _ => bin_add_u32 ((((g32 s 7) + (((rotr (g32 s 4) 6) ^^^ (rotr (g32 s 4) 11)) ^^^ (rotr (g32 s 4) 25))) + (((g32 s 4) &&& (g32 s 5)) ^^^ ((~~~(g32 s 4)) &&& (g32 s 6)))) + (g32 constL t)) (g32 (spreadL blk) t))⟩, ⟨_, rfl, Qok_val rfl (Ev_assign rfl)⟩, trivial⟩ ?_
    refine K_sub (F' := [(36, Ptr nb4 7), (37, U32 (g32 s 7)), (38, U32 (g32 s 4)), (39, U32 (rotr (g32 s 4) 6)), (40, U32 (g32 s 4)), (41, U32 (rotr (g32 s 4) 11)), (42, U32 ((rotr (g32 s 4) 6) ^^^ (rotr (g32 s 4) 11))), (43, U32 (g32 s 4)), (44, U32 (rotr (g32 s 4) 25)), (45, U32 (((rotr (g32 s 4) 6) ^^^ (rotr (g32 s 4) 11)) ^^^ (rotr (g32 s 4) 25))), (46, U32 ((g32 s 7) + (((rotr (g32 s 4) 6) ^^^ (rotr (g32 s 4) 11)) ^^^ (rotr (g32 s 4) 25)))), (47, U32 (g32 s 4)), (48, U32 (g32 s 5)), (49, U32 ((g32 s 4) &&& (g32 s 5))), (50, U32 (g32 s 4)), (51, U32 (~~~(g32 s 4))), (52, U32 (g32 s 6)), (53, U32 ((~~~(g32 s 4)) &&& (g32 s 6))), (54, U32 (((g32 s 4) &&& (g32 s 5)) ^^^ ((~~~(g32 s 4)) &&& (g32 s 6)))), (55, U32 (((g32 s 7) + (((rotr (g32 s 4) 6) ^^^ (rotr (g32 s 4) 11)) ^^^ (rotr (g32 s 4) 25))) + (((g32 s 4) &&& (g32 s 5)) ^^^ ((~~~(g32 s 4)) &&& (g32 s 6))))), (56, I64 ((t:Int))), (57, Ptr 3 t), (58, U32 (g32 constL t)), (59, U32 ((((g32 s 7) + (((rotr (g32 s 4) 6) ^^^ (rotr (g32 s 4) 11)) ^^^ (rotr (g32 s 4) 25))) + (((g32 s 4) &&& (g32 s 5)) ^^^ ((~~~(g32 s 4)) &&& (g32 s 6)))) + (g32 constL t))), (60, U32 (g32 (spreadL blk) t)), (61, U32 (((((g32 s 7) + (((rotr (g32 s 4) 6) ^^^ (rotr (g32 s 4) 11)) ^^^ (rotr (g32 s 4) 25))) + (((g32 s 4) &&& (g32 s 5)) ^^^ ((~~~(g32 s 4)) &&& (g32 s 6)))) + (g32 constL t)) + (g32 (spreadL blk) t))), (14, U32 (((((g32 s 7) + (((rotr (g32 s 4) 6) ^^^ (rotr (g32 s 4) 11)) ^^^ (rotr (g32 s 4) 25))) + (((g32 s 4) &&& (g32 s 5)) ^^^ ((~~~(g32 s 4)) &&& (g32 s 6)))) + (g32 constL t)) + (g32 (spreadL blk) t))), (24, Ptr nb4 0), (25, U32 (g32 s 0)), (26, Ptr nb4 1), (27, U32 (g32 s 1)), (28, Ptr nb4 2), (29, U32 (g32 s 2)), (30, Ptr nb4 4), (31, U32 (g32 s 4)), (32, Ptr nb4 5), (33, U32 (g32 s 5)), (34, Ptr nb4 6), (35, U32 (g32 s 6)), (8, U32 (g32 s 0)), (9, U32 (g32 s 1)), (10, U32 (g32 s 2)), (11, U32 (g32 s 4)), (12, U32 (g32 s 5)), (13, U32 (g32 s 6)), (2, Ptr nb1 0), (4, Ptr nb3 0), (5, Ptr nb4 0), (19, .agg (cu32 (spreadL blk)).toArray), (20, I64 ((t:Int))), (21, .bool (decide (((t:Int)) < (64:Int)))), (22, I64 ((t:Int))), (23, U32 (g32 (spreadL blk) t)), (6, I64 ((t:Int))), (7, U32 (g32 (spreadL blk) t))]) (Sub.cons (by kernel_rfl) (Sub.cons (by kernel_rfl) (Sub.cons (by kernel_rfl) (Sub.cons (by kernel_rfl) (Sub.cons (by kernel_rfl) (Sub.cons (by kernel_rfl) (Sub.cons (by kernel_rfl) (Sub.cons (by kernel_rfl) (Sub.cons (by kernel_rfl) (Sub.cons (by kernel_rfl) (Sub.cons (by kernel_rfl) (Sub.cons (by kernel_rfl) (Sub.cons (by kernel_rfl) (Sub.cons (by kernel_rfl) (Sub.cons (by kernel_rfl) (Sub.cons (by kernel_rfl) (Sub.cons (by kernel_rfl) (Sub.cons (by kernel_rfl) (Sub.cons (by kernel_rfl) (Sub.cons (by kernel_rfl) (Sub.cons (by kernel_rfl) (Sub.cons (by kernel_rfl) (Sub.cons (by kernel_rfl) (Sub.cons (by kernel_rfl) (Sub.cons (by kernel_rfl) (Sub.cons (by kernel_rfl) (Sub.cons (by kernel_rfl) (Sub.cons (by kernel_rfl) (Sub.cons (by kernel_rfl) (Sub.cons (by kernel_rfl) (Sub.cons (by kernel_rfl) (Sub.cons (by kernel_rfl) (Sub.cons (by kernel_rfl) (Sub.cons (by kernel_rfl) (Sub.cons (by kernel_rfl) (Sub.cons (by kernel_rfl) (Sub.cons (by kernel_rfl) (Sub.cons (by kernel_rfl) (Sub.cons (by kernel_rfl) (Sub.cons (by kernel_rfl) (Sub.cons (by kernel_rfl) (Sub.cons (by kernel_rfl) (Sub.cons (by kernel_rfl) (Sub.cons (by kernel_rfl) (Sub.cons (by kernel_rfl) (Sub.cons (by kernel_rfl) (Sub.cons (by kernel_rfl) (Sub.cons (by kernel_rfl) (Sub.cons (by kernel_rfl) (Sub.cons (by kernel_rfl) (Sub.cons (by kernel_rfl) (Sub.cons (by kernel_rfl) (Sub.cons (by kernel_rfl) (Sub.cons (by kernel_rfl) (Sub.cons (by kernel_rfl) (Sub.nil)))))))))))))))))))))))))))))))))))))))))))))))))))))))) ?_
    show JQ _ _ _ [(36, Ptr nb4 7), (37, U32 (g32 s 7)), (38, U32 (g32 s 4)), (39, U32 (rotr (g32 s 4) 6)), (40, U32 (g32 s 4)), (41, U32 (rotr (g32 s 4) 11)), (42, U32 ((rotr (g32 s 4) 6) ^^^ (rotr (g32 s 4) 11))), (43, U32 (g32 s 4)), (44, U32 (rotr (g32 s 4) 25)), (45, U32 (((rotr (g32 s 4) 6) ^^^ (rotr (g32 s 4) 11)) ^^^ (rotr (g32 s 4) 25))), (46, U32 ((g32 s 7) + (((rotr (g32 s 4) 6) ^^^ (rotr (g32 s 4) 11)) ^^^ (rotr (g32 s 4) 25)))), (47, U32 (g32 s 4)), (48, U32 (g32 s 5)), (49, U32 ((g32 s 4) &&& (g32 s 5))), (50, U32 (g32 s 4)), (51, U32 (~~~(g32 s 4))), (52, U32 (g32 s 6)), (53, U32 ((~~~(g32 s 4)) &&& (g32 s 6))), (54, U32 (((g32 s 4) &&& (g32 s 5)) ^^^ ((~~~(g32 s 4)) &&& (g32 s 6)))), (55, U32 (((g32 s 7) + (((rotr (g32 s 4) 6) ^^^ (rotr (g32 s 4) 11)) ^^^ (rotr (g32 s 4) 25))) + (((g32 s 4) &&& (g32 s 5)) ^^^ ((~~~(g32 s 4)) &&& (g32 s 6))))), (56, I64 ((t:Int))), (57, Ptr 3 t), (58, U32 (g32 constL t)), (59, U32 ((((g32 s 7) + (((rotr (g32 s 4) 6) ^^^ (rotr (g32 s 4) 11)) ^^^ (rotr (g32 s 4) 25))) + (((g32 s 4) &&& (g32 s 5)) ^^^ ((~~~(g32 s 4)) &&& (g32 s 6)))) + (g32 constL t))), (60, U32 (g32 (spreadL blk) t)), (61, U32 (((((g32 s 7) + (((rotr (g32 s 4) 6) ^^^ (rotr (g32 s 4) 11)) ^^^ (rotr (g32 s 4) 25))) + (((g32 s 4) &&& (g32 s 5)) ^^^ ((~~~(g32 s 4)) &&& (g32 s 6)))) + (g32 constL t)) + (g32 (spreadL blk) t))), (14, U32 (((((g32 s 7) + (((rotr (g32 s 4) 6) ^^^ (rotr (g32 s 4) 11)) ^^^ (rotr (g32 s 4) 25))) + (((g32 s 4) &&& (g32 s 5)) ^^^ ((~~~(g32 s 4)) &&& (g32 s 6)))) + (g32 constL t)) + (g32 (spreadL blk) t))), (24, Ptr nb4 0), (25, U32 (g32 s 0)), (26, Ptr nb4 1), (27, U32 (g32 s 1)), (28, Ptr nb4 2), (29, U32 (g32 s 2)), (30, Ptr nb4 4), (31, U32 (g32 s 4)), (32, Ptr nb4 5), (33, U32 (g32 s 5)), (34, Ptr nb4 6), (35, U32 (g32 s 6)), (8, U32 (g32 s 0)), (9, U32 (g32 s 1)), (10, U32 (g32 s 2)), (11, U32 (g32 s 4)), (12, U32 (g32 s 5)), (13, U32 (g32 s 6)), (2, Ptr nb1 0), (4, Ptr nb3 0), (5, Ptr nb4 0), (19, .agg (cu32 (spreadL blk)).toArray), (20, I64 ((t:Int))), (21, .bool (decide (((t:Int)) < (64:Int)))), (22, I64 ((t:Int))), (23, U32 (g32 (spreadL blk) t)), (6, I64 ((t:Int))), (7, U32 (g32 (spreadL blk) t))] _
    refine JQ_then ?_
    refine JC_seq ?_
    refine JC_region ?_
    refine JL_val _ (Ev_move rfl) rfl ?_
    refine JL_step (Step_callP 86 [U32 (g32 s 0), I64 (2:Int)] (U32 (rotr (g32 s 0) 2)) (Cl_func [U32 (g32 s 0), I64 (2:Int)] Tryd.call86 rfl) (fun w1 hw1 => turn_c (g32 s 0) 2 w1 (by omega) (by omega))) rfl ?_
    rintro v1 L1 ⟨rfl, rfl⟩
    show JL _ _ _ _ ((63, U32 (rotr (g32 s 0) 2)) :: _) [⟨nb1, cu32 st, 31, (0, 0)⟩, ⟨nb3, cu32 (zr32 8), 31, (0, 0)⟩, ⟨nb4, cu32 s, 31, (0, 0)⟩]
    refine JL_val _ (Ev_move rfl) rfl ?_
    refine JL_step (Step_callP 86 [U32 (g32 s 0), I64 (13:Int)] (U32 (rotr (g32 s 0) 13)) (Cl_func [U32 (g32 s 0), I64 (13:Int)] Tryd.call86 rfl) (fun w1 hw1 => turn_c (g32 s 0) 13 w1 (by omega) (by omega))) rfl ?_
    rintro v1 L1 ⟨rfl, rfl⟩
    show JL _ _ _ _ ((65, U32 (rotr (g32 s 0) 13)) :: _) [⟨nb1, cu32 st, 31, (0, 0)⟩, ⟨nb3, cu32 (zr32 8), 31, (0, 0)⟩, ⟨nb4, cu32 s, 31, (0, 0)⟩]
    refine JL_val (U32 ((rotr (g32 s 0) 2) ^^^ (rotr (g32 s 0) 13))) (Ev_bini rfl rfl fun _ => bin_xor_u32 (rotr (g32 s 0) 2) (rotr (g32 s 0) 13)) rfl ?_
    refine JL_val _ (Ev_move rfl) rfl ?_
    refine JL_step (Step_callP 86 [U32 (g32 s 0), I64 (22:Int)] (U32 (rotr (g32 s 0) 22)) (Cl_func [U32 (g32 s 0), I64 (22:Int)] Tryd.call86 rfl) (fun w1 hw1 => turn_c (g32 s 0) 22 w1 (by omega) (by omega))) rfl ?_
    rintro v1 L1 ⟨rfl, rfl⟩
    show JL _ _ _ _ ((68, U32 (rotr (g32 s 0) 22)) :: _) [⟨nb1, cu32 st, 31, (0, 0)⟩, ⟨nb3, cu32 (zr32 8), 31, (0, 0)⟩, ⟨nb4, cu32 s, 31, (0, 0)⟩]
    refine JL_val (U32 (((rotr (g32 s 0) 2) ^^^ (rotr (g32 s 0) 13)) ^^^ (rotr (g32 s 0) 22))) (Ev_bini rfl rfl fun _ => bin_xor_u32 ((rotr (g32 s 0) 2) ^^^ (rotr (g32 s 0) 13)) (rotr (g32 s 0) 22)) rfl ?_
    refine JL_val _ (Ev_move rfl) rfl ?_
    refine JL_val _ (Ev_move rfl) rfl ?_
    refine JL_val (U32 ((g32 s 0) &&& (g32 s 1))) (Ev_bini rfl rfl fun _ => bin_and_u32 (g32 s 0) (g32 s 1)) rfl ?_
    refine JL_val _ (Ev_move rfl) rfl ?_
    refine JL_val _ (Ev_move rfl) rfl ?_
    refine JL_val (U32 ((g32 s 0) &&& (g32 s 2))) (Ev_bini rfl rfl fun _ => bin_and_u32 (g32 s 0) (g32 s 2)) rfl ?_
    refine JL_val (U32 (((g32 s 0) &&& (g32 s 1)) ^^^ ((g32 s 0) &&& (g32 s 2)))) (Ev_bini rfl rfl fun _ => bin_xor_u32 ((g32 s 0) &&& (g32 s 1)) ((g32 s 0) &&& (g32 s 2))) rfl ?_
    refine JL_val _ (Ev_move rfl) rfl ?_
    refine JL_val _ (Ev_move rfl) rfl ?_
    refine JL_val (U32 ((g32 s 1) &&& (g32 s 2))) (Ev_bini rfl rfl fun _ => bin_and_u32 (g32 s 1) (g32 s 2)) rfl ?_
    refine JL_val (U32 ((((g32 s 0) &&& (g32 s 1)) ^^^ ((g32 s 0) &&& (g32 s 2))) ^^^ ((g32 s 1) &&& (g32 s 2)))) (Ev_bini rfl rfl fun _ => bin_xor_u32 (((g32 s 0) &&& (g32 s 1)) ^^^ ((g32 s 0) &&& (g32 s 2))) ((g32 s 1) &&& (g32 s 2))) rfl ?_
    refine JL_val (U32 ((((rotr (g32 s 0) 2) ^^^ (rotr (g32 s 0) 13)) ^^^ (rotr (g32 s 0) 22)) + ((((g32 s 0) &&& (g32 s 1)) ^^^ ((g32 s 0) &&& (g32 s 2))) ^^^ ((g32 s 1) &&& (g32 s 2))))) (Ev_bini rfl rfl fun _ => bin_add_u32 (((rotr (g32 s 0) 2) ^^^ (rotr (g32 s 0) 13)) ^^^ (rotr (g32 s 0) 22)) ((((g32 s 0) &&& (g32 s 1)) ^^^ ((g32 s 0) &&& (g32 s 2))) ^^^ ((g32 s 1) &&& (g32 s 2)))) rfl ?_
    refine JL_val _ (Ev_assign rfl) rfl ?_
    refine JL_nil ?_
    refine JQ_then ?_
    refine JC_region ?_
    refine JL_val _ (Ev_move rfl) rfl ?_
    refine JL_val _ (Ev_move rfl) rfl ?_
    refine JL_val (U32 ((((((g32 s 7) + (((rotr (g32 s 4) 6) ^^^ (rotr (g32 s 4) 11)) ^^^ (rotr (g32 s 4) 25))) + (((g32 s 4) &&& (g32 s 5)) ^^^ ((~~~(g32 s 4)) &&& (g32 s 6)))) + (g32 constL t)) + (g32 (spreadL blk) t)) + ((((rotr (g32 s 0) 2) ^^^ (rotr (g32 s 0) 13)) ^^^ (rotr (g32 s 0) 22)) + ((((g32 s 0) &&& (g32 s 1)) ^^^ ((g32 s 0) &&& (g32 s 2))) ^^^ ((g32 s 1) &&& (g32 s 2)))))) (Ev_bini rfl rfl fun _ => bin_add_u32 (((((g32 s 7) + (((rotr (g32 s 4) 6) ^^^ (rotr (g32 s 4) 11)) ^^^ (rotr (g32 s 4) 25))) + (((g32 s 4) &&& (g32 s 5)) ^^^ ((~~~(g32 s 4)) &&& (g32 s 6)))) + (g32 constL t)) + (g32 (spreadL blk) t)) ((((rotr (g32 s 0) 2) ^^^ (rotr (g32 s 0) 13)) ^^^ (rotr (g32 s 0) 22)) + ((((g32 s 0) &&& (g32 s 1)) ^^^ ((g32 s 0) &&& (g32 s 2))) ^^^ ((g32 s 1) &&& (g32 s 2))))) rfl ?_
    refine JL_val _ (Ev_move rfl) rfl ?_
    refine JL_val _ (Ev_move rfl) rfl ?_
    refine JL_val _ (Ev_move rfl) rfl ?_
    refine JL_val (Ptr nb4 3) (Ev_indexArr 8 30 1 3 Tryd.underlying31 Tryd.sizeOf30 rfl rfl (by omega) (by omega) (by omega)) rfl ?_
    refine JL_val (U32 (g32 s 3)) (Ev_load rfl (Ld_one Tryd.isAgg30 (MemAt.ent 2 rfl (Seg.get (g32_get (i := 3) (by rw [hs]; omega)))))) rfl ?_
    refine JL_val _ (Ev_move rfl) rfl ?_
    refine JL_val (U32 ((g32 s 3) + (((((g32 s 7) + (((rotr (g32 s 4) 6) ^^^ (rotr (g32 s 4) 11)) ^^^ (rotr (g32 s 4) 25))) + (((g32 s 4) &&& (g32 s 5)) ^^^ ((~~~(g32 s 4)) &&& (g32 s 6)))) + (g32 constL t)) + (g32 (spreadL blk) t)))) (Ev_bini rfl rfl fun _ => bin_add_u32 (g32 s 3) (((((g32 s 7) + (((rotr (g32 s 4) 6) ^^^ (rotr (g32 s 4) 11)) ^^^ (rotr (g32 s 4) 25))) + (((g32 s 4) &&& (g32 s 5)) ^^^ ((~~~(g32 s 4)) &&& (g32 s 6)))) + (g32 constL t)) + (g32 (spreadL blk) t))) rfl ?_
    refine JL_val _ (Ev_move rfl) rfl ?_
    refine JL_val _ (Ev_move rfl) rfl ?_
    refine JL_val _ (Ev_move rfl) rfl ?_
    refine JL_val (.agg (cu32 ([(((((g32 s 7) + (((rotr (g32 s 4) 6) ^^^ (rotr (g32 s 4) 11)) ^^^ (rotr (g32 s 4) 25))) + (((g32 s 4) &&& (g32 s 5)) ^^^ ((~~~(g32 s 4)) &&& (g32 s 6)))) + (g32 constL t)) + (g32 (spreadL blk) t)) + ((((rotr (g32 s 0) 2) ^^^ (rotr (g32 s 0) 13)) ^^^ (rotr (g32 s 0) 22)) + ((((g32 s 0) &&& (g32 s 1)) ^^^ ((g32 s 0) &&& (g32 s 2))) ^^^ ((g32 s 1) &&& (g32 s 2)))), g32 s 0, g32 s 1, g32 s 2, (g32 s 3) + (((((g32 s 7) + (((rotr (g32 s 4) 6) ^^^ (rotr (g32 s 4) 11)) ^^^ (rotr (g32 s 4) 25))) + (((g32 s 4) &&& (g32 s 5)) ^^^ ((~~~(g32 s 4)) &&& (g32 s 6)))) + (g32 constL t)) + (g32 (spreadL blk) t)), g32 s 4, g32 s 5, g32 s 6])).toArray) (Ev_build [(0, U32 ((((((g32 s 7) + (((rotr (g32 s 4) 6) ^^^ (rotr (g32 s 4) 11)) ^^^ (rotr (g32 s 4) 25))) + (((g32 s 4) &&& (g32 s 5)) ^^^ ((~~~(g32 s 4)) &&& (g32 s 6)))) + (g32 constL t)) + (g32 (spreadL blk) t)) + ((((rotr (g32 s 0) 2) ^^^ (rotr (g32 s 0) 13)) ^^^ (rotr (g32 s 0) 22)) + ((((g32 s 0) &&& (g32 s 1)) ^^^ ((g32 s 0) &&& (g32 s 2))) ^^^ ((g32 s 1) &&& (g32 s 2)))))), (1, U32 (g32 s 0)), (2, U32 (g32 s 1)), (3, U32 (g32 s 2)), (4, U32 ((g32 s 3) + (((((g32 s 7) + (((rotr (g32 s 4) 6) ^^^ (rotr (g32 s 4) 11)) ^^^ (rotr (g32 s 4) 25))) + (((g32 s 4) &&& (g32 s 5)) ^^^ ((~~~(g32 s 4)) &&& (g32 s 6)))) + (g32 constL t)) + (g32 (spreadL blk) t)))), (5, U32 (g32 s 4)), (6, U32 (g32 s 5)), (7, U32 (g32 s 6))] _ rfl (fun _ => by kernel_rfl)) rfl ?_
    refine JL_step (Step_store 2 nb4 0 8 (cu32 s) 31 (.agg (cu32 ([(((((g32 s 7) + (((rotr (g32 s 4) 6) ^^^ (rotr (g32 s 4) 11)) ^^^ (rotr (g32 s 4) 25))) + (((g32 s 4) &&& (g32 s 5)) ^^^ ((~~~(g32 s 4)) &&& (g32 s 6)))) + (g32 constL t)) + (g32 (spreadL blk) t)) + ((((rotr (g32 s 0) 2) ^^^ (rotr (g32 s 0) 13)) ^^^ (rotr (g32 s 0) 22)) + ((((g32 s 0) &&& (g32 s 1)) ^^^ ((g32 s 0) &&& (g32 s 2))) ^^^ ((g32 s 1) &&& (g32 s 2)))), g32 s 0, g32 s 1, g32 s 2, (g32 s 3) + (((((g32 s 7) + (((rotr (g32 s 4) 6) ^^^ (rotr (g32 s 4) 11)) ^^^ (rotr (g32 s 4) 25))) + (((g32 s 4) &&& (g32 s 5)) ^^^ ((~~~(g32 s 4)) &&& (g32 s 6)))) + (g32 constL t)) + (g32 (spreadL blk) t)), g32 s 4, g32 s 5, g32 s 6])).toArray) (cu32 ([(((((g32 s 7) + (((rotr (g32 s 4) 6) ^^^ (rotr (g32 s 4) 11)) ^^^ (rotr (g32 s 4) 25))) + (((g32 s 4) &&& (g32 s 5)) ^^^ ((~~~(g32 s 4)) &&& (g32 s 6)))) + (g32 constL t)) + (g32 (spreadL blk) t)) + ((((rotr (g32 s 0) 2) ^^^ (rotr (g32 s 0) 13)) ^^^ (rotr (g32 s 0) 22)) + ((((g32 s 0) &&& (g32 s 1)) ^^^ ((g32 s 0) &&& (g32 s 2))) ^^^ ((g32 s 1) &&& (g32 s 2)))), g32 s 0, g32 s 1, g32 s 2, (g32 s 3) + (((((g32 s 7) + (((rotr (g32 s 4) 6) ^^^ (rotr (g32 s 4) 11)) ^^^ (rotr (g32 s 4) 25))) + (((g32 s 4) &&& (g32 s 5)) ^^^ ((~~~(g32 s 4)) &&& (g32 s 6)))) + (g32 constL t)) + (g32 (spreadL blk) t)), g32 s 4, g32 s 5, g32 s 6])) (cu32 ([(((((g32 s 7) + (((rotr (g32 s 4) 6) ^^^ (rotr (g32 s 4) 11)) ^^^ (rotr (g32 s 4) 25))) + (((g32 s 4) &&& (g32 s 5)) ^^^ ((~~~(g32 s 4)) &&& (g32 s 6)))) + (g32 constL t)) + (g32 (spreadL blk) t)) + ((((rotr (g32 s 0) 2) ^^^ (rotr (g32 s 0) 13)) ^^^ (rotr (g32 s 0) 22)) + ((((g32 s 0) &&& (g32 s 1)) ^^^ ((g32 s 0) &&& (g32 s 2))) ^^^ ((g32 s 1) &&& (g32 s 2)))), g32 s 0, g32 s 1, g32 s 2, (g32 s 3) + (((((g32 s 7) + (((rotr (g32 s 4) 6) ^^^ (rotr (g32 s 4) 11)) ^^^ (rotr (g32 s 4) 25))) + (((g32 s 4) &&& (g32 s 5)) ^^^ ((~~~(g32 s 4)) &&& (g32 s 6)))) + (g32 constL t)) + (g32 (spreadL blk) t)), g32 s 4, g32 s 5, g32 s 6])) rfl rfl rfl (by first | rfl | simp) Tryd.sizeOf31 (by simp []) (by first | exact one_u8 | exact one_u32 | exact one_u64 | (simp [cu8, cu32, cu64, Value.oneCell']; done)) (by simp [hs]) (lay_whole (by simp [hs]))) rfl ?_
    rintro v1 L1 ⟨rfl, rfl⟩
    show JL _ _ _ _ _ [⟨nb1, cu32 st, 31, (0, 0)⟩, ⟨nb3, cu32 (zr32 8), 31, (0, 0)⟩, ⟨nb4, cu32 ([(((((g32 s 7) + (((rotr (g32 s 4) 6) ^^^ (rotr (g32 s 4) 11)) ^^^ (rotr (g32 s 4) 25))) + (((g32 s 4) &&& (g32 s 5)) ^^^ ((~~~(g32 s 4)) &&& (g32 s 6)))) + (g32 constL t)) + (g32 (spreadL blk) t)) + ((((rotr (g32 s 0) 2) ^^^ (rotr (g32 s 0) 13)) ^^^ (rotr (g32 s 0) 22)) + ((((g32 s 0) &&& (g32 s 1)) ^^^ ((g32 s 0) &&& (g32 s 2))) ^^^ ((g32 s 1) &&& (g32 s 2)))), g32 s 0, g32 s 1, g32 s 2, (g32 s 3) + (((((g32 s 7) + (((rotr (g32 s 4) 6) ^^^ (rotr (g32 s 4) 11)) ^^^ (rotr (g32 s 4) 25))) + (((g32 s 4) &&& (g32 s 5)) ^^^ ((~~~(g32 s 4)) &&& (g32 s 6)))) + (g32 constL t)) + (g32 (spreadL blk) t)), g32 s 4, g32 s 5, g32 s 6]), 31, (0, 0)⟩]
    refine JL_nil ?_
    refine JQ_in_normal ?_
    refine JQ_then ?_
    refine JC_region ?_
    refine JL_val (I64 ((t:Int) + 1)) (Ev_bini rfl rfl fun _ => bin_add_i _ _ ((t:Int) + 1) (by omega) (by omega)) rfl ?_
    refine JL_val _ (Ev_move rfl) rfl ?_
    refine JL_nil ?_
    refine JQ_thenK ?_
    refine K_next (t + 1, [(((((g32 s 7) + (((rotr (g32 s 4) 6) ^^^ (rotr (g32 s 4) 11)) ^^^ (rotr (g32 s 4) 25))) + (((g32 s 4) &&& (g32 s 5)) ^^^ ((~~~(g32 s 4)) &&& (g32 s 6)))) + (g32 constL t)) + (g32 (spreadL blk) t)) + ((((rotr (g32 s 0) 2) ^^^ (rotr (g32 s 0) 13)) ^^^ (rotr (g32 s 0) 22)) + ((((g32 s 0) &&& (g32 s 1)) ^^^ ((g32 s 0) &&& (g32 s 2))) ^^^ ((g32 s 1) &&& (g32 s 2)))), g32 s 0, g32 s 1, g32 s 2, (g32 s 3) + (((((g32 s 7) + (((rotr (g32 s 4) 6) ^^^ (rotr (g32 s 4) 11)) ^^^ (rotr (g32 s 4) 25))) + (((g32 s 4) &&& (g32 s 5)) ^^^ ((~~~(g32 s 4)) &&& (g32 s 6)))) + (g32 constL t)) + (g32 (spreadL blk) t)), g32 s 4, g32 s 5, g32 s 6]) ⟨by omega, by rw [cpN, ← hx2]; rfl, rfl⟩ (by first | (simp; omega) | simp) (Sub.cons rfl (Sub.cons rfl (Sub.cons rfl (Sub.cons rfl (Sub.cons rfl (Sub.nil)))))) rfl
  ·
    have hp1 : ¬ (((t:Int)) < (64:Int)) := of_decide_eq_false hb1
    refine JC_exit ?_
    refine JQ_then_exit ?_
    refine JQ_then_exit ?_
    refine JQ_in_same ?_
    refine JQ_then ?_
    refine JC_seq ?_
    refine JC_seq ?_
    refine JC_region ?_
    refine JL_val _ (Ev_move rfl) rfl ?_
    refine JL_nil ?_
    refine JQ_then ?_
    refine JC_block ?_
    refine JC_loop (ι := Nat × List UInt32) (fun ⟨i, u⟩ => [(2, Ptr nb1 0), (4, Ptr nb3 0), (5, Ptr nb4 0), (97, I64 ((i:Int)))]) (fun ⟨i, u⟩ => [⟨nb1, cu32 st, 31, (0, 0)⟩, ⟨nb3, cu32 (zr32 8), 31, (0, 0)⟩, ⟨nb4, cu32 u, 31, (0, 0)⟩]) (fun ⟨i, u⟩ => i ≤ 8 ∧ u = adN st s i ∧ u.length = 8) (fun ⟨i, u⟩ => 8 - i) (0, s) ⟨by omega, by rw [adN], hs⟩ (Sub.cons rfl (Sub.cons rfl (Sub.cons rfl (Sub.cons rfl (Sub.nil))))) rfl ?_
    rintro ⟨i, u⟩ ⟨hy1, hy2, hu⟩
    show JC _ _ _ [(2, Ptr nb1 0), (4, Ptr nb3 0), (5, Ptr nb4 0), (97, I64 ((i:Int)))] [⟨nb1, cu32 st, 31, (0, 0)⟩, ⟨nb3, cu32 (zr32 8), 31, (0, 0)⟩, ⟨nb4, cu32 u, 31, (0, 0)⟩]
    refine JC_seq ?_
    refine JC_region ?_
    refine JL_val (.bool (decide (((i:Int)) < (8:Int)))) (Ev_bini rfl rfl fun _ => bin_lss_i _ _) rfl ?_
    refine JL_nil ?_
    refine JQ_then ?_
    refine JC_seq ?_
    refine JC_cond (decide (((i:Int)) < (8:Int))) rfl (fun hb2 => ?_) (fun hb2 => ?_)
    ·
      have hp2 : ((i:Int)) < (8:Int) := of_decide_eq_true hb2
      refine JC_skip ?_
      refine JQ_then ?_
      refine JC_seq ?_
      refine JC_block ?_
      refine JC_seq ?_
      refine JC_region ?_
      refine JL_val _ (Ev_move rfl) rfl ?_
      refine JL_val _ (Ev_assign rfl) rfl ?_
      refine JL_nil ?_
      refine JQ_then ?_
      refine JC_draw 110 2 [(0, I64 ((i:Int))), (1, Ptr nb4 i), (2, U32 (g32 u i)), (3, I64 ((i:Int))), (4, Ptr nb1 i), (5, U32 (g32 st i)), (6, U32 ((g32 u i) + (g32 st i))), (7, Ptr nb4 i)] Tryd.mixed rfl (by decide +kernel) ?_
      have hl1 : (u.set i ((g32 u i) + (g32 st i))).length = 8 := by simp [hu]
      refine DP_one ⟨[], [0, 1, 2, 3, 4, 5, 6, 7], [], [0, 1, 2, 3, 4, 5, 6, 7], [8]⟩ 8 _ rfl rfl (by decide +kernel) rfl ⟨⟨_, rfl, Qok_val rfl (Ev_move rfl)⟩, ⟨_, rfl, Qok_val rfl (Ev_indexArr 8 30 1 i Tryd.underlying31 Tryd.sizeOf30 rfl rfl (by omega) (by omega) (by omega))⟩, ⟨_, rfl, Qok_val rfl (Ev_load rfl (Ld_one Tryd.isAgg30 (MemAt.ent 2 rfl (Seg.get (g32_get (i := i) (by rw [hu]; omega))))))⟩, ⟨_, rfl, Qok_val rfl (Ev_move rfl)⟩, ⟨_, rfl, Qok_val rfl (Ev_indexArr 8 30 1 i Tryd.underlying31 Tryd.sizeOf30 rfl rfl (by omega) (by omega) (by omega))⟩, ⟨_, rfl, Qok_val rfl (Ev_load rfl (Ld_one Tryd.isAgg30 (MemAt.ent 0 rfl (Seg.get (g32_get (i := i) (by rw [hs0]; omega))))))⟩, ⟨_, rfl, Qok_val rfl (Ev_bini rfl rfl fun _ => bin_add_u32 (g32 u i) (g32 st i))⟩, ⟨_, rfl, Qok_val rfl (Ev_indexArr 8 30 1 i Tryd.underlying31 Tryd.sizeOf30 rfl rfl (by omega) (by omega) (by omega))⟩, trivial⟩ rfl (Cok_step rfl (Step_store 2 nb4 i 1 (cu32 u) 31 (U32 ((g32 u i) + (g32 st i))) ([U32 ((g32 u i) + (g32 st i))]) (cu32 (u.set i ((g32 u i) + (g32 st i)))) rfl rfl rfl rfl Tryd.sizeOf30 rfl (by simp [Value.oneCell']) (by simp [hu]; try omega) (lay32 _ _ _ (by rw [hu]; omega)))) ?_
      rintro v1 L1 ⟨rfl, rfl⟩
      refine ⟨[], ?_⟩
      show DP _ _ _ _ _ _ _ _ [⟨nb1, cu32 st, 31, (0, 0)⟩, ⟨nb3, cu32 (zr32 8), 31, (0, 0)⟩, ⟨nb4, cu32 (u.set i ((g32 u i) + (g32 st i))), 31, (0, 0)⟩]
      refine DP_end ⟨[8], [0, 1, 2, 3, 4, 5, 6, 7], [0, 1, 2, 3, 4, 5, 6, 7], [], []⟩ rfl rfl (by decide +kernel) rfl trivial ?_
      refine K_sub (F' := [(100, I64 ((i:Int))), (101, Ptr nb4 i), (102, U32 (g32 u i)), (103, I64 ((i:Int))), (104, Ptr nb1 i), (105, U32 (g32 st i)), (106, U32 ((g32 u i) + (g32 st i))), (107, Ptr nb4 i), (2, Ptr nb1 0), (4, Ptr nb3 0), (5, Ptr nb4 0), (97, I64 ((i:Int))), (98, .bool (decide (((i:Int)) < (8:Int)))), (99, I64 ((i:Int))), (16, I64 ((i:Int)))]) (Sub.cons (by kernel_rfl) (Sub.cons (by kernel_rfl) (Sub.cons (by kernel_rfl) (Sub.cons (by kernel_rfl) (Sub.cons (by kernel_rfl) (Sub.cons (by kernel_rfl) (Sub.cons (by kernel_rfl) (Sub.cons (by kernel_rfl) (Sub.cons (by kernel_rfl) (Sub.cons (by kernel_rfl) (Sub.cons (by kernel_rfl) (Sub.cons (by kernel_rfl) (Sub.cons (by kernel_rfl) (Sub.cons (by kernel_rfl) (Sub.cons (by kernel_rfl) (Sub.nil)))))))))))))))) ?_
      show JQ _ _ _ [(100, I64 ((i:Int))), (101, Ptr nb4 i), (102, U32 (g32 u i)), (103, I64 ((i:Int))), (104, Ptr nb1 i), (105, U32 (g32 st i)), (106, U32 ((g32 u i) + (g32 st i))), (107, Ptr nb4 i), (2, Ptr nb1 0), (4, Ptr nb3 0), (5, Ptr nb4 0), (97, I64 ((i:Int))), (98, .bool (decide (((i:Int)) < (8:Int)))), (99, I64 ((i:Int))), (16, I64 ((i:Int)))] _
      refine JQ_in_normal ?_
      refine JQ_then ?_
      refine JC_region ?_
      refine JL_val (I64 ((i:Int) + 1)) (Ev_bini rfl rfl fun _ => bin_add_i _ _ ((i:Int) + 1) (by omega) (by omega)) rfl ?_
      refine JL_val _ (Ev_move rfl) rfl ?_
      refine JL_nil ?_
      refine JQ_thenK ?_
      refine K_next (i + 1, u.set i ((g32 u i) + (g32 st i))) ⟨by omega, by rw [adN, ← hy2], hl1⟩ (by first | (simp; omega) | simp) (Sub.cons rfl (Sub.cons rfl (Sub.cons rfl (Sub.cons rfl (Sub.nil))))) rfl
    ·
      have hp2 : ¬ (((i:Int)) < (8:Int)) := of_decide_eq_false hb2
      refine JC_exit ?_
      refine JQ_then_exit ?_
      refine JQ_then_exit ?_
      refine JQ_in_same ?_
      refine JQ_then ?_
      refine JC_seq ?_
      refine JC_region ?_
      refine JL_val (.agg (cu32 u).toArray) (Ev_load rfl (Ld_agg Tryd.isAgg31 Tryd.sizeOf31 (len_cu32 hu) (MemAt.ent 2 rfl (Seg.whole _)))) rfl ?_
      refine JL_step (Step_store 1 nb3 0 8 (cu32 (zr32 8)) 31 (.agg (cu32 u).toArray) (cu32 u) (cu32 u) rfl rfl rfl (by first | rfl | simp) Tryd.sizeOf31 (len_cu32 hu) (by first | exact one_u8 | exact one_u32 | exact one_u64 | (simp [cu8, cu32, cu64, Value.oneCell']; done)) (by simp [(zr32_len 8)]) (lay_whole (by simp [(zr32_len 8), hu]))) rfl ?_
      rintro v1 L1 ⟨rfl, rfl⟩
      show JL _ _ _ _ _ [⟨nb1, cu32 st, 31, (0, 0)⟩, ⟨nb3, cu32 u, 31, (0, 0)⟩, ⟨nb4, cu32 u, 31, (0, 0)⟩]
      refine JL_nil ?_
      refine JQ_then ?_
      refine JC_ret ?_
      refine JQ_ret (.agg (cu32 u).toArray) (res1 Tryd.results28 (RV_cell rfl (Ld_agg Tryd.isAgg31 Tryd.sizeOf31 (len_cu32 hu) (MemAt.ent 1 rfl (Seg.whole _))))) fun w1 hw1 => ?_
      have e1 : t = 64 := by omega
      have e2 : i = 8 := by omega
      subst e1; subst e2
      rw [show u = comprL constL st blk by rw [comprL, hy2, hx2]]
      exact ⟨_, [], rfl, ⟨rfl, rfl⟩, hw1.sub (by simp) (by simp)⟩

theorem spN_zero (blk : List UInt8) : ∀ t, t ≤ 64 → ∀ j, t ≤ j → g32 (spN blk t) j = 0
  | 0, _, j, _ => by rw [spN]; exact g32_zr
  | t + 1, ht, j, hj => by
    rw [spN, spS]
    split
    all_goals rw [g32_set _ _ _ _ (by rw [spN_len]; omega), if_neg (by omega)]; exact spN_zero blk t (by omega) j (by omega)
theorem spN_set0 (blk : List UInt8) {t : Nat} (ht : t < 64) : spN blk t = (spN blk t).set t 0 := by
  refine ext32 (by simp) fun j hj => ?_
  rw [g32_set _ _ _ _ (by rw [spN_len]; omega)]
  by_cases h : t = j
  · subst h; rw [if_pos rfl, spN_zero blk t (by omega) t (Nat.le_refl t)]
  · rw [if_neg h]
theorem set_again (w : List UInt32) (t : Nat) (x y : UInt32) (b : UInt8) (h : t < w.length) (e : y = x * 256 + b.toUInt32) : (w.set t x).set t (g32 (w.set t x) t * 256 + b.toUInt32) = w.set t y := by
  rw [g32_set _ _ _ _ h, if_pos rfl, List.set_set, e]

theorem ex8 {s : List UInt32} (h : s.length = 8) : [g32 s 0, g32 s 1, g32 s 2, g32 s 3, g32 s 4, g32 s 5, g32 s 6, g32 s 7] = s := by
  match s, h with
  | [_, _, _, _, _, _, _, _], _ => rfl

set_option maxHeartbeats 4000000 in
theorem rcompress_c (st : List UInt32) (ab : Option Addr) (cb : Nat) (blk : List UInt8) (w : World) (hs0 : st.length = 8) (hb : blk.length = 64) (hr : RdB w [] ab blk) (hG : GLr w) : Calls Tryd.prog 29 #[.agg (cu32 st).toArray, .slice ab 64 cb] w (Post w [] (fun v L => v = .agg (cu32 (comprL constL st blk)).toArray ∧ L = [])) := by
  refine enter w [] 199 [] [.agg (cu32 st).toArray, .slice ab 64 cb] Tryd.func29 rfl rfl (by simp) (Hp.start (by simp) (by simp) (by simp)) ?_
  show JC _ _ _ [(0, .agg (cu32 st).toArray), (1, .slice ab 64 cb)] _
  refine JC_seq ?_
  refine JC_region ?_
  refine JL_step (Step_box (.agg (cu32 st).toArray) (cu32 st) rfl (by first | rfl | simp)) rfl ?_
  rintro v1 L1 ⟨nb1, hnb1, rfl, rfl⟩
  show JL _ _ _ _ ((2, Ptr nb1 0) :: _) [⟨nb1, cu32 st, 31, (0, 0)⟩]
  refine JL_step (Step_alloc _ (cu32 (zr32 8)) Tryd.zeroValue31 (by kernel_rfl)) rfl ?_
  rintro v1 L1 ⟨nb2, hnb2, rfl, rfl⟩
  show JL _ _ _ _ ((4, Ptr nb2 0) :: _) [⟨nb1, cu32 st, 31, (0, 0)⟩, ⟨nb2, cu32 (zr32 8), 31, (0, 0)⟩]
  refine JL_nil ?_
  refine JQ_then ?_
  refine JC_seq ?_
  refine JC_region ?_
  refine JL_step (Step_alloc _ (cu32 (zr32 64)) Tryd.zeroValue44 (by kernel_rfl)) rfl ?_
  rintro v1 L1 ⟨nb3, hnb3, rfl, rfl⟩
  show JL _ _ _ _ ((5, Ptr nb3 0) :: _) [⟨nb1, cu32 st, 31, (0, 0)⟩, ⟨nb2, cu32 (zr32 8), 31, (0, 0)⟩, ⟨nb3, cu32 (zr32 64), 44, (0, 0)⟩]
  refine JL_nil ?_
  refine JQ_then ?_
  refine JC_seq ?_
  refine JC_seq ?_
  refine JC_region ?_
  refine JL_val _ (Ev_assign rfl) rfl ?_
  refine JL_nil ?_
  refine JQ_then ?_
  refine JC_block ?_
  refine JC_loop (ι := Nat × List UInt32) (fun ⟨t, ww⟩ => [(1, .slice ab 64 cb), (2, Ptr nb1 0), (4, Ptr nb2 0), (5, Ptr nb3 0), (6, I64 ((t:Int)))]) (fun ⟨t, ww⟩ => [⟨nb1, cu32 st, 31, (0, 0)⟩, ⟨nb2, cu32 (zr32 8), 31, (0, 0)⟩, ⟨nb3, cu32 ww, 44, (0, 0)⟩]) (fun ⟨t, ww⟩ => t ≤ 64 ∧ ww = spN blk t ∧ ww.length = 64) (fun ⟨t, ww⟩ => 64 - t) (0, zr32 64) ⟨by omega, by rw [spN], zr32_len 64⟩ (Sub.cons rfl (Sub.cons rfl (Sub.cons rfl (Sub.cons rfl (Sub.cons rfl (Sub.nil)))))) rfl ?_
  rintro ⟨t, ww⟩ ⟨hx1, hx2, hw⟩
  show JC _ _ _ [(1, .slice ab 64 cb), (2, Ptr nb1 0), (4, Ptr nb2 0), (5, Ptr nb3 0), (6, I64 ((t:Int)))] [⟨nb1, cu32 st, 31, (0, 0)⟩, ⟨nb2, cu32 (zr32 8), 31, (0, 0)⟩, ⟨nb3, cu32 ww, 44, (0, 0)⟩]
  refine JC_seq ?_
  refine JC_seq ?_
  refine JC_region ?_
  refine JL_val _ (Ev_move rfl) rfl ?_
  refine JL_val (.bool (decide (((t:Int)) < (64:Int)))) (Ev_bini rfl rfl fun _ => bin_lss_i _ _) rfl ?_
  refine JL_nil ?_
  refine JQ_then ?_
  refine JC_cond (decide (((t:Int)) < (64:Int))) rfl (fun hb1 => ?_) (fun hb1 => ?_)
  ·
    have hp1 : ((t:Int)) < (64:Int) := of_decide_eq_true hb1
    refine JC_skip ?_
    refine JQ_then ?_
    refine JC_seq ?_
    refine JC_block ?_
    refine JC_seq ?_
    refine JC_region ?_
    refine JL_val _ (Ev_move rfl) rfl ?_
    refine JL_val (.bool (decide (((t:Int)) < (16:Int)))) (Ev_bini rfl rfl fun _ => bin_lss_i _ _) rfl ?_
    refine JL_nil ?_
    refine JQ_then ?_
    refine JC_cond (decide (((t:Int)) < (16:Int))) rfl (fun hb2 => ?_) (fun hb2 => ?_)
    ·
      have hp2 : ((t:Int)) < (16:Int) := of_decide_eq_true hb2
      refine JC_seq ?_
      refine JC_region ?_
      refine JL_val _ (Ev_assign rfl) rfl ?_
      refine JL_nil ?_
      refine JQ_then ?_
      refine JC_block ?_
      refine JC_loop (ι := Nat × List UInt32) (fun ⟨i, u⟩ => [(1, .slice ab 64 cb), (2, Ptr nb1 0), (4, Ptr nb2 0), (5, Ptr nb3 0), (6, I64 ((t:Int))), (23, I64 ((t:Int))), (24, .bool (decide (((t:Int)) < (64:Int)))), (27, I64 ((t:Int))), (28, .bool (decide (((t:Int)) < (16:Int)))), (7, I64 ((i:Int)))]) (fun ⟨i, u⟩ => [⟨nb1, cu32 st, 31, (0, 0)⟩, ⟨nb2, cu32 (zr32 8), 31, (0, 0)⟩, ⟨nb3, cu32 u, 44, (0, 0)⟩]) (fun ⟨i, u⟩ => i ≤ 4 ∧ u = ww.set t (wrdN blk t i) ∧ u.length = 64) (fun ⟨i, u⟩ => 4 - i) (0, ww) ⟨by omega, by rw [hx2, wrdN]; exact spN_set0 blk (t := t) (by omega), hw⟩ (Sub.cons rfl (Sub.cons rfl (Sub.cons rfl (Sub.cons rfl (Sub.cons rfl (Sub.cons rfl (Sub.cons rfl (Sub.cons rfl (Sub.cons rfl (Sub.cons rfl (Sub.nil))))))))))) rfl ?_
      rintro ⟨i, u⟩ ⟨hz1, hz2, hu⟩
      show JC _ _ _ [(1, .slice ab 64 cb), (2, Ptr nb1 0), (4, Ptr nb2 0), (5, Ptr nb3 0), (6, I64 ((t:Int))), (23, I64 ((t:Int))), (24, .bool (decide (((t:Int)) < (64:Int)))), (27, I64 ((t:Int))), (28, .bool (decide (((t:Int)) < (16:Int)))), (7, I64 ((i:Int)))] [⟨nb1, cu32 st, 31, (0, 0)⟩, ⟨nb2, cu32 (zr32 8), 31, (0, 0)⟩, ⟨nb3, cu32 u, 44, (0, 0)⟩]
      refine JC_seq ?_
      refine JC_seq ?_
      refine JC_region ?_
      refine JL_val _ (Ev_move rfl) rfl ?_
      refine JL_val (.bool (decide (((i:Int)) < (4:Int)))) (Ev_bini rfl rfl fun _ => bin_lss_i _ _) rfl ?_
      refine JL_nil ?_
      refine JQ_then ?_
      refine JC_cond (decide (((i:Int)) < (4:Int))) rfl (fun hb3 => ?_) (fun hb3 => ?_)
      ·
        have hp3 : ((i:Int)) < (4:Int) := of_decide_eq_true hb3
        refine JC_skip ?_
        refine JQ_then ?_
        refine JC_seq ?_
        refine JC_block ?_
        obtain ⟨bz1, oz1, hz1, hm1⟩ := hr.pos (by rw [hb]; omega)
        refine JC_draw 199 2 [(0, I64 ((t:Int))), (1, I64 ((t:Int))), (2, Ptr nb3 t), (3, U32 (g32 u t)), (4, U32 ((g32 u t) * (256:UInt32))), (5, .slice ab 64 cb), (6, I64 ((t:Int))), (7, I64 (4*(t:Int))), (8, I64 ((i:Int))), (9, I64 ((i:Int) + 4*(t:Int))), (10, Ptr bz1 (i + oz1 + 4*t)), (11, U8 (g8 blk (i + 4*t))), (12, U32 ((g8 blk (i + 4*t)).toUInt32)), (13, U32 (((g32 u t) * (256:UInt32)) + ((g8 blk (i + 4*t)).toUInt32))), (14, Ptr nb3 t)] Tryd.mixed rfl (by decide +kernel) ?_
        have hl1 : (u.set t (((g32 u t) * (256:UInt32)) + ((g8 blk (i + 4*t)).toUInt32))).length = 64 := by simp [hu]
        refine DP_one ⟨[], [0, 1, 2, 3, 4, 5, 6, 7, 8, 9, 10, 11, 12, 13, 14], [], [0, 1, 2, 3, 4, 5, 6, 7, 8, 9, 10, 11, 12, 13, 14], [15]⟩ 15 _ rfl rfl (by decide +kernel) rfl ⟨⟨_, rfl, Qok_val rfl (Ev_move rfl)⟩, ⟨_, rfl, Qok_val rfl (Ev_move rfl)⟩, ⟨_, rfl, Qok_val rfl (Ev_indexArr 64 30 1 t Tryd.underlying44 Tryd.sizeOf30 rfl rfl (by omega) (by omega) (by omega))⟩, ⟨_, rfl, Qok_val rfl (Ev_load rfl (Ld_one Tryd.isAgg30 (MemAt.ent 2 rfl (Seg.get (g32_get (i := t) (by rw [hu]; omega))))))⟩, ⟨_, rfl, Qok_val rfl (Ev_bini rfl rfl fun _ => bin_mul_u32 (g32 u t) (256:UInt32))⟩, ⟨_, rfl, Qok_val rfl (Ev_move rfl)⟩, ⟨_, rfl, Qok_val rfl (Ev_move rfl)⟩, ⟨_, rfl, Qok_val rfl (Ev_bini rfl rfl fun _ => bin_mul_i _ _ (4*(t:Int)) (by omega) (by omega))⟩, ⟨_, rfl, Qok_val rfl (Ev_move rfl)⟩, ⟨_, rfl, Qok_val rfl (Ev_bini rfl rfl fun _ => bin_add_i _ _ ((i:Int) + 4*(t:Int)) (by omega) (by omega))⟩, ⟨_, rfl, Qok_val rfl (Ev_indexSlG 5 1 (i + oz1 + 4*t) Tryd.underlying22 Tryd.sizeOf5 rfl hz1 rfl (by omega) (by omega) (by omega))⟩, ⟨_, rfl, Qok_val rfl (Ev_load rfl (Ld_one Tryd.isAgg5 (MemAt.seg (MemAt.base hm1.1 hm1.2.1 hm1.2.2) (Seg.get (g8_get (i := (i + 4*t)) (by rw [hb]; omega))) (by omega))))⟩, ⟨_, rfl, Qok_val rfl (Ev_conv _ _ rfl fun _ => conv_u8_u32 (by rw [Tryd.underlying5]; rfl) Tryd.underlying30 _)⟩, ⟨_, rfl, Qok_val rfl (Ev_bini rfl rfl fun _ => bin_add_u32 ((g32 u t) * (256:UInt32)) ((g8 blk (i + 4*t)).toUInt32))⟩, ⟨_, rfl, Qok_val rfl (Ev_indexArr 64 30 1 t Tryd.underlying44 Tryd.sizeOf30 rfl rfl (by omega) (by omega) (by omega))⟩, trivial⟩ rfl (Cok_step rfl (Step_store 2 nb3 t 1 (cu32 u) 44 (U32 (((g32 u t) * (256:UInt32)) + ((g8 blk (i + 4*t)).toUInt32))) ([U32 (((g32 u t) * (256:UInt32)) + ((g8 blk (i + 4*t)).toUInt32))]) (cu32 (u.set t (((g32 u t) * (256:UInt32)) + ((g8 blk (i + 4*t)).toUInt32)))) rfl rfl rfl rfl Tryd.sizeOf30 rfl (by simp [Value.oneCell']) (by simp [hu]; try omega) (lay32 _ _ _ (by rw [hu]; omega)))) ?_
        rintro v1 L1 ⟨rfl, rfl⟩
        refine ⟨[], ?_⟩
        show DP _ _ _ _ _ _ _ _ [⟨nb1, cu32 st, 31, (0, 0)⟩, ⟨nb2, cu32 (zr32 8), 31, (0, 0)⟩, ⟨nb3, cu32 (u.set t (((g32 u t) * (256:UInt32)) + ((g8 blk (i + 4*t)).toUInt32))), 44, (0, 0)⟩]
        refine DP_end ⟨[15], [0, 1, 2, 3, 4, 5, 6, 7, 8, 9, 10, 11, 12, 13, 14], [0, 1, 2, 3, 4, 5, 6, 7, 8, 9, 10, 11, 12, 13, 14], [], []⟩ rfl rfl (by decide +kernel) rfl trivial ?_
        refine K_sub (F' := [(33, I64 ((t:Int))), (34, I64 ((t:Int))), (35, Ptr nb3 t), (36, U32 (g32 u t)), (37, U32 ((g32 u t) * (256:UInt32))), (38, .slice ab 64 cb), (39, I64 ((t:Int))), (40, I64 (4*(t:Int))), (41, I64 ((i:Int))), (42, I64 ((i:Int) + 4*(t:Int))), (43, Ptr bz1 (i + oz1 + 4*t)), (44, U8 (g8 blk (i + 4*t))), (45, U32 ((g8 blk (i + 4*t)).toUInt32)), (46, U32 (((g32 u t) * (256:UInt32)) + ((g8 blk (i + 4*t)).toUInt32))), (47, Ptr nb3 t), (1, .slice ab 64 cb), (2, Ptr nb1 0), (4, Ptr nb2 0), (5, Ptr nb3 0), (6, I64 ((t:Int))), (23, I64 ((t:Int))), (24, .bool (decide (((t:Int)) < (64:Int)))), (27, I64 ((t:Int))), (28, .bool (decide (((t:Int)) < (16:Int)))), (7, I64 ((i:Int))), (29, I64 ((i:Int))), (30, .bool (decide (((i:Int)) < (4:Int))))]) (Sub.cons (by kernel_rfl) (Sub.cons (by kernel_rfl) (Sub.cons (by kernel_rfl) (Sub.cons (by kernel_rfl) (Sub.cons (by kernel_rfl) (Sub.cons (by kernel_rfl) (Sub.cons (by kernel_rfl) (Sub.cons (by kernel_rfl) (Sub.cons (by kernel_rfl) (Sub.cons (by kernel_rfl) (Sub.cons (by kernel_rfl) (Sub.cons (by kernel_rfl) (Sub.cons (by kernel_rfl) (Sub.cons (by kernel_rfl) (Sub.cons (by kernel_rfl) (Sub.cons (by kernel_rfl) (Sub.cons (by kernel_rfl) (Sub.cons (by kernel_rfl) (Sub.cons (by kernel_rfl) (Sub.cons (by kernel_rfl) (Sub.cons (by kernel_rfl) (Sub.cons (by kernel_rfl) (Sub.cons (by kernel_rfl) (Sub.cons (by kernel_rfl) (Sub.cons (by kernel_rfl) (Sub.cons (by kernel_rfl) (Sub.cons (by kernel_rfl) (Sub.nil)))))))))))))))))))))))))))) ?_
        show JQ _ _ _ [(33, I64 ((t:Int))), (34, I64 ((t:Int))), (35, Ptr nb3 t), (36, U32 (g32 u t)), (37, U32 ((g32 u t) * (256:UInt32))), (38, .slice ab 64 cb), (39, I64 ((t:Int))), (40, I64 (4*(t:Int))), (41, I64 ((i:Int))), (42, I64 ((i:Int) + 4*(t:Int))), (43, Ptr bz1 (i + oz1 + 4*t)), (44, U8 (g8 blk (i + 4*t))), (45, U32 ((g8 blk (i + 4*t)).toUInt32)), (46, U32 (((g32 u t) * (256:UInt32)) + ((g8 blk (i + 4*t)).toUInt32))), (47, Ptr nb3 t), (1, .slice ab 64 cb), (2, Ptr nb1 0), (4, Ptr nb2 0), (5, Ptr nb3 0), (6, I64 ((t:Int))), (23, I64 ((t:Int))), (24, .bool (decide (((t:Int)) < (64:Int)))), (27, I64 ((t:Int))), (28, .bool (decide (((t:Int)) < (16:Int)))), (7, I64 ((i:Int))), (29, I64 ((i:Int))), (30, .bool (decide (((i:Int)) < (4:Int))))] _
        refine JQ_in_normal ?_
        refine JQ_then ?_
        refine JC_region ?_
        refine JL_val _ (Ev_move rfl) rfl ?_
        refine JL_val (I64 ((i:Int) + 1)) (Ev_bini rfl rfl fun _ => bin_add_i _ _ ((i:Int) + 1) (by omega) (by omega)) rfl ?_
        refine JL_val _ (Ev_assign rfl) rfl ?_
        refine JL_nil ?_
        refine JQ_thenK ?_
        refine K_next (i + 1, u.set t (((g32 u t) * (256:UInt32)) + ((g8 blk (i + 4*t)).toUInt32))) ⟨by omega, by rw [hz2]; exact set_again ww t _ _ _ (by omega) (by rw [wrdN]), hl1⟩ (by first | (simp; omega) | simp) (Sub.cons rfl (Sub.cons rfl (Sub.cons rfl (Sub.cons rfl (Sub.cons rfl (Sub.cons rfl (Sub.cons rfl (Sub.cons rfl (Sub.cons rfl (Sub.cons rfl (Sub.nil))))))))))) rfl
      ·
        have hp3 : ¬ (((i:Int)) < (4:Int)) := of_decide_eq_false hb3
        refine JC_exit ?_
        refine JQ_then_exit ?_
        refine JQ_then_exit ?_
        refine JQ_in_same ?_
        refine JQ_in_normal ?_
        refine JQ_then ?_
        refine JC_region ?_
        refine JL_val _ (Ev_move rfl) rfl ?_
        refine JL_val (I64 ((t:Int) + 1)) (Ev_bini rfl rfl fun _ => bin_add_i _ _ ((t:Int) + 1) (by omega) (by omega)) rfl ?_
        refine JL_val _ (Ev_assign rfl) rfl ?_
        refine JL_nil ?_
        refine JQ_thenK ?_
        refine K_next (t + 1, u) ⟨by omega, by rw [spN, spS, if_pos (by omega), ← hx2, hz2, show i = 4 from by omega, wrd_word], hu⟩ (by first | (simp; omega) | simp) (Sub.cons rfl (Sub.cons rfl (Sub.cons rfl (Sub.cons rfl (Sub.cons rfl (Sub.nil)))))) rfl
    ·
      have hp2 : ¬ (((t:Int)) < (16:Int)) := of_decide_eq_false hb2
      refine JC_seq ?_
      refine JC_draw 199 1 [(0, I64 ((t:Int))), (1, I64 ((t:Int) - 15)), (2, Ptr nb3 (t - 15)), (3, U32 (g32 ww (t - 15))), (4, I64 ((t:Int))), (5, I64 ((t:Int) - 2)), (6, Ptr nb3 (t - 2)), (7, U32 (g32 ww (t - 2))), (8, U32 (g32 ww (t - 15))), (9, U32 (g32 ww (t - 2)))] Tryd.mixed rfl (by decide +kernel) ?_
      refine DP_end ⟨[], [0, 1, 2, 3, 4, 5, 6, 7, 8, 9], [], [0, 1, 2, 3, 4, 5, 6, 7, 8, 9], []⟩ rfl rfl (by decide +kernel) rfl ⟨⟨_, rfl, Qok_val rfl (Ev_move rfl)⟩, ⟨_, rfl, Qok_val rfl (Ev_bini rfl rfl fun _ => bin_sub_i _ _ ((t:Int) - 15) (by omega) (by omega))⟩, ⟨_, rfl, Qok_val rfl (Ev_indexArr 64 30 1 (t - 15) Tryd.underlying44 Tryd.sizeOf30 rfl rfl (by omega) (by omega) (by omega))⟩, ⟨_, rfl, Qok_val rfl (Ev_load rfl (Ld_one Tryd.isAgg30 (MemAt.ent 2 rfl (Seg.get (g32_get (i := (t - 15)) (by rw [hw]; omega))))))⟩, ⟨_, rfl, Qok_val rfl (Ev_move rfl)⟩, ⟨_, rfl, Qok_val rfl (Ev_bini rfl rfl fun _ => bin_sub_i _ _ ((t:Int) - 2) (by omega) (by omega))⟩, ⟨_, rfl, Qok_val rfl (Ev_indexArr 64 30 1 (t - 2) Tryd.underlying44 Tryd.sizeOf30 rfl rfl (by omega) (by omega) (by omega))⟩, ⟨_, rfl, Qok_val rfl (Ev_load rfl (Ld_one Tryd.isAgg30 (MemAt.ent 2 rfl (Seg.get (g32_get (i := (t - 2)) (by rw [hw]; omega))))))⟩, ⟨_, rfl, Qok_val rfl (Ev_assign rfl)⟩, ⟨_, rfl, Qok_val rfl (Ev_assign rfl)⟩, trivial⟩ ?_
      refine K_sub (F' := [(48, I64 ((t:Int))), (49, I64 ((t:Int) - 15)), (50, Ptr nb3 (t - 15)), (51, U32 (g32 ww (t - 15))), (52, I64 ((t:Int))), (53, I64 ((t:Int) - 2)), (54, Ptr nb3 (t - 2)), (55, U32 (g32 ww (t - 2))), (8, U32 (g32 ww (t - 15))), (9, U32 (g32 ww (t - 2))), (1, .slice ab 64 cb), (2, Ptr nb1 0), (4, Ptr nb2 0), (5, Ptr nb3 0), (6, I64 ((t:Int))), (23, I64 ((t:Int))), (24, .bool (decide (((t:Int)) < (64:Int)))), (27, I64 ((t:Int))), (28, .bool (decide (((t:Int)) < (16:Int))))]) (Sub.cons (by kernel_rfl) (Sub.cons (by kernel_rfl) (Sub.cons (by kernel_rfl) (Sub.cons (by kernel_rfl) (Sub.cons (by kernel_rfl) (Sub.cons (by kernel_rfl) (Sub.cons (by kernel_rfl) (Sub.cons (by kernel_rfl) (Sub.cons (by kernel_rfl) (Sub.cons (by kernel_rfl) (Sub.cons (by kernel_rfl) (Sub.cons (by kernel_rfl) (Sub.cons (by kernel_rfl) (Sub.cons (by kernel_rfl) (Sub.cons (by kernel_rfl) (Sub.cons (by kernel_rfl) (Sub.cons (by kernel_rfl) (Sub.cons (by kernel_rfl) (Sub.cons (by kernel_rfl) (Sub.nil)))))))))))))))))))) ?_
      show JQ _ _ _ [(48, I64 ((t:Int))), (49, I64 ((t:Int) - 15)), (50, Ptr nb3 (t - 15)), (51, U32 (g32 ww (t - 15))), (52, I64 ((t:Int))), (53, I64 ((t:Int) - 2)), (54, Ptr nb3 (t - 2)), (55, U32 (g32 ww (t - 2))), (8, U32 (g32 ww (t - 15))), (9, U32 (g32 ww (t - 2))), (1, .slice ab 64 cb), (2, Ptr nb1 0), (4, Ptr nb2 0), (5, Ptr nb3 0), (6, I64 ((t:Int))), (23, I64 ((t:Int))), (24, .bool (decide (((t:Int)) < (64:Int)))), (27, I64 ((t:Int))), (28, .bool (decide (((t:Int)) < (16:Int))))] _
      refine JQ_then ?_
      refine JC_seq ?_
      refine JC_region ?_
      refine JL_val _ (Ev_move rfl) rfl ?_
      refine JL_step (Step_callP 87 [U32 (g32 ww (t - 15)), I64 (7:Int)] (U32 (rotr (g32 ww (t - 15)) 7)) (Cl_func [U32 (g32 ww (t - 15)), I64 (7:Int)] Tryd.call87 rfl) (fun w1 hw1 => rturn_c (g32 ww (t - 15)) 7 w1 (by omega) (by omega))) rfl ?_
      rintro v1 L1 ⟨rfl, rfl⟩
      show JL _ _ _ _ ((57, U32 (rotr (g32 ww (t - 15)) 7)) :: _) [⟨nb1, cu32 st, 31, (0, 0)⟩, ⟨nb2, cu32 (zr32 8), 31, (0, 0)⟩, ⟨nb3, cu32 ww, 44, (0, 0)⟩]
      refine JL_val _ (Ev_move rfl) rfl ?_
      refine JL_step (Step_callP 87 [U32 (g32 ww (t - 15)), I64 (18:Int)] (U32 (rotr (g32 ww (t - 15)) 18)) (Cl_func [U32 (g32 ww (t - 15)), I64 (18:Int)] Tryd.call87 rfl) (fun w1 hw1 => rturn_c (g32 ww (t - 15)) 18 w1 (by omega) (by omega))) rfl ?_
      rintro v1 L1 ⟨rfl, rfl⟩
      show JL _ _ _ _ ((59, U32 (rotr (g32 ww (t - 15)) 18)) :: _) [⟨nb1, cu32 st, 31, (0, 0)⟩, ⟨nb2, cu32 (zr32 8), 31, (0, 0)⟩, ⟨nb3, cu32 ww, 44, (0, 0)⟩]
      refine JL_val (U32 ((rotr (g32 ww (t - 15)) 7) ^^^ (rotr (g32 ww (t - 15)) 18))) (Ev_bini rfl rfl fun _ => bin_xor_u32 (rotr (g32 ww (t - 15)) 7) (rotr (g32 ww (t - 15)) 18)) rfl ?_
      refine JL_val _ (Ev_move rfl) rfl ?_
      refine JL_val (U32 ((g32 ww (t - 15)) >>> (3:UInt32))) (Ev_bini rfl rfl fun _ => bin_shr_u32 (g32 ww (t - 15)) _ _ 3 (by decide) rfl) rfl ?_
      refine JL_val (U32 (((rotr (g32 ww (t - 15)) 7) ^^^ (rotr (g32 ww (t - 15)) 18)) ^^^ ((g32 ww (t - 15)) >>> (3:UInt32)))) (Ev_bini rfl rfl fun _ => bin_xor_u32 ((rotr (g32 ww (t - 15)) 7) ^^^ (rotr (g32 ww (t - 15)) 18)) ((g32 ww (t - 15)) >>> (3:UInt32))) rfl ?_
      refine JL_val _ (Ev_assign rfl) rfl ?_
      refine JL_nil ?_
      refine JQ_then ?_
      refine JC_seq ?_
      refine JC_region ?_
      refine JL_val _ (Ev_move rfl) rfl ?_
      refine JL_step (Step_callP 87 [U32 (g32 ww (t - 2)), I64 (17:Int)] (U32 (rotr (g32 ww (t - 2)) 17)) (Cl_func [U32 (g32 ww (t - 2)), I64 (17:Int)] Tryd.call87 rfl) (fun w1 hw1 => rturn_c (g32 ww (t - 2)) 17 w1 (by omega) (by omega))) rfl ?_
      rintro v1 L1 ⟨rfl, rfl⟩
      show JL _ _ _ _ ((65, U32 (rotr (g32 ww (t - 2)) 17)) :: _) [⟨nb1, cu32 st, 31, (0, 0)⟩, ⟨nb2, cu32 (zr32 8), 31, (0, 0)⟩, ⟨nb3, cu32 ww, 44, (0, 0)⟩]
      refine JL_val _ (Ev_move rfl) rfl ?_
      refine JL_step (Step_callP 87 [U32 (g32 ww (t - 2)), I64 (19:Int)] (U32 (rotr (g32 ww (t - 2)) 19)) (Cl_func [U32 (g32 ww (t - 2)), I64 (19:Int)] Tryd.call87 rfl) (fun w1 hw1 => rturn_c (g32 ww (t - 2)) 19 w1 (by omega) (by omega))) rfl ?_
      rintro v1 L1 ⟨rfl, rfl⟩
      show JL _ _ _ _ ((67, U32 (rotr (g32 ww (t - 2)) 19)) :: _) [⟨nb1, cu32 st, 31, (0, 0)⟩, ⟨nb2, cu32 (zr32 8), 31, (0, 0)⟩, ⟨nb3, cu32 ww, 44, (0, 0)⟩]
      refine JL_val (U32 ((rotr (g32 ww (t - 2)) 17) ^^^ (rotr (g32 ww (t - 2)) 19))) (Ev_bini rfl rfl fun _ => bin_xor_u32 (rotr (g32 ww (t - 2)) 17) (rotr (g32 ww (t - 2)) 19)) rfl ?_
      refine JL_val _ (Ev_move rfl) rfl ?_
      refine JL_val (U32 ((g32 ww (t - 2)) >>> (10:UInt32))) (Ev_bini rfl rfl fun _ => bin_shr_u32 (g32 ww (t - 2)) _ _ 10 (by decide) rfl) rfl ?_
      refine JL_val (U32 (((rotr (g32 ww (t - 2)) 17) ^^^ (rotr (g32 ww (t - 2)) 19)) ^^^ ((g32 ww (t - 2)) >>> (10:UInt32)))) (Ev_bini rfl rfl fun _ => bin_xor_u32 ((rotr (g32 ww (t - 2)) 17) ^^^ (rotr (g32 ww (t - 2)) 19)) ((g32 ww (t - 2)) >>> (10:UInt32))) rfl ?_
      refine JL_val _ (Ev_assign rfl) rfl ?_
      refine JL_nil ?_
      refine JQ_then ?_
      refine JC_draw 199 2 [(0, I64 ((t:Int))), (1, I64 ((t:Int))), (2, I64 ((t:Int) - 16)), (3, Ptr nb3 (t - 16)), (4, U32 (g32 ww (t - 16))), (5, U32 (((rotr (g32 ww (t - 15)) 7) ^^^ (rotr (g32 ww (t - 15)) 18)) ^^^ ((g32 ww (t - 15)) >>> (3:UInt32)))), (6, U32 ((g32 ww (t - 16)) + (((rotr (g32 ww (t - 15)) 7) ^^^ (rotr (g32 ww (t - 15)) 18)) ^^^ ((g32 ww (t - 15)) >>> (3:UInt32))))), (7, I64 ((t:Int))), (8, I64 ((t:Int) - 7)), (9, Ptr nb3 (t - 7)), (10, U32 (g32 ww (t - 7))), (11, U32 (((g32 ww (t - 16)) + (((rotr (g32 ww (t - 15)) 7) ^^^ (rotr (g32 ww (t - 15)) 18)) ^^^ ((g32 ww (t - 15)) >>> (3:UInt32)))) + (g32 ww (t - 7)))), (12, U32 (((rotr (g32 ww (t - 2)) 17) ^^^ (rotr (g32 ww (t - 2)) 19)) ^^^ ((g32 ww (t - 2)) >>> (10:UInt32)))), (13, U32 ((((g32 ww (t - 16)) + (((rotr (g32 ww (t - 15)) 7) ^^^ (rotr (g32 ww (t - 15)) 18)) ^^^ ((g32 ww (t - 15)) >>> (3:UInt32)))) + (g32 ww (t - 7))) + (((rotr (g32 ww (t - 2)) 17) ^^^ (rotr (g32 ww (t - 2)) 19)) ^^^ ((g32 ww (t - 2)) >>> (10:UInt32))))), (14, Ptr nb3 t)] Tryd.mixed rfl (by decide +kernel) ?_
      have hl2 : (ww.set t ((((g32 ww (t - 16)) + (((rotr (g32 ww (t - 15)) 7) ^^^ (rotr (g32 ww (t - 15)) 18)) ^^^ ((g32 ww (t - 15)) >>> (3:UInt32)))) + (g32 ww (t - 7))) + (((rotr (g32 ww (t - 2)) 17) ^^^ (rotr (g32 ww (t - 2)) 19)) ^^^ ((g32 ww (t - 2)) >>> (10:UInt32))))).length = 64 := by simp [hw]
      refine DP_one ⟨[], [0, 1, 2, 3, 4, 5, 6, 7, 8, 9, 10, 11, 12, 13, 14], [], [0, 1, 2, 3, 4, 5, 6, 7, 8, 9, 10, 11, 12, 13, 14], [15]⟩ 15 _ rfl rfl (by decide +kernel) rfl ⟨⟨_, rfl, Qok_val rfl (Ev_move rfl)⟩, ⟨_, rfl, Qok_val rfl (Ev_move rfl)⟩, ⟨_, rfl, Qok_val rfl (Ev_bini rfl rfl fun _ => bin_sub_i _ _ ((t:Int) - 16) (by omega) (by omega))⟩, ⟨_, rfl, Qok_val rfl (Ev_indexArr 64 30 1 (t - 16) Tryd.underlying44 Tryd.sizeOf30 rfl rfl (by omega) (by omega) (by omega))⟩, ⟨_, rfl, Qok_val rfl (Ev_load rfl (Ld_one Tryd.isAgg30 (MemAt.ent 2 rfl (Seg.get (g32_get (i := (t - 16)) (by rw [hw]; omega))))))⟩, ⟨_, rfl, Qok_val rfl (Ev_move rfl)⟩, ⟨_, rfl, Qok_val rfl (Ev_bini rfl rfl fun _ => bin_add_u32 (g32 ww (t - 16)) (((rotr (g32 ww (t - 15)) 7) ^^^ (rotr (g32 ww (t - 15)) 18)) ^^^ ((g32 ww (t - 15)) >>> (3:UInt32))))⟩, ⟨_, rfl, Qok_val rfl (Ev_move rfl)⟩, ⟨_, rfl, Qok_val rfl (Ev_bini rfl rfl fun _ => bin_sub_i _ _ ((t:Int) - 7) (by omega) (by omega))⟩, ⟨_, rfl, Qok_val rfl (Ev_indexArr 64 30 1 (t - 7) Tryd.underlying44 Tryd.sizeOf30 rfl rfl (by omega) (by omega) (by omega))⟩, ⟨_, rfl, Qok_val rfl (Ev_load rfl (Ld_one Tryd.isAgg30 (MemAt.ent 2 rfl (Seg.get (g32_get (i := (t - 7)) (by rw [hw]; omega))))))⟩, ⟨_, rfl, Qok_val rfl (Ev_bini rfl rfl fun _ => bin_add_u32 ((g32 ww (t - 16)) + (((rotr (g32 ww (t - 15)) 7) ^^^ (rotr (g32 ww (t - 15)) 18)) ^^^ ((g32 ww (t - 15)) >>> (3:UInt32)))) (g32 ww (t - 7)))⟩, ⟨_, rfl, Qok_val rfl (Ev_move rfl)⟩, ⟨_, rfl, Qok_val rfl (Ev_bini rfl rfl fun _ => bin_add_u32 (((g32 ww (t - 16)) + (((rotr (g32 ww (t - 15)) 7) ^^^ (rotr (g32 ww (t - 15)) 18)) ^^^ ((g32 ww (t - 15)) >>> (3:UInt32)))) + (g32 ww (t - 7))) (((rotr (g32 ww (t - 2)) 17) ^^^ (rotr (g32 ww (t - 2)) 19)) ^^^ ((g32 ww (t - 2)) >>> (10:UInt32))))⟩, ⟨_, rfl, Qok_val rfl (Ev_indexArr 64 30 1 t Tryd.underlying44 Tryd.sizeOf30 rfl rfl (by omega) (by omega) (by omega))⟩, trivial⟩ rfl (Cok_step rfl (Step_store 2 nb3 t 1 (cu32 ww) 44 (U32 ((((g32 ww (t - 16)) + (((rotr (g32 ww (t - 15)) 7) ^^^ (rotr (g32 ww (t - 15)) 18)) ^^^ ((g32 ww (t - 15)) >>> (3:UInt32)))) + (g32 ww (t - 7))) + (((rotr (g32 ww (t - 2)) 17) ^^^ (rotr (g32 ww (t - 2)) 19)) ^^^ ((g32 ww (t - 2)) >>> (10:UInt32))))) ([U32 ((((g32 ww (t - 16)) + (((rotr (g32 ww (t - 15)) 7) ^^^ (rotr (g32 ww (t - 15)) 18)) ^^^ ((g32 ww (t - 15)) >>> (3:UInt32)))) + (g32 ww (t - 7))) + (((rotr (g32 ww (t - 2)) 17) ^^^ (rotr (g32 ww (t - 2)) 19)) ^^^ ((g32 ww (t - 2)) >>> (10:UInt32))))]) (cu32 (ww.set t ((((g32 ww (t - 16)) + (((rotr (g32 ww (t - 15)) 7) ^^^ (rotr (g32 ww (t - 15)) 18)) ^^^ ((g32 ww (t - 15)) >>> (3:UInt32)))) + (g32 ww (t - 7))) + (((rotr (g32 ww (t - 2)) 17) ^^^ (rotr (g32 ww (t - 2)) 19)) ^^^ ((g32 ww (t - 2)) >>> (10:UInt32)))))) rfl rfl rfl rfl Tryd.sizeOf30 rfl (by simp [Value.oneCell']) (by simp [hw]; try omega) (lay32 _ _ _ (by rw [hw]; omega)))) ?_
      rintro v1 L1 ⟨rfl, rfl⟩
      refine ⟨[], ?_⟩
      show DP _ _ _ _ _ _ _ _ [⟨nb1, cu32 st, 31, (0, 0)⟩, ⟨nb2, cu32 (zr32 8), 31, (0, 0)⟩, ⟨nb3, cu32 (ww.set t ((((g32 ww (t - 16)) + (((rotr (g32 ww (t - 15)) 7) ^^^ (rotr (g32 ww (t - 15)) 18)) ^^^ ((g32 ww (t - 15)) >>> (3:UInt32)))) + (g32 ww (t - 7))) + (((rotr (g32 ww (t - 2)) 17) ^^^ (rotr (g32 ww (t - 2)) 19)) ^^^ ((g32 ww (t - 2)) >>> (10:UInt32))))), 44, (0, 0)⟩]
      refine DP_end ⟨[15], [0, 1, 2, 3, 4, 5, 6, 7, 8, 9, 10, 11, 12, 13, 14], [0, 1, 2, 3, 4, 5, 6, 7, 8, 9, 10, 11, 12, 13, 14], [], []⟩ rfl rfl (by decide +kernel) rfl trivial ?_
      refine K_sub (F' := [(72, I64 ((t:Int))), (73, I64 ((t:Int))), (74, I64 ((t:Int) - 16)), (75, Ptr nb3 (t - 16)), (76, U32 (g32 ww (t - 16))), (77, U32 (((rotr (g32 ww (t - 15)) 7) ^^^ (rotr (g32 ww (t - 15)) 18)) ^^^ ((g32 ww (t - 15)) >>> (3:UInt32)))), (78, U32 ((g32 ww (t - 16)) + (((rotr (g32 ww (t - 15)) 7) ^^^ (rotr (g32 ww (t - 15)) 18)) ^^^ ((g32 ww (t - 15)) >>> (3:UInt32))))), (79, I64 ((t:Int))), (80, I64 ((t:Int) - 7)), (81, Ptr nb3 (t - 7)), (82, U32 (g32 ww (t - 7))), (83, U32 (((g32 ww (t - 16)) + (((rotr (g32 ww (t - 15)) 7) ^^^ (rotr (g32 ww (t - 15)) 18)) ^^^ ((g32 ww (t - 15)) >>> (3:UInt32)))) + (g32 ww (t - 7)))), (84, U32 (((rotr (g32 ww (t - 2)) 17) ^^^ (rotr (g32 ww (t - 2)) 19)) ^^^ ((g32 ww (t - 2)) >>> (10:UInt32)))), (85, U32 ((((g32 ww (t - 16)) + (((rotr (g32 ww (t - 15)) 7) ^^^ (rotr (g32 ww (t - 15)) 18)) ^^^ ((g32 ww (t - 15)) >>> (3:UInt32)))) + (g32 ww (t - 7))) + (((rotr (g32 ww (t - 2)) 17) ^^^ (rotr (g32 ww (t - 2)) 19)) ^^^ ((g32 ww (t - 2)) >>> (10:UInt32))))), (86, Ptr nb3 t), (48, I64 ((t:Int))), (49, I64 ((t:Int) - 15)), (50, Ptr nb3 (t - 15)), (51, U32 (g32 ww (t - 15))), (52, I64 ((t:Int))), (53, I64 ((t:Int) - 2)), (54, Ptr nb3 (t - 2)), (55, U32 (g32 ww (t - 2))), (8, U32 (g32 ww (t - 15))), (9, U32 (g32 ww (t - 2))), (1, .slice ab 64 cb), (2, Ptr nb1 0), (4, Ptr nb2 0), (5, Ptr nb3 0), (6, I64 ((t:Int))), (23, I64 ((t:Int))), (24, .bool (decide (((t:Int)) < (64:Int)))), (27, I64 ((t:Int))), (28, .bool (decide (((t:Int)) < (16:Int)))), (56, U32 (g32 ww (t - 15))), (57, U32 (rotr (g32 ww (t - 15)) 7)), (58, U32 (g32 ww (t - 15))), (59, U32 (rotr (g32 ww (t - 15)) 18)), (60, U32 ((rotr (g32 ww (t - 15)) 7) ^^^ (rotr (g32 ww (t - 15)) 18))), (61, U32 (g32 ww (t - 15))), (62, U32 ((g32 ww (t - 15)) >>> (3:UInt32))), (63, U32 (((rotr (g32 ww (t - 15)) 7) ^^^ (rotr (g32 ww (t - 15)) 18)) ^^^ ((g32 ww (t - 15)) >>> (3:UInt32)))), (10, U32 (((rotr (g32 ww (t - 15)) 7) ^^^ (rotr (g32 ww (t - 15)) 18)) ^^^ ((g32 ww (t - 15)) >>> (3:UInt32)))), (64, U32 (g32 ww (t - 2))), (65, U32 (rotr (g32 ww (t - 2)) 17)), (66, U32 (g32 ww (t - 2))), (67, U32 (rotr (g32 ww (t - 2)) 19)), (68, U32 ((rotr (g32 ww (t - 2)) 17) ^^^ (rotr (g32 ww (t - 2)) 19))), (69, U32 (g32 ww (t - 2))), (70, U32 ((g32 ww (t - 2)) >>> (10:UInt32))), (71, U32 (((rotr (g32 ww (t - 2)) 17) ^^^ (rotr (g32 ww (t - 2)) 19)) ^^^ ((g32 ww (t - 2)) >>> (10:UInt32)))), (11, U32 (((rotr (g32 ww (t - 2)) 17) ^^^ (rotr (g32 ww (t - 2)) 19)) ^^^ ((g32 ww (t - 2)) >>> (10:UInt32))))]) (Sub.cons (by kernel_rfl) (Sub.cons (by kernel_rfl) (Sub.cons (by kernel_rfl) (Sub.cons (by kernel_rfl) (Sub.cons (by kernel_rfl) (Sub.cons (by kernel_rfl) (Sub.cons (by kernel_rfl) (Sub.cons (by kernel_rfl) (Sub.cons (by kernel_rfl) (Sub.cons (by kernel_rfl) (Sub.cons (by kernel_rfl) (Sub.cons (by kernel_rfl) (Sub.cons (by kernel_rfl) (Sub.cons (by kernel_rfl) (Sub.cons (by kernel_rfl) (Sub.cons (by kernel_rfl) (Sub.cons (by kernel_rfl) (Sub.cons (by kernel_rfl) (Sub.cons (by kernel_rfl) (Sub.cons (by kernel_rfl) (Sub.cons (by kernel_rfl) (Sub.cons (by kernel_rfl) (Sub.cons (by kernel_rfl) (Sub.cons (by kernel_rfl) (Sub.cons (by kernel_rfl) (Sub.cons (by kernel_rfl) (Sub.cons (by kernel_rfl) (Sub.cons (by kernel_rfl) (Sub.cons (by kernel_rfl) (Sub.cons (by kernel_rfl) (Sub.cons (by kernel_rfl) (Sub.cons (by kernel_rfl) (Sub.cons (by kernel_rfl) (Sub.cons (by kernel_rfl) (Sub.cons (by kernel_rfl) (Sub.cons (by kernel_rfl) (Sub.cons (by kernel_rfl) (Sub.cons (by kernel_rfl) (Sub.cons (by kernel_rfl) (Sub.cons (by kernel_rfl) (Sub.cons (by kernel_rfl) (Sub.cons (by kernel_rfl) (Sub.cons (by kernel_rfl) (Sub.cons (by kernel_rfl) (Sub.cons (by kernel_rfl) (Sub.cons (by kernel_rfl) (Sub.cons (by kernel_rfl) (Sub.cons (by kernel_rfl) (Sub.cons (by kernel_rfl) (Sub.cons (by kernel_rfl) (Sub.cons (by kernel_rfl) (Sub.cons (by kernel_rfl) (Sub.nil))))))))))))))))))))))))))))))))))))))))))))))))))))) ?_
      show JQ _ _ _ [(72, I64 ((t:Int))), (73, I64 ((t:Int))), (74, I64 ((t:Int) - 16)), (75, Ptr nb3 (t - 16)), (76, U32 (g32 ww (t - 16))), (77, U32 (((rotr (g32 ww (t - 15)) 7) ^^^ (rotr (g32 ww (t - 15)) 18)) ^^^ ((g32 ww (t - 15)) >>> (3:UInt32)))), (78, U32 ((g32 ww (t - 16)) + (((rotr (g32 ww (t - 15)) 7) ^^^ (rotr (g32 ww (t - 15)) 18)) ^^^ ((g32 ww (t - 15)) >>> (3:UInt32))))), (79, I64 ((t:Int))), (80, I64 ((t:Int) - 7)), (81, Ptr nb3 (t - 7)), (82, U32 (g32 ww (t - 7))), (83, U32 (((g32 ww (t - 16)) + (((rotr (g32 ww (t - 15)) 7) ^^^ (rotr (g32 ww (t - 15)) 18)) ^^^ ((g32 ww (t - 15)) >>> (3:UInt32)))) + (g32 ww (t - 7)))), (84, U32 (((rotr (g32 ww (t - 2)) 17) ^^^ (rotr (g32 ww (t - 2)) 19)) ^^^ ((g32 ww (t - 2)) >>> (10:UInt32)))), (85, U32 ((((g32 ww (t - 16)) + (((rotr (g32 ww (t - 15)) 7) ^^^ (rotr (g32 ww (t - 15)) 18)) ^^^ ((g32 ww (t - 15)) >>> (3:UInt32)))) + (g32 ww (t - 7))) + (((rotr (g32 ww (t - 2)) 17) ^^^ (rotr (g32 ww (t - 2)) 19)) ^^^ ((g32 ww (t - 2)) >>> (10:UInt32))))), (86, Ptr nb3 t), (48, I64 ((t:Int))), (49, I64 ((t:Int) - 15)), (50, Ptr nb3 (t - 15)), (51, U32 (g32 ww (t - 15))), (52, I64 ((t:Int))), (53, I64 ((t:Int) - 2)), (54, Ptr nb3 (t - 2)), (55, U32 (g32 ww (t - 2))), (8, U32 (g32 ww (t - 15))), (9, U32 (g32 ww (t - 2))), (1, .slice ab 64 cb), (2, Ptr nb1 0), (4, Ptr nb2 0), (5, Ptr nb3 0), (6, I64 ((t:Int))), (23, I64 ((t:Int))), (24, .bool (decide (((t:Int)) < (64:Int)))), (27, I64 ((t:Int))), (28, .bool (decide (((t:Int)) < (16:Int)))), (56, U32 (g32 ww (t - 15))), (57, U32 (rotr (g32 ww (t - 15)) 7)), (58, U32 (g32 ww (t - 15))), (59, U32 (rotr (g32 ww (t - 15)) 18)), (60, U32 ((rotr (g32 ww (t - 15)) 7) ^^^ (rotr (g32 ww (t - 15)) 18))), (61, U32 (g32 ww (t - 15))), (62, U32 ((g32 ww (t - 15)) >>> (3:UInt32))), (63, U32 (((rotr (g32 ww (t - 15)) 7) ^^^ (rotr (g32 ww (t - 15)) 18)) ^^^ ((g32 ww (t - 15)) >>> (3:UInt32)))), (10, U32 (((rotr (g32 ww (t - 15)) 7) ^^^ (rotr (g32 ww (t - 15)) 18)) ^^^ ((g32 ww (t - 15)) >>> (3:UInt32)))), (64, U32 (g32 ww (t - 2))), (65, U32 (rotr (g32 ww (t - 2)) 17)), (66, U32 (g32 ww (t - 2))), (67, U32 (rotr (g32 ww (t - 2)) 19)), (68, U32 ((rotr (g32 ww (t - 2)) 17) ^^^ (rotr (g32 ww (t - 2)) 19))), (69, U32 (g32 ww (t - 2))), (70, U32 ((g32 ww (t - 2)) >>> (10:UInt32))), (71, U32 (((rotr (g32 ww (t - 2)) 17) ^^^ (rotr (g32 ww (t - 2)) 19)) ^^^ ((g32 ww (t - 2)) >>> (10:UInt32)))), (11, U32 (((rotr (g32 ww (t - 2)) 17) ^^^ (rotr (g32 ww (t - 2)) 19)) ^^^ ((g32 ww (t - 2)) >>> (10:UInt32))))] _
      refine JQ_in_normal ?_
      refine JQ_then ?_
      refine JC_region ?_
      refine JL_val _ (Ev_move rfl) rfl ?_
      refine JL_val (I64 ((t:Int) + 1)) (Ev_bini rfl rfl fun _ => bin_add_i _ _ ((t:Int) + 1) (by omega) (by omega)) rfl ?_
      refine JL_val _ (Ev_assign rfl) rfl ?_
      refine JL_nil ?_
      refine JQ_thenK ?_
      refine K_next (t + 1, ww.set t ((((g32 ww (t - 16)) + (((rotr (g32 ww (t - 15)) 7) ^^^ (rotr (g32 ww (t - 15)) 18)) ^^^ ((g32 ww (t - 15)) >>> (3:UInt32)))) + (g32 ww (t - 7))) + (((rotr (g32 ww (t - 2)) 17) ^^^ (rotr (g32 ww (t - 2)) 19)) ^^^ ((g32 ww (t - 2)) >>> (10:UInt32))))) ⟨by omega, by rw [spN, spS, if_neg (by omega), ← hx2], hl2⟩ (by first | (simp; omega) | simp) (Sub.cons rfl (Sub.cons rfl (Sub.cons rfl (Sub.cons rfl (Sub.cons rfl (Sub.nil)))))) rfl
  ·
    have hp1 : ¬ (((t:Int)) < (64:Int)) := of_decide_eq_false hb1
    refine JC_exit ?_
    refine JQ_then_exit ?_
    refine JQ_then_exit ?_
    refine JQ_in_same ?_
    refine JQ_then ?_
    refine JC_seq ?_
    refine JC_draw 199 1 [(0, Ptr nb1 0), (1, U32 (g32 st 0)), (2, Ptr nb1 1), (3, U32 (g32 st 1)), (4, Ptr nb1 2), (5, U32 (g32 st 2)), (6, Ptr nb1 3), (7, U32 (g32 st 3)), (8, Ptr nb1 4), (9, U32 (g32 st 4)), (10, Ptr nb1 5), (11, U32 (g32 st 5)), (12, Ptr nb1 6), (13, U32 (g32 st 6)), (14, Ptr nb1 7), (15, U32 (g32 st 7)), (16, U32 (g32 st 0)), (17, U32 (g32 st 1)), (18, U32 (g32 st 2)), (19, U32 (g32 st 3)), (20, U32 (g32 st 4)), (21, U32 (g32 st 5)), (22, U32 (g32 st 6)), (23, U32 (g32 st 7))] Tryd.mixed rfl (by decide +kernel) ?_
    refine DP_end ⟨[], [0, 1, 2, 3, 4, 5, 6, 7, 8, 9, 10, 11, 12, 13, 14, 15, 16, 17, 18, 19, 20, 21, 22, 23], [], [0, 1, 2, 3, 4, 5, 6, 7, 8, 9, 10, 11, 12, 13, 14, 15, 16, 17, 18, 19, 20, 21, 22, 23], []⟩ rfl rfl (by decide +kernel) rfl ⟨⟨_, rfl, Qok_val rfl (Ev_indexArr 8 30 1 0 Tryd.underlying31 Tryd.sizeOf30 rfl rfl (by omega) (by omega) (by omega))⟩, ⟨_, rfl, Qok_val rfl (Ev_load rfl (Ld_one Tryd.isAgg30 (MemAt.ent 0 rfl (Seg.get (g32_get (i := 0) (by rw [hs0]; omega))))))⟩, ⟨_, rfl, Qok_val rfl (Ev_indexArr 8 30 1 1 Tryd.underlying31 Tryd.sizeOf30 rfl rfl (by omega) (by omega) (by omega))⟩, ⟨_, rfl, Qok_val rfl (Ev_load rfl (Ld_one Tryd.isAgg30 (MemAt.ent 0 rfl (Seg.get (g32_get (i := 1) (by rw [hs0]; omega))))))⟩, ⟨_, rfl, Qok_val rfl (Ev_indexArr 8 30 1 2 Tryd.underlying31 Tryd.sizeOf30 rfl rfl (by omega) (by omega) (by omega))⟩, ⟨_, rfl, Qok_val rfl (Ev_load rfl (Ld_one Tryd.isAgg30 (MemAt.ent 0 rfl (Seg.get (g32_get (i := 2) (by rw [hs0]; omega))))))⟩, ⟨_, rfl, Qok_val rfl (Ev_indexArr 8 30 1 3 Tryd.underlying31 Tryd.sizeOf30 rfl rfl (by omega) (by omega) (by omega))⟩, ⟨_, rfl, Qok_val rfl (Ev_load rfl (Ld_one Tryd.isAgg30 (MemAt.ent 0 rfl (Seg.get (g32_get (i := 3) (by rw [hs0]; omega))))))⟩, ⟨_, rfl, Qok_val rfl (Ev_indexArr 8 30 1 4 Tryd.underlying31 Tryd.sizeOf30 rfl rfl (by omega) (by omega) (by omega))⟩, ⟨_, rfl, Qok_val rfl (Ev_load rfl (Ld_one Tryd.isAgg30 (MemAt.ent 0 rfl (Seg.get (g32_get (i := 4) (by rw [hs0]; omega))))))⟩, ⟨_, rfl, Qok_val rfl (Ev_indexArr 8 30 1 5 Tryd.underlying31 Tryd.sizeOf30 rfl rfl (by omega) (by omega) (by omega))⟩, ⟨_, rfl, Qok_val rfl (Ev_load rfl (Ld_one Tryd.isAgg30 (MemAt.ent 0 rfl (Seg.get (g32_get (i := 5) (by rw [hs0]; omega))))))⟩, ⟨_, rfl, Qok_val rfl (Ev_indexArr 8 30 1 6 Tryd.underlying31 Tryd.sizeOf30 rfl rfl (by omega) (by omega) (by omega))⟩, ⟨_, rfl, Qok_val rfl (Ev_load rfl (Ld_one Tryd.isAgg30 (MemAt.ent 0 rfl (Seg.get (g32_get (i := 6) (by rw [hs0]; omega))))))⟩, ⟨_, rfl, Qok_val rfl (Ev_indexArr 8 30 1 7 Tryd.underlying31 Tryd.sizeOf30 rfl rfl (by omega) (by omega) (by omega))⟩, ⟨_, rfl, Qok_val rfl (Ev_load rfl (Ld_one Tryd.isAgg30 (MemAt.ent 0 rfl (Seg.get (g32_get (i := 7) (by rw [hs0]; omega))))))⟩, ⟨_, rfl, Qok_val rfl (Ev_assign rfl)⟩, ⟨_, rfl, Qok_val rfl (Ev_assign rfl)⟩, ⟨_, rfl, Qok_val rfl (Ev_assign rfl)⟩, ⟨_, rfl, Qok_val rfl (Ev_assign rfl)⟩, ⟨_, rfl, Qok_val rfl (Ev_assign rfl)⟩, ⟨_, rfl, Qok_val rfl (Ev_assign rfl)⟩, ⟨_, rfl, Qok_val rfl (Ev_assign rfl)⟩, ⟨_, rfl, Qok_val rfl (Ev_assign rfl)⟩, trivial⟩ ?_
    refine K_sub (F' := [(12, U32 (g32 st 0)), (13, U32 (g32 st 1)), (14, U32 (g32 st 2)), (15, U32 (g32 st 3)), (16, U32 (g32 st 4)), (17, U32 (g32 st 5)), (18, U32 (g32 st 6)), (19, U32 (g32 st 7)), (2, Ptr nb1 0), (4, Ptr nb2 0), (5, Ptr nb3 0)]) (Sub.cons (by kernel_rfl) (Sub.cons (by kernel_rfl) (Sub.cons (by kernel_rfl) (Sub.cons (by kernel_rfl) (Sub.cons (by kernel_rfl) (Sub.cons (by kernel_rfl) (Sub.cons (by kernel_rfl) (Sub.cons (by kernel_rfl) (Sub.cons (by kernel_rfl) (Sub.cons (by kernel_rfl) (Sub.cons (by kernel_rfl) (Sub.nil)))))))))))) ?_
    show JQ _ _ _ [(12, U32 (g32 st 0)), (13, U32 (g32 st 1)), (14, U32 (g32 st 2)), (15, U32 (g32 st 3)), (16, U32 (g32 st 4)), (17, U32 (g32 st 5)), (18, U32 (g32 st 6)), (19, U32 (g32 st 7)), (2, Ptr nb1 0), (4, Ptr nb2 0), (5, Ptr nb3 0)] _
    refine JQ_then ?_
    refine JC_seq ?_
    refine JC_seq ?_
    refine JC_region ?_
    refine JL_val _ (Ev_assign rfl) rfl ?_
    refine JL_nil ?_
    refine JQ_then ?_
    refine JC_block ?_
    refine JC_loop (ι := Nat × UInt32 × UInt32 × UInt32 × UInt32 × UInt32 × UInt32 × UInt32 × UInt32) (fun ⟨r, va, vb, vc, vd, ve, vf, vg, vh⟩ => [(2, Ptr nb1 0), (4, Ptr nb2 0), (5, Ptr nb3 0), (20, I64 ((r:Int))), (12, U32 va), (13, U32 vb), (14, U32 vc), (15, U32 vd), (16, U32 ve), (17, U32 vf), (18, U32 vg), (19, U32 vh)]) (fun ⟨r, va, vb, vc, vd, ve, vf, vg, vh⟩ => [⟨nb1, cu32 st, 31, (0, 0)⟩, ⟨nb2, cu32 (zr32 8), 31, (0, 0)⟩, ⟨nb3, cu32 ww, 44, (0, 0)⟩]) (fun ⟨r, va, vb, vc, vd, ve, vf, vg, vh⟩ => r ≤ 64 ∧ [va, vb, vc, vd, ve, vf, vg, vh] = cpN constL st ww r) (fun ⟨r, va, vb, vc, vd, ve, vf, vg, vh⟩ => 64 - r) (0, g32 st 0, g32 st 1, g32 st 2, g32 st 3, g32 st 4, g32 st 5, g32 st 6, g32 st 7) ⟨by omega, by rw [cpN]; exact ex8 hs0⟩ (Sub.cons rfl (Sub.cons rfl (Sub.cons rfl (Sub.cons rfl (Sub.cons rfl (Sub.cons rfl (Sub.cons rfl (Sub.cons rfl (Sub.cons rfl (Sub.cons rfl (Sub.cons rfl (Sub.cons rfl (Sub.nil))))))))))))) rfl ?_
    rintro ⟨r, va, vb, vc, vd, ve, vf, vg, vh⟩ ⟨hy1, hy2⟩
    show JC _ _ _ [(2, Ptr nb1 0), (4, Ptr nb2 0), (5, Ptr nb3 0), (20, I64 ((r:Int))), (12, U32 va), (13, U32 vb), (14, U32 vc), (15, U32 vd), (16, U32 ve), (17, U32 vf), (18, U32 vg), (19, U32 vh)] [⟨nb1, cu32 st, 31, (0, 0)⟩, ⟨nb2, cu32 (zr32 8), 31, (0, 0)⟩, ⟨nb3, cu32 ww, 44, (0, 0)⟩]
    refine JC_seq ?_
    refine JC_seq ?_
    refine JC_region ?_
    refine JL_val _ (Ev_move rfl) rfl ?_
    refine JL_val (.bool (decide (((r:Int)) < (64:Int)))) (Ev_bini rfl rfl fun _ => bin_lss_i _ _) rfl ?_
    refine JL_nil ?_
    refine JQ_then ?_
    refine JC_cond (decide (((r:Int)) < (64:Int))) rfl (fun hb4 => ?_) (fun hb4 => ?_)
    ·
      have hp4 : ((r:Int)) < (64:Int) := of_decide_eq_true hb4
      refine JC_skip ?_
      refine JQ_then ?_
      refine JC_seq ?_
      refine JC_block ?_
      refine JC_seq ?_
      refine JC_draw 199 4 [(0, U32 vh), (1, U32 ve), (3, U32 ve), (6, U32 ve), (10, U32 ve), (11, U32 vf), (12, U32 (ve &&& vf)), (13, U32 ve), (14, U32 (~~~ve)), (15, U32 vg), (16, U32 ((~~~ve) &&& vg)), (17, U32 ((ve &&& vf) ^^^ ((~~~ve) &&& vg))), (19, I64 ((r:Int))), (20, Ptr 0 r), (21, U32 (g32 constL r)), (23, I64 ((r:Int))), (24, Ptr nb3 r), (25, U32 (g32 ww r))] Tryd.mixed rfl (by decide +kernel) ?_
      refine DP_one ⟨[], [0, 1, 3, 6, 10, 11, 12, 13, 14, 15, 16, 17, 19, 20, 21, 23, 24, 25], [], [0, 1, 3, 6, 10, 11, 12, 13, 14, 15, 16, 17, 19, 20, 21, 23, 24, 25], [2]⟩ 2 _ rfl rfl (by decide +kernel) rfl ⟨⟨_, rfl, Qok_val rfl (Ev_move rfl)⟩, ⟨_, rfl, Qok_val rfl (Ev_move rfl)⟩, ⟨_, rfl, Qok_val rfl (Ev_move rfl)⟩, ⟨_, rfl, Qok_val rfl (Ev_move rfl)⟩, ⟨_, rfl, Qok_val rfl (Ev_move rfl)⟩, ⟨_, rfl, Qok_val rfl (Ev_move rfl)⟩, ⟨_, rfl, Qok_val rfl (Ev_bini rfl rfl fun _ => bin_and_u32 ve vf)⟩, ⟨_, rfl, Qok_val rfl (Ev_move rfl)⟩, ⟨_, rfl, Qok_val rfl (Ev_un _ _ rfl fun _ => un_xor_u32 _)⟩, ⟨_, rfl, Qok_val rfl (Ev_move rfl)⟩, ⟨_, rfl, Qok_val rfl (Ev_bini rfl rfl fun _ => bin_and_u32 (~~~ve) vg)⟩, ⟨_, rfl, Qok_val rfl (Ev_bini rfl rfl fun _ => bin_xor_u32 (ve &&& vf) ((~~~ve) &&& vg))⟩, ⟨_, rfl, Qok_val rfl (Ev_move rfl)⟩, ⟨_, rfl, Qok_val rfl (Ev_indexArr 64 30 1 r Tryd.underlying44 Tryd.sizeOf30 rfl rfl (by omega) (by omega) (by omega))⟩, ⟨_, rfl, Qok_val rfl (Ev_load rfl (Ld_one Tryd.isAgg30 (MemAt.seg (RdA.mem hG (by simp)) (Seg.get (g32_get (i := r) (by rw [constL_len]; omega))) (by omega))))⟩, ⟨_, rfl, Qok_val rfl (Ev_move rfl)⟩, ⟨_, rfl, Qok_val rfl (Ev_indexArr 64 30 1 r Tryd.underlying44 Tryd.sizeOf30 rfl rfl (by omega) (by omega) (by omega))⟩, ⟨_, rfl, Qok_val rfl (Ev_load rfl (Ld_one Tryd.isAgg30 (MemAt.ent 2 rfl (Seg.get (g32_get (i := r) (by rw [hw]; omega))))))⟩, trivial⟩ rfl (Cok_step rfl (Step_callP 87 [U32 ve, I64 (6:Int)] (U32 (rotr ve 6)) (Cl_func [U32 ve, I64 (6:Int)] Tryd.call87 rfl) (fun w1 hw1 => rturn_c ve 6 w1 (by omega) (by omega)))) ?_
      rintro v1 L1 ⟨rfl, rfl⟩
      refine ⟨[], ?_⟩
      show DP _ _ _ _ _ _ _ _ [⟨nb1, cu32 st, 31, (0, 0)⟩, ⟨nb2, cu32 (zr32 8), 31, (0, 0)⟩, ⟨nb3, cu32 ww, 44, (0, 0)⟩]
      refine DP_one ⟨[2], [0, 1, 3, 6, 10, 11, 12, 13, 14, 15, 16, 17, 19, 20, 21, 23, 24, 25], [1], [0, 3, 6, 10, 11, 12, 13, 14, 15, 16, 17, 19, 20, 21, 23, 24, 25], [4]⟩ 4 _ rfl rfl (by decide +kernel) rfl ⟨⟨_, rfl, Qok_val rfl (Ev_move rfl)⟩, ⟨_, rfl, Qok_val rfl (Ev_move rfl)⟩, ⟨_, rfl, Qok_val rfl (Ev_move rfl)⟩, ⟨_, rfl, Qok_val rfl (Ev_move rfl)⟩, ⟨_, rfl, Qok_val rfl (Ev_move rfl)⟩, ⟨_, rfl, Qok_val rfl (Ev_bini rfl rfl fun _ => bin_and_u32 ve vf)⟩, ⟨_, rfl, Qok_val rfl (Ev_move rfl)⟩, ⟨_, rfl, Qok_val rfl (Ev_un _ _ rfl fun _ => un_xor_u32 _)⟩, ⟨_, rfl, Qok_val rfl (Ev_move rfl)⟩, ⟨_, rfl, Qok_val rfl (Ev_bini rfl rfl fun _ => bin_and_u32 (~~~ve) vg)⟩, ⟨_, rfl, Qok_val rfl (Ev_bini rfl rfl fun _ => bin_xor_u32 (ve &&& vf) ((~~~ve) &&& vg))⟩, ⟨_, rfl, Qok_val rfl (Ev_move rfl)⟩, ⟨_, rfl, Qok_val rfl (Ev_indexArr 64 30 1 r Tryd.underlying44 Tryd.sizeOf30 rfl rfl (by omega) (by omega) (by omega))⟩, ⟨_, rfl, Qok_val rfl (Ev_load rfl (Ld_one Tryd.isAgg30 (MemAt.seg (RdA.mem hG (by simp)) (Seg.get (g32_get (i := r) (by rw [constL_len]; omega))) (by omega))))⟩, ⟨_, rfl, Qok_val rfl (Ev_move rfl)⟩, ⟨_, rfl, Qok_val rfl (Ev_indexArr 64 30 1 r Tryd.underlying44 Tryd.sizeOf30 rfl rfl (by omega) (by omega) (by omega))⟩, ⟨_, rfl, Qok_val rfl (Ev_load rfl (Ld_one Tryd.isAgg30 (MemAt.ent 2 rfl (Seg.get (g32_get (i := r) (by rw [hw]; omega))))))⟩, trivial⟩ rfl (Cok_step rfl (Step_callP 87 [U32 ve, I64 (11:Int)] (U32 (rotr ve 11)) (Cl_func [U32 ve, I64 (11:Int)] Tryd.call87 rfl) (fun w1 hw1 => rturn_c ve 11 w1 (by omega) (by omega)))) ?_
      rintro v1 L1 ⟨rfl, rfl⟩
      refine ⟨[(5, U32 ((rotr ve 6) ^^^ (rotr ve 11)))], ?_⟩
      show DP _ _ _ _ _ _ _ _ [⟨nb1, cu32 st, 31, (0, 0)⟩, ⟨nb2, cu32 (zr32 8), 31, (0, 0)⟩, ⟨nb3, cu32 ww, 44, (0, 0)⟩]
      refine DP_one ⟨[2, 4], [0, 1, 3, 5, 6, 10, 11, 12, 13, 14, 15, 16, 17, 19, 20, 21, 23, 24, 25], [1, 3], [0, 5, 6, 10, 11, 12, 13, 14, 15, 16, 17, 19, 20, 21, 23, 24, 25], [7]⟩ 7 _ rfl rfl (by decide +kernel) rfl ⟨⟨_, rfl, Qok_val rfl (Ev_move rfl)⟩, ⟨_, rfl, Qok_val rfl (Ev_bini rfl rfl fun _ => bin_xor_u32 (rotr ve 6) (rotr ve 11))⟩, ⟨_, rfl, Qok_val rfl (Ev_move rfl)⟩, ⟨_, rfl, Qok_val rfl (Ev_move rfl)⟩, ⟨_, rfl, Qok_val rfl (Ev_move rfl)⟩, ⟨_, rfl, Qok_val rfl (Ev_bini rfl rfl fun _ => bin_and_u32 ve vf)⟩, ⟨_, rfl, Qok_val rfl (Ev_move rfl)⟩, ⟨_, rfl, Qok_val rfl (Ev_un _ _ rfl fun _ => un_xor_u32 _)⟩, ⟨_, rfl, Qok_val rfl (Ev_move rfl)⟩, ⟨_, rfl, Qok_val rfl (Ev_bini rfl rfl fun _ => bin_and_u32 (~~~ve) vg)⟩, ⟨_, rfl, Qok_val rfl (Ev_bini rfl rfl fun _ => bin_xor_u32 (ve &&& vf) ((~~~ve) &&& vg))⟩, ⟨_, rfl, Qok_val rfl (Ev_move rfl)⟩, ⟨_, rfl, Qok_val rfl (Ev_indexArr 64 30 1 r Tryd.underlying44 Tryd.sizeOf30 rfl rfl (by omega) (by omega) (by omega))⟩, ⟨_, rfl, Qok_val rfl (Ev_load rfl (Ld_one Tryd.isAgg30 (MemAt.seg (RdA.mem hG (by simp)) (Seg.get (g32_get (i := r) (by rw [constL_len]; omega))) (by omega))))⟩, ⟨_, rfl, Qok_val rfl (Ev_move rfl)⟩, ⟨_, rfl, Qok_val rfl (Ev_indexArr 64 30 1 r Tryd.underlying44 Tryd.sizeOf30 rfl rfl (by omega) (by omega) (by omega))⟩, ⟨_, rfl, Qok_val rfl (Ev_load rfl (Ld_one Tryd.isAgg30 (MemAt.ent 2 rfl (Seg.get (g32_get (i := r) (by rw [hw]; omega))))))⟩, trivial⟩ rfl (Cok_step rfl (Step_callP 87 [U32 ve, I64 (25:Int)] (U32 (rotr ve 25)) (Cl_func [U32 ve, I64 (25:Int)] Tryd.call87 rfl) (fun w1 hw1 => rturn_c ve 25 w1 (by omega) (by omega)))) ?_
      rintro v1 L1 ⟨rfl, rfl⟩
      refine ⟨[(8, U32 (((rotr ve 6) ^^^ (rotr ve 11)) ^^^ (rotr ve 25))), (9, U32 (vh + (((rotr ve 6) ^^^ (rotr ve 11)) ^^^ (rotr ve 25)))), (18, U32 ((vh + (((rotr ve 6) ^^^ (rotr ve 11)) ^^^ (rotr ve 25))) + ((ve &&& vf) ^^^ ((~~~ve) &&& vg)))), (22, U32 (((vh + (((rotr ve 6) ^^^ (rotr ve 11)) ^^^ (rotr ve 25))) + ((ve &&& vf) ^^^ ((~~~ve) &&& vg))) + (g32 constL r))), (26, U32 ((((vh + (((rotr ve 6) ^^^ (rotr ve 11)) ^^^ (rotr ve 25))) + ((ve &&& vf) ^^^ ((~~~ve) &&& vg))) + (g32 constL r)) + (g32 ww r))), (27, U32 ((((vh + (((rotr ve 6) ^^^ (rotr ve 11)) ^^^ (rotr ve 25))) + ((ve &&& vf) ^^^ ((~~~ve) &&& vg))) + (g32 constL r)) + (g32 ww r)))], ?_⟩
      show DP _ _ _ _ _ _ _ _ [⟨nb1, cu32 st, 31, (0, 0)⟩, ⟨nb2, cu32 (zr32 8), 31, (0, 0)⟩, ⟨nb3, cu32 ww, 44, (0, 0)⟩]
      refine DP_end ⟨[2, 4, 7], [0, 1, 3, 5, 6, 8, 9, 10, 11, 12, 13, 14, 15, 16, 17, 18, 19, 20, 21, 22, 23, 24, 25, 26, 27], [1, 3, 6], [0, 5, 8, 9, 10, 11, 12, 13, 14, 15, 16, 17, 18, 19, 20, 21, 22, 23, 24, 25, 26, 27], []⟩ rfl rfl (by decide +kernel) rfl ⟨⟨_, rfl, Qok_val rfl (Ev_move rfl)⟩, ⟨_, rfl, Qok_val rfl (Ev_bini rfl rfl fun _ => bin_xor_u32 (rotr ve 6) (rotr ve 11))⟩, ⟨_, rfl, Qok_val rfl (Ev_bini rfl rfl fun _ => bin_xor_u32 ((rotr ve 6) ^^^ (rotr ve 11)) (rotr ve 25))⟩, ⟨_, rfl, Qok_val rfl (Ev_bini rfl rfl fun _ => bin_add_u32 vh (((rotr ve 6) ^^^ (rotr ve 11)) ^^^ (rotr ve 25)))⟩, ⟨_, rfl, Qok_val rfl (Ev_move rfl)⟩, ⟨_, rfl, Qok_val rfl (Ev_move rfl)⟩, ⟨_, rfl, Qok_val rfl (Ev_bini rfl rfl fun _ => bin_and_u32 ve vf)⟩, ⟨_, rfl, Qok_val rfl (Ev_move rfl)⟩, ⟨_, rfl, Qok_val rfl (Ev_un _ _ rfl fun _ => un_xor_u32 _)⟩, ⟨_, rfl, Qok_val rfl (Ev_move rfl)⟩, ⟨_, rfl, Qok_val rfl (Ev_bini rfl rfl fun _ => bin_and_u32 (~~~ve) vg)⟩, ⟨_, rfl, Qok_val rfl (Ev_bini rfl rfl fun _ => bin_xor_u32 (ve &&& vf) ((~~~ve) &&& vg))⟩, ⟨_, rfl, Qok_val rfl (Ev_bini rfl rfl fun _ => bin_add_u32 (vh + (((rotr ve 6) ^^^ (rotr ve 11)) ^^^ (rotr ve 25))) ((ve &&& vf) ^^^ ((~~~ve) &&& vg)))⟩, ⟨_, rfl, Qok_val rfl (Ev_move rfl)⟩, ⟨_, rfl, Qok_val rfl (Ev_indexArr 64 30 1 r Tryd.underlying44 Tryd.sizeOf30 rfl rfl (by omega) (by omega) (by omega))⟩, ⟨_, rfl, Qok_val rfl (Ev_load rfl (Ld_one Tryd.isAgg30 (MemAt.seg (RdA.mem hG (by simp)) (Seg.get (g32_get (i := r) (by rw [constL_len]; omega))) (by omega))))⟩, ⟨_, rfl, Qok_val rfl (Ev_bini rfl rfl fun _ => bin_add_u32 ((vh + (((rotr ve 6) ^^^ (rotr ve 11)) ^^^ (rotr ve 25))) + ((ve &&& vf) ^^^ ((~~~ve) &&& vg))) (g32 constL r))⟩, ⟨_, rfl, Qok_val rfl (Ev_move rfl)⟩, ⟨_, rfl, Qok_val rfl (Ev_indexArr 64 30 1 r Tryd.underlying44 Tryd.sizeOf30 rfl rfl (by omega) (by omega) (by omega))⟩, ⟨_, rfl, Qok_val rfl (Ev_load rfl (Ld_one Tryd.isAgg30 (MemAt.ent 2 rfl (Seg.get (g32_get (i := r) (by rw [hw]; omega))))))⟩, ⟨_, rfl, Qok_val rfl (Ev_bini rfl rfl fun _ => bin_add_u32 (((vh + (((rotr ve 6) ^^^ (rotr ve 11)) ^^^ (rotr ve 25))) + ((ve &&& vf) ^^^ ((~~~ve) &&& vg))) + (g32 constL r)) (g32 ww r))⟩, ⟨_, rfl, Qok_val rfl (Ev_assign rfl)⟩, trivial⟩ ?_
      refine K_sub (F' := [(107, U32 vh), (108, U32 ve), (109, U32 (rotr ve 6)), (110, U32 ve), (111, U32 (rotr ve 11)), (112, U32 ((rotr ve 6) ^^^ (rotr ve 11))), (113, U32 ve), (114, U32 (rotr ve 25)), (115, U32 (((rotr ve 6) ^^^ (rotr ve 11)) ^^^ (rotr ve 25))), (116, U32 (vh + (((rotr ve 6) ^^^ (rotr ve 11)) ^^^ (rotr ve 25)))), (117, U32 ve), (118, U32 vf), (119, U32 (ve &&& vf)), (120, U32 ve), (121, U32 (~~~ve)), (122, U32 vg), (123, U32 ((~~~ve) &&& vg)), (124, U32 ((ve &&& vf) ^^^ ((~~~ve) &&& vg))), (125, U32 ((vh + (((rotr ve 6) ^^^ (rotr ve 11)) ^^^ (rotr ve 25))) + ((ve &&& vf) ^^^ ((~~~ve) &&& vg)))), (126, I64 ((r:Int))), (127, Ptr 0 r), (128, U32 (g32 constL r)), (129, U32 (((vh + (((rotr ve 6) ^^^ (rotr ve 11)) ^^^ (rotr ve 25))) + ((ve &&& vf) ^^^ ((~~~ve) &&& vg))) + (g32 constL r))), (130, I64 ((r:Int))), (131, Ptr nb3 r), (132, U32 (g32 ww r)), (133, U32 ((((vh + (((rotr ve 6) ^^^ (rotr ve 11)) ^^^ (rotr ve 25))) + ((ve &&& vf) ^^^ ((~~~ve) &&& vg))) + (g32 constL r)) + (g32 ww r))), (21, U32 ((((vh + (((rotr ve 6) ^^^ (rotr ve 11)) ^^^ (rotr ve 25))) + ((ve &&& vf) ^^^ ((~~~ve) &&& vg))) + (g32 constL r)) + (g32 ww r))), (2, Ptr nb1 0), (4, Ptr nb2 0), (5, Ptr nb3 0), (20, I64 ((r:Int))), (12, U32 va), (13, U32 vb), (14, U32 vc), (15, U32 vd), (16, U32 ve), (17, U32 vf), (18, U32 vg), (19, U32 vh), (103, I64 ((r:Int))), (104, .bool (decide (((r:Int)) < (64:Int))))]) (Sub.cons (by kernel_rfl) (Sub.cons (by kernel_rfl) (Sub.cons (by kernel_rfl) (Sub.cons (by kernel_rfl) (Sub.cons (by kernel_rfl) (Sub.cons (by kernel_rfl) (Sub.cons (by kernel_rfl) (Sub.cons (by kernel_rfl) (Sub.cons (by kernel_rfl) (Sub.cons (by kernel_rfl) (Sub.cons (by kernel_rfl) (Sub.cons (by kernel_rfl) (Sub.cons (by kernel_rfl) (Sub.cons (by kernel_rfl) (Sub.cons (by kernel_rfl) (Sub.cons (by kernel_rfl) (Sub.cons (by kernel_rfl) (Sub.cons (by kernel_rfl) (Sub.cons (by kernel_rfl) (Sub.cons (by kernel_rfl) (Sub.cons (by kernel_rfl) (Sub.cons (by kernel_rfl) (Sub.cons (by kernel_rfl) (Sub.cons (by kernel_rfl) (Sub.cons (by kernel_rfl) (Sub.cons (by kernel_rfl) (Sub.cons (by kernel_rfl) (Sub.cons (by kernel_rfl) (Sub.cons (by kernel_rfl) (Sub.cons (by kernel_rfl) (Sub.cons (by kernel_rfl) (Sub.cons (by kernel_rfl) (Sub.cons (by kernel_rfl) (Sub.cons (by kernel_rfl) (Sub.cons (by kernel_rfl) (Sub.cons (by kernel_rfl) (Sub.cons (by kernel_rfl) (Sub.cons (by kernel_rfl) (Sub.cons (by kernel_rfl) (Sub.cons (by kernel_rfl) (Sub.cons (by kernel_rfl) (Sub.cons (by kernel_rfl) (Sub.nil))))))))))))))))))))))))))))))))))))))))))) ?_
      show JQ _ _ _ [(107, U32 vh), (108, U32 ve), (109, U32 (rotr ve 6)), (110, U32 ve), (111, U32 (rotr ve 11)), (112, U32 ((rotr ve 6) ^^^ (rotr ve 11))), (113, U32 ve), (114, U32 (rotr ve 25)), (115, U32 (((rotr ve 6) ^^^ (rotr ve 11)) ^^^ (rotr ve 25))), (116, U32 (vh + (((rotr ve 6) ^^^ (rotr ve 11)) ^^^ (rotr ve 25)))), (117, U32 ve), (118, U32 vf), (119, U32 (ve &&& vf)), (120, U32 ve), (121, U32 (~~~ve)), (122, U32 vg), (123, U32 ((~~~ve) &&& vg)), (124, U32 ((ve &&& vf) ^^^ ((~~~ve) &&& vg))), (125, U32 ((vh + (((rotr ve 6) ^^^ (rotr ve 11)) ^^^ (rotr ve 25))) + ((ve &&& vf) ^^^ ((~~~ve) &&& vg)))), (126, I64 ((r:Int))), (127, Ptr 0 r), (128, U32 (g32 constL r)), (129, U32 (((vh + (((rotr ve 6) ^^^ (rotr ve 11)) ^^^ (rotr ve 25))) + ((ve &&& vf) ^^^ ((~~~ve) &&& vg))) + (g32 constL r))), (130, I64 ((r:Int))), (131, Ptr nb3 r), (132, U32 (g32 ww r)), (133, U32 ((((vh + (((rotr ve 6) ^^^ (rotr ve 11)) ^^^ (rotr ve 25))) + ((ve &&& vf) ^^^ ((~~~ve) &&& vg))) + (g32 constL r)) + (g32 ww r))), (21, U32 ((((vh + (((rotr ve 6) ^^^ (rotr ve 11)) ^^^ (rotr ve 25))) + ((ve &&& vf) ^^^ ((~~~ve) &&& vg))) + (g32 constL r)) + (g32 ww r))), (2, Ptr nb1 0), (4, Ptr nb2 0), (5, Ptr nb3 0), (20, I64 ((r:Int))), (12, U32 va), (13, U32 vb), (14, U32 vc), (15, U32 vd), (16, U32 ve), (17, U32 vf), (18, U32 vg), (19, U32 vh), (103, I64 ((r:Int))), (104, .bool (decide (((r:Int)) < (64:Int))))] _
      refine JQ_then ?_
      refine JC_seq ?_
      refine JC_region ?_
      refine JL_val _ (Ev_move rfl) rfl ?_
      refine JL_step (Step_callP 87 [U32 va, I64 (2:Int)] (U32 (rotr va 2)) (Cl_func [U32 va, I64 (2:Int)] Tryd.call87 rfl) (fun w1 hw1 => rturn_c va 2 w1 (by omega) (by omega))) rfl ?_
      rintro v1 L1 ⟨rfl, rfl⟩
      show JL _ _ _ _ ((135, U32 (rotr va 2)) :: _) [⟨nb1, cu32 st, 31, (0, 0)⟩, ⟨nb2, cu32 (zr32 8), 31, (0, 0)⟩, ⟨nb3, cu32 ww, 44, (0, 0)⟩]
      refine JL_val _ (Ev_move rfl) rfl ?_
      refine JL_step (Step_callP 87 [U32 va, I64 (13:Int)] (U32 (rotr va 13)) (Cl_func [U32 va, I64 (13:Int)] Tryd.call87 rfl) (fun w1 hw1 => rturn_c va 13 w1 (by omega) (by omega))) rfl ?_
      rintro v1 L1 ⟨rfl, rfl⟩
      show JL _ _ _ _ ((137, U32 (rotr va 13)) :: _) [⟨nb1, cu32 st, 31, (0, 0)⟩, ⟨nb2, cu32 (zr32 8), 31, (0, 0)⟩, ⟨nb3, cu32 ww, 44, (0, 0)⟩]
      refine JL_val (U32 ((rotr va 2) ^^^ (rotr va 13))) (Ev_bini rfl rfl fun _ => bin_xor_u32 (rotr va 2) (rotr va 13)) rfl ?_
      refine JL_val _ (Ev_move rfl) rfl ?_
      refine JL_step (Step_callP 87 [U32 va, I64 (22:Int)] (U32 (rotr va 22)) (Cl_func [U32 va, I64 (22:Int)] Tryd.call87 rfl) (fun w1 hw1 => rturn_c va 22 w1 (by omega) (by omega))) rfl ?_
      rintro v1 L1 ⟨rfl, rfl⟩
      show JL _ _ _ _ ((140, U32 (rotr va 22)) :: _) [⟨nb1, cu32 st, 31, (0, 0)⟩, ⟨nb2, cu32 (zr32 8), 31, (0, 0)⟩, ⟨nb3, cu32 ww, 44, (0, 0)⟩]
      refine JL_val (U32 (((rotr va 2) ^^^ (rotr va 13)) ^^^ (rotr va 22))) (Ev_bini rfl rfl fun _ => bin_xor_u32 ((rotr va 2) ^^^ (rotr va 13)) (rotr va 22)) rfl ?_
      refine JL_val _ (Ev_move rfl) rfl ?_
      refine JL_val _ (Ev_move rfl) rfl ?_
      refine JL_val (U32 (va &&& vb)) (Ev_bini rfl rfl fun _ => bin_and_u32 va vb) rfl ?_
      refine JL_val _ (Ev_move rfl) rfl ?_
      refine JL_val _ (Ev_move rfl) rfl ?_
      refine JL_val (U32 (va &&& vc)) (Ev_bini rfl rfl fun _ => bin_and_u32 va vc) rfl ?_
      refine JL_val (U32 ((va &&& vb) ^^^ (va &&& vc))) (Ev_bini rfl rfl fun _ => bin_xor_u32 (va &&& vb) (va &&& vc)) rfl ?_
      refine JL_val _ (Ev_move rfl) rfl ?_
      refine JL_val _ (Ev_move rfl) rfl ?_
      refine JL_val (U32 (vb &&& vc)) (Ev_bini rfl rfl fun _ => bin_and_u32 vb vc) rfl ?_
      refine JL_val (U32 (((va &&& vb) ^^^ (va &&& vc)) ^^^ (vb &&& vc))) (Ev_bini rfl rfl fun _ => bin_xor_u32 ((va &&& vb) ^^^ (va &&& vc)) (vb &&& vc)) rfl ?_
      refine JL_val (U32 ((((rotr va 2) ^^^ (rotr va 13)) ^^^ (rotr va 22)) + (((va &&& vb) ^^^ (va &&& vc)) ^^^ (vb &&& vc)))) (Ev_bini rfl rfl fun _ => bin_add_u32 (((rotr va 2) ^^^ (rotr va 13)) ^^^ (rotr va 22)) (((va &&& vb) ^^^ (va &&& vc)) ^^^ (vb &&& vc))) rfl ?_
      refine JL_val _ (Ev_assign rfl) rfl ?_
      refine JL_nil ?_
      refine JQ_then ?_
      refine JC_seq ?_
      refine JC_region ?_
      refine JL_val _ (Ev_move rfl) rfl ?_
      refine JL_val _ (Ev_assign rfl) rfl ?_
      refine JL_nil ?_
      refine JQ_then ?_
      refine JC_seq ?_
      refine JC_region ?_
      refine JL_val _ (Ev_move rfl) rfl ?_
      refine JL_val _ (Ev_assign rfl) rfl ?_
      refine JL_nil ?_
      refine JQ_then ?_
      refine JC_seq ?_
      refine JC_region ?_
      refine JL_val _ (Ev_move rfl) rfl ?_
      refine JL_val _ (Ev_assign rfl) rfl ?_
      refine JL_nil ?_
      refine JQ_then ?_
      refine JC_seq ?_
      refine JC_region ?_
      refine JL_val _ (Ev_move rfl) rfl ?_
      refine JL_val _ (Ev_move rfl) rfl ?_
      refine JL_val (U32 (vd + ((((vh + (((rotr ve 6) ^^^ (rotr ve 11)) ^^^ (rotr ve 25))) + ((ve &&& vf) ^^^ ((~~~ve) &&& vg))) + (g32 constL r)) + (g32 ww r)))) (Ev_bini rfl rfl fun _ => bin_add_u32 vd ((((vh + (((rotr ve 6) ^^^ (rotr ve 11)) ^^^ (rotr ve 25))) + ((ve &&& vf) ^^^ ((~~~ve) &&& vg))) + (g32 constL r)) + (g32 ww r))) rfl ?_
      refine JL_val _ (Ev_assign rfl) rfl ?_
      refine JL_nil ?_
      refine JQ_then ?_
      refine JC_seq ?_
      refine JC_region ?_
      refine JL_val _ (Ev_move rfl) rfl ?_
      refine JL_val _ (Ev_assign rfl) rfl ?_
      refine JL_nil ?_
      refine JQ_then ?_
      refine JC_seq ?_
      refine JC_region ?_
      refine JL_val _ (Ev_move rfl) rfl ?_
      refine JL_val _ (Ev_assign rfl) rfl ?_
      refine JL_nil ?_
      refine JQ_then ?_
      refine JC_seq ?_
      refine JC_region ?_
      refine JL_val _ (Ev_move rfl) rfl ?_
      refine JL_val _ (Ev_assign rfl) rfl ?_
      refine JL_nil ?_
      refine JQ_then ?_
      refine JC_region ?_
      refine JL_val _ (Ev_move rfl) rfl ?_
      refine JL_val _ (Ev_move rfl) rfl ?_
      refine JL_val (U32 (((((vh + (((rotr ve 6) ^^^ (rotr ve 11)) ^^^ (rotr ve 25))) + ((ve &&& vf) ^^^ ((~~~ve) &&& vg))) + (g32 constL r)) + (g32 ww r)) + ((((rotr va 2) ^^^ (rotr va 13)) ^^^ (rotr va 22)) + (((va &&& vb) ^^^ (va &&& vc)) ^^^ (vb &&& vc))))) (Ev_bini rfl rfl fun _ => bin_add_u32 ((((vh + (((rotr ve 6) ^^^ (rotr ve 11)) ^^^ (rotr ve 25))) + ((ve &&& vf) ^^^ ((~~~ve) &&& vg))) + (g32 constL r)) + (g32 ww r)) ((((rotr va 2) ^^^ (rotr va 13)) ^^^ (rotr va 22)) + (((va &&& vb) ^^^ (va &&& vc)) ^^^ (vb &&& vc)))) rfl ?_
      refine JL_val _ (Ev_assign rfl) rfl ?_
      refine JL_nil ?_
      refine JQ_in_normal ?_
      refine JQ_then ?_
      refine JC_region ?_
      refine JL_val _ (Ev_move rfl) rfl ?_
      refine JL_val (I64 ((r:Int) + 1)) (Ev_bini rfl rfl fun _ => bin_add_i _ _ ((r:Int) + 1) (by omega) (by omega)) rfl ?_
      refine JL_val _ (Ev_assign rfl) rfl ?_
      refine JL_nil ?_
      refine JQ_thenK ?_
      refine K_next (r + 1, ((((vh + (((rotr ve 6) ^^^ (rotr ve 11)) ^^^ (rotr ve 25))) + ((ve &&& vf) ^^^ ((~~~ve) &&& vg))) + (g32 constL r)) + (g32 ww r)) + ((((rotr va 2) ^^^ (rotr va 13)) ^^^ (rotr va 22)) + (((va &&& vb) ^^^ (va &&& vc)) ^^^ (vb &&& vc))), va, vb, vc, vd + ((((vh + (((rotr ve 6) ^^^ (rotr ve 11)) ^^^ (rotr ve 25))) + ((ve &&& vf) ^^^ ((~~~ve) &&& vg))) + (g32 constL r)) + (g32 ww r)), ve, vf, vg) ⟨by omega, by rw [cpN, ← hy2]; rfl⟩ (by first | (simp; omega) | simp) (Sub.cons rfl (Sub.cons rfl (Sub.cons rfl (Sub.cons rfl (Sub.cons rfl (Sub.cons rfl (Sub.cons rfl (Sub.cons rfl (Sub.cons rfl (Sub.cons rfl (Sub.cons rfl (Sub.cons rfl (Sub.nil))))))))))))) rfl
    ·
      have hp4 : ¬ (((r:Int)) < (64:Int)) := of_decide_eq_false hb4
      refine JC_exit ?_
      refine JQ_then_exit ?_
      refine JQ_then_exit ?_
      refine JQ_in_same ?_
      refine JQ_then ?_
      refine JC_seq ?_
      refine JC_region ?_
      refine JL_val (Ptr nb1 0) (Ev_indexArr 8 30 1 0 Tryd.underlying31 Tryd.sizeOf30 rfl rfl (by omega) (by omega) (by omega)) rfl ?_
      refine JL_val (U32 (g32 st 0)) (Ev_load rfl (Ld_one Tryd.isAgg30 (MemAt.ent 0 rfl (Seg.get (g32_get (i := 0) (by rw [hs0]; omega)))))) rfl ?_
      refine JL_val _ (Ev_move rfl) rfl ?_
      refine JL_val (U32 ((g32 st 0) + va)) (Ev_bini rfl rfl fun _ => bin_add_u32 (g32 st 0) va) rfl ?_
      refine JL_val (Ptr nb1 1) (Ev_indexArr 8 30 1 1 Tryd.underlying31 Tryd.sizeOf30 rfl rfl (by omega) (by omega) (by omega)) rfl ?_
      refine JL_val (U32 (g32 st 1)) (Ev_load rfl (Ld_one Tryd.isAgg30 (MemAt.ent 0 rfl (Seg.get (g32_get (i := 1) (by rw [hs0]; omega)))))) rfl ?_
      refine JL_val _ (Ev_move rfl) rfl ?_
      refine JL_val (U32 ((g32 st 1) + vb)) (Ev_bini rfl rfl fun _ => bin_add_u32 (g32 st 1) vb) rfl ?_
      refine JL_val (Ptr nb1 2) (Ev_indexArr 8 30 1 2 Tryd.underlying31 Tryd.sizeOf30 rfl rfl (by omega) (by omega) (by omega)) rfl ?_
      refine JL_val (U32 (g32 st 2)) (Ev_load rfl (Ld_one Tryd.isAgg30 (MemAt.ent 0 rfl (Seg.get (g32_get (i := 2) (by rw [hs0]; omega)))))) rfl ?_
      refine JL_val _ (Ev_move rfl) rfl ?_
      refine JL_val (U32 ((g32 st 2) + vc)) (Ev_bini rfl rfl fun _ => bin_add_u32 (g32 st 2) vc) rfl ?_
      refine JL_val (Ptr nb1 3) (Ev_indexArr 8 30 1 3 Tryd.underlying31 Tryd.sizeOf30 rfl rfl (by omega) (by omega) (by omega)) rfl ?_
      refine JL_val (U32 (g32 st 3)) (Ev_load rfl (Ld_one Tryd.isAgg30 (MemAt.ent 0 rfl (Seg.get (g32_get (i := 3) (by rw [hs0]; omega)))))) rfl ?_
      refine JL_val _ (Ev_move rfl) rfl ?_
      refine JL_val (U32 ((g32 st 3) + vd)) (Ev_bini rfl rfl fun _ => bin_add_u32 (g32 st 3) vd) rfl ?_
      refine JL_val (Ptr nb1 4) (Ev_indexArr 8 30 1 4 Tryd.underlying31 Tryd.sizeOf30 rfl rfl (by omega) (by omega) (by omega)) rfl ?_
      refine JL_val (U32 (g32 st 4)) (Ev_load rfl (Ld_one Tryd.isAgg30 (MemAt.ent 0 rfl (Seg.get (g32_get (i := 4) (by rw [hs0]; omega)))))) rfl ?_
      refine JL_val _ (Ev_move rfl) rfl ?_
      refine JL_val (U32 ((g32 st 4) + ve)) (Ev_bini rfl rfl fun _ => bin_add_u32 (g32 st 4) ve) rfl ?_
      refine JL_val (Ptr nb1 5) (Ev_indexArr 8 30 1 5 Tryd.underlying31 Tryd.sizeOf30 rfl rfl (by omega) (by omega) (by omega)) rfl ?_
      refine JL_val (U32 (g32 st 5)) (Ev_load rfl (Ld_one Tryd.isAgg30 (MemAt.ent 0 rfl (Seg.get (g32_get (i := 5) (by rw [hs0]; omega)))))) rfl ?_
      refine JL_val _ (Ev_move rfl) rfl ?_
      refine JL_val (U32 ((g32 st 5) + vf)) (Ev_bini rfl rfl fun _ => bin_add_u32 (g32 st 5) vf) rfl ?_
      refine JL_val (Ptr nb1 6) (Ev_indexArr 8 30 1 6 Tryd.underlying31 Tryd.sizeOf30 rfl rfl (by omega) (by omega) (by omega)) rfl ?_
      refine JL_val (U32 (g32 st 6)) (Ev_load rfl (Ld_one Tryd.isAgg30 (MemAt.ent 0 rfl (Seg.get (g32_get (i := 6) (by rw [hs0]; omega)))))) rfl ?_
      refine JL_val _ (Ev_move rfl) rfl ?_
      refine JL_val (U32 ((g32 st 6) + vg)) (Ev_bini rfl rfl fun _ => bin_add_u32 (g32 st 6) vg) rfl ?_
      refine JL_val (Ptr nb1 7) (Ev_indexArr 8 30 1 7 Tryd.underlying31 Tryd.sizeOf30 rfl rfl (by omega) (by omega) (by omega)) rfl ?_
      refine JL_val (U32 (g32 st 7)) (Ev_load rfl (Ld_one Tryd.isAgg30 (MemAt.ent 0 rfl (Seg.get (g32_get (i := 7) (by rw [hs0]; omega)))))) rfl ?_
      refine JL_val _ (Ev_move rfl) rfl ?_
      refine JL_val (U32 ((g32 st 7) + vh)) (Ev_bini rfl rfl fun _ => bin_add_u32 (g32 st 7) vh) rfl ?_
      refine JL_val (.agg (cu32 ([(g32 st 0) + va, (g32 st 1) + vb, (g32 st 2) + vc, (g32 st 3) + vd, (g32 st 4) + ve, (g32 st 5) + vf, (g32 st 6) + vg, (g32 st 7) + vh])).toArray) (Ev_build [(0, U32 ((g32 st 0) + va)), (1, U32 ((g32 st 1) + vb)), (2, U32 ((g32 st 2) + vc)), (3, U32 ((g32 st 3) + vd)), (4, U32 ((g32 st 4) + ve)), (5, U32 ((g32 st 5) + vf)), (6, U32 ((g32 st 6) + vg)), (7, U32 ((g32 st 7) + vh))] _ rfl (fun _ => by kernel_rfl)) rfl ?_
      refine JL_step (Step_store 1 nb2 0 8 (cu32 (zr32 8)) 31 (.agg (cu32 ([(g32 st 0) + va, (g32 st 1) + vb, (g32 st 2) + vc, (g32 st 3) + vd, (g32 st 4) + ve, (g32 st 5) + vf, (g32 st 6) + vg, (g32 st 7) + vh])).toArray) (cu32 ([(g32 st 0) + va, (g32 st 1) + vb, (g32 st 2) + vc, (g32 st 3) + vd, (g32 st 4) + ve, (g32 st 5) + vf, (g32 st 6) + vg, (g32 st 7) + vh])) (cu32 ([(g32 st 0) + va, (g32 st 1) + vb, (g32 st 2) + vc, (g32 st 3) + vd, (g32 st 4) + ve, (g32 st 5) + vf, (g32 st 6) + vg, (g32 st 7) + vh])) rfl rfl rfl (by first | rfl | simp) Tryd.sizeOf31 (by simp []) (by first | exact one_u8 | exact one_u32 | exact one_u64 | (simp [cu8, cu32, cu64, Value.oneCell']; done)) (by simp [(zr32_len 8)]) (lay_whole (by simp [(zr32_len 8)]))) rfl ?_
      rintro v1 L1 ⟨rfl, rfl⟩
      show JL _ _ _ _ _ [⟨nb1, cu32 st, 31, (0, 0)⟩, ⟨nb2, cu32 ([(g32 st 0) + va, (g32 st 1) + vb, (g32 st 2) + vc, (g32 st 3) + vd, (g32 st 4) + ve, (g32 st 5) + vf, (g32 st 6) + vg, (g32 st 7) + vh]), 31, (0, 0)⟩, ⟨nb3, cu32 ww, 44, (0, 0)⟩]
      refine JL_nil ?_
      refine JQ_then ?_
      refine JC_ret ?_
      refine JQ_ret (.agg (cu32 ([(g32 st 0) + va, (g32 st 1) + vb, (g32 st 2) + vc, (g32 st 3) + vd, (g32 st 4) + ve, (g32 st 5) + vf, (g32 st 6) + vg, (g32 st 7) + vh])).toArray) (res1 Tryd.results29 (RV_cell rfl (Ld_agg Tryd.isAgg31 Tryd.sizeOf31 (by simp []) (MemAt.ent 1 rfl (Seg.whole _))))) fun w1 hw1 => ?_
      have e1 : t = 64 := by omega
      have e2 : r = 64 := by omega
      subst e1; subst e2
      have e3 : cpN constL st (spreadL blk) 64 = [va, vb, vc, vd, ve, vf, vg, vh] := by rw [spreadL, ← hx2]; exact hy2.symm
      refine ⟨_, [], rfl, ⟨?_, rfl⟩, hw1.sub (by simp) (by simp)⟩
      rw [comprL_eq hs0 _ _ _ _ _ _ _ _ e3]

end Go.Proofs.YtncoifiafklkjaaDoor
