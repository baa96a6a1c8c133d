import Derived.MakeChecks
import Derived.Laws.StructEq
import Derived.Test.YtncoifiafklkjaaDoorPkApart1
namespace Go.Proofs.YtncoifiafklkjaaDoor
open Go Go.Sx
set_option linter.unusedVariables false
set_option linter.unusedSimpArgs false
set_option maxRecDepth 100000
attribute [local irreducible] mid zr8 zr32 rotr wordL spreadL comprL cpN adN spN constL initL
theorem spread_c (blk : List UInt8) (w : World) (hb : blk.length = 64) : Calls Tryd.prog 85 #[.agg (cu8 blk).toArray] w (Post w [] (fun v L => v = .agg (cu32 (spreadL blk)).toArray ∧ L = [])) := by
  refine enter w [] 60 [] [.agg (cu8 blk).toArray] Tryd.func85 rfl rfl (by simp) (Hp.start (by simp) (by simp) (by simp)) ?_
  show JC _ _ _ [(0, .agg (cu8 blk).toArray)] _
  refine JC_seq ?_
  refine JC_region ?_
  refine JL_step (Step_box (.agg (cu8 blk).toArray) (cu8 blk) rfl (by first | rfl | simp)) rfl ?_
  rintro v1 L1 ⟨nb1, hnb1, rfl, rfl⟩
  show JL _ _ _ _ ((1, Ptr nb1 0) :: _) [⟨nb1, cu8 blk, 32, (0, 0)⟩]
  refine JL_step (Step_alloc _ (cu32 (zr32 64)) Tryd.zeroValue44 (by kernel_rfl)) rfl ?_
  rintro v1 L1 ⟨nb2, hnb2, rfl, rfl⟩
  show JL _ _ _ _ ((2, Ptr nb2 0) :: _) [⟨nb1, cu8 blk, 32, (0, 0)⟩, ⟨nb2, cu32 (zr32 64), 44, (0, 0)⟩]
  refine JL_nil ?_
  refine JQ_then ?_
  refine JC_seq ?_
  refine JC_region ?_
  refine JL_step (Step_alloc _ (cu32 (zr32 64)) Tryd.zeroValue44 (by kernel_rfl)) rfl ?_
  rintro v1 L1 ⟨nb3, hnb3, rfl, rfl⟩
  show JL _ _ _ _ ((3, Ptr nb3 0) :: _) [⟨nb1, cu8 blk, 32, (0, 0)⟩, ⟨nb2, cu32 (zr32 64), 44, (0, 0)⟩, ⟨nb3, cu32 (zr32 64), 44, (0, 0)⟩]
  refine JL_nil ?_
  refine JQ_then ?_
  refine JC_seq ?_
  refine JC_seq ?_
  refine JC_region ?_
  refine JL_val _ (Ev_move rfl) rfl ?_
  refine JL_nil ?_
  refine JQ_then ?_
  refine JC_block ?_
  refine JC_loop (ι := Nat × List UInt32) (fun ⟨t, ww⟩ => [(1, Ptr nb1 0), (2, Ptr nb2 0), (3, Ptr nb3 0), (7, I64 ((t:Int)))]) (fun ⟨t, ww⟩ => [⟨nb1, cu8 blk, 32, (0, 0)⟩, ⟨nb2, cu32 (zr32 64), 44, (0, 0)⟩, ⟨nb3, cu32 ww, 44, (0, 0)⟩]) (fun ⟨t, ww⟩ => t ≤ 64 ∧ ww = spN blk t ∧ ww.length = 64) (fun ⟨t, ww⟩ => 64 - t) (0, zr32 64) ⟨by omega, by rw [spN], zr32_len 64⟩ (Sub.cons rfl (Sub.cons rfl (Sub.cons rfl (Sub.cons rfl (Sub.nil))))) rfl ?_
  rintro ⟨t, ww⟩ ⟨hx1, hx2, hw⟩
  show JC _ _ _ [(1, Ptr nb1 0), (2, Ptr nb2 0), (3, Ptr nb3 0), (7, I64 ((t:Int)))] [⟨nb1, cu8 blk, 32, (0, 0)⟩, ⟨nb2, cu32 (zr32 64), 44, (0, 0)⟩, ⟨nb3, cu32 ww, 44, (0, 0)⟩]
  refine JC_seq ?_
  refine JC_region ?_
  refine JL_val (.bool (decide (((t:Int)) < (64:Int)))) (Ev_bini rfl rfl fun _ => bin_lss_i _ _) rfl ?_
  refine JL_nil ?_
  refine JQ_then ?_
  refine JC_seq ?_
  refine JC_cond (decide (((t:Int)) < (64:Int))) rfl (fun hb1 => ?_) (fun hb1 => ?_)
  ·
    have hp1 : ((t:Int)) < (64:Int) := of_decide_eq_true hb1
    refine JC_skip ?_
    refine JQ_then ?_
    refine JC_seq ?_
    refine JC_block ?_
    refine JC_seq ?_
    refine JC_region ?_
    refine JL_val _ (Ev_move rfl) rfl ?_
    refine JL_val _ (Ev_assign rfl) rfl ?_
    refine JL_nil ?_
    refine JQ_then ?_
    refine JC_seq ?_
    refine JC_seq ?_
    refine JC_region ?_
    refine JL_val _ (Ev_move rfl) rfl ?_
    refine JL_val (.bool (decide (((t:Int)) < (16:Int)))) (Ev_bini rfl rfl fun _ => bin_lss_i _ _) rfl ?_
    refine JL_nil ?_
    refine JQ_then ?_
    refine JC_cond (decide (((t:Int)) < (16:Int))) rfl (fun hb2 => ?_) (fun hb2 => ?_)
    ·
      have hp2 : ((t:Int)) < (16:Int) := of_decide_eq_true hb2
      refine JC_seq ?_
      refine JC_region ?_
      refine JL_val _ (Ev_move rfl) rfl ?_
      refine JL_val _ (Ev_move rfl) rfl ?_
      refine JL_val (I64 (4*(t:Int))) (Ev_bini rfl rfl fun _ => bin_mul_i _ _ (4*(t:Int)) (by omega) (by omega)) rfl ?_
      refine JL_val _ (Ev_move rfl) rfl ?_
      refine JL_val (I64 (4*(t:Int))) (Ev_bini rfl rfl fun _ => bin_mul_i _ _ (4*(t:Int)) (by omega) (by omega)) rfl ?_
      refine JL_val (I64 (4*(t:Int) + 4)) (Ev_bini rfl rfl fun _ => bin_add_i _ _ (4*(t:Int) + 4) (by omega) (by omega)) rfl ?_
      refine JL_val (Slc nb1 (4*t) 4 (64 - 4*t)) (Ev_sliceA 64 5 1 (4*t) (4*t + 4) (4*t) (64 - 4*t) Tryd.underlying32 Tryd.sizeOf5 rfl (some_i64 (by omega)) (some_i64 (by omega)) (by omega) (by omega) (by omega) (by omega) (by omega) 4 (by omega)) rfl ?_
      have hl1 : (mid blk (4*t) 4).length = 4 := mid_len (by rw [hb]; omega)
      refine JL_step (Step_callP 114 [Slc nb1 (4*t) 4 (64 - 4*t)] (U32 (wordL (mid blk (4*t) 4))) (Cl_func [Slc nb1 (4*t) 4 (64 - 4*t)] Tryd.call114 rfl) (fun w1 hw1 => word_c (some ⟨nb1, (4*t), none⟩) (64 - 4*t) (mid blk (4*t) 4) w1 hl1 (RdB.of hw1 (MemAt.ent 0 rfl (segm_u8 (4*t) 4 (by rw [hb]; omega))) (by simp)))) rfl ?_
      rintro v1 L1 ⟨rfl, rfl⟩
      show JL _ _ _ _ ((19, U32 (wordL (mid blk (4*t) 4))) :: _) [⟨nb1, cu8 blk, 32, (0, 0)⟩, ⟨nb2, cu32 (zr32 64), 44, (0, 0)⟩, ⟨nb3, cu32 ww, 44, (0, 0)⟩]
      refine JL_val (Ptr nb3 t) (Ev_indexArr 64 30 1 t Tryd.underlying44 Tryd.sizeOf30 rfl rfl (by omega) (by omega) (by omega)) rfl ?_
      have hl2 : (ww.set t (wordL (mid blk (4*t) 4))).length = 64 := by simp [hw]
      refine JL_step (Step_store 2 nb3 t 1 (cu32 ww) 44 (U32 (wordL (mid blk (4*t) 4))) ([U32 (wordL (mid blk (4*t) 4))]) (cu32 (ww.set t (wordL (mid blk (4*t) 4)))) rfl rfl rfl rfl Tryd.sizeOf30 rfl (by simp [Value.oneCell']) (by simp [hw]; try omega) (lay32 _ _ _ (by rw [hw]; omega))) rfl ?_
      rintro v1 L1 ⟨rfl, rfl⟩
      show JL _ _ _ _ _ [⟨nb1, cu8 blk, 32, (0, 0)⟩, ⟨nb2, cu32 (zr32 64), 44, (0, 0)⟩, ⟨nb3, cu32 (ww.set t (wordL (mid blk (4*t) 4))), 44, (0, 0)⟩]
      refine JL_nil ?_
      refine JQ_then ?_
      refine JC_exit ?_
      refine JQ_then_exit ?_
      refine JQ_in_same ?_
      refine JQ_then ?_
      refine JC_region ?_
      refine JL_val (I64 ((t:Int) + 1)) (Ev_bini rfl rfl fun _ => bin_add_i _ _ ((t:Int) + 1) (by omega) (by omega)) rfl ?_
      refine JL_val _ (Ev_move rfl) rfl ?_
      refine JL_nil ?_
      refine JQ_thenK ?_
      refine K_next (t + 1, ww.set t (wordL (mid blk (4*t) 4))) ⟨by omega, by rw [spN, spS, if_pos (by omega), ← hx2], hl2⟩ (by first | (simp; omega) | simp) (Sub.cons rfl (Sub.cons rfl (Sub.cons rfl (Sub.cons rfl (Sub.nil))))) rfl
    ·
      have hp2 : ¬ (((t:Int)) < (16:Int)) := of_decide_eq_false hb2
      refine JC_skip ?_
      refine JQ_then ?_
      refine JC_seq ?_
      refine JC_draw 60 1 [(0, I64 ((t:Int))), (1, I64 ((t:Int) - 15)), (2, Ptr nb3 (t - 15)), (3, U32 (g32 ww (t - 15))), (4, I64 ((t:Int))), (5, I64 ((t:Int) - 2)), (6, Ptr nb3 (t - 2)), (7, U32 (g32 ww (t - 2))), (8, U32 (g32 ww (t - 15))), (9, U32 (g32 ww (t - 2)))] Tryd.mixed rfl (by decide +kernel) ?_
      refine DP_end ⟨[], [0, 1, 2, 3, 4, 5, 6, 7, 8, 9], [], [0, 1, 2, 3, 4, 5, 6, 7, 8, 9], []⟩ rfl rfl (by decide +kernel) rfl ⟨⟨_, rfl, Qok_val rfl (Ev_move rfl)⟩, ⟨_, rfl, Qok_val rfl (Ev_bini rfl rfl fun _ => bin_sub_i _ _ ((t:Int) - 15) (by omega) (by omega))⟩, ⟨_, rfl, Qok_val rfl (Ev_indexArr 64 30 1 (t - 15) Tryd.underlying44 Tryd.sizeOf30 rfl rfl (by omega) (by omega) (by omega))⟩, ⟨_, rfl, Qok_val rfl (Ev_load rfl (Ld_one Tryd.isAgg30 (MemAt.ent 2 rfl (Seg.get (g32_get (i := (t - 15)) (by rw [hw]; omega))))))⟩, ⟨_, rfl, Qok_val rfl (Ev_move rfl)⟩, ⟨_, rfl, Qok_val rfl (Ev_bini rfl rfl fun _ => bin_sub_i _ _ ((t:Int) - 2) (by omega) (by omega))⟩, ⟨_, rfl, Qok_val rfl (Ev_indexArr 64 30 1 (t - 2) Tryd.underlying44 Tryd.sizeOf30 rfl rfl (by omega) (by omega) (by omega))⟩, ⟨_, rfl, Qok_val rfl (Ev_load rfl (Ld_one Tryd.isAgg30 (MemAt.ent 2 rfl (Seg.get (g32_get (i := (t - 2)) (by rw [hw]; omega))))))⟩, ⟨_, rfl, Qok_val rfl (Ev_assign rfl)⟩, ⟨_, rfl, Qok_val rfl (Ev_assign rfl)⟩, trivial⟩ ?_
      refine K_sub (F' := [(21, I64 ((t:Int))), (22, I64 ((t:Int) - 15)), (23, Ptr nb3 (t - 15)), (24, U32 (g32 ww (t - 15))), (25, I64 ((t:Int))), (26, I64 ((t:Int) - 2)), (27, Ptr nb3 (t - 2)), (28, U32 (g32 ww (t - 2))), (5, U32 (g32 ww (t - 15))), (6, U32 (g32 ww (t - 2))), (1, Ptr nb1 0), (2, Ptr nb2 0), (3, Ptr nb3 0), (7, I64 ((t:Int))), (8, .bool (decide (((t:Int)) < (64:Int)))), (9, I64 ((t:Int))), (4, I64 ((t:Int))), (10, I64 ((t:Int))), (11, .bool (decide (((t:Int)) < (16:Int))))]) (Sub.cons (by kernel_rfl) (Sub.cons (by kernel_rfl) (Sub.cons (by kernel_rfl) (Sub.cons (by kernel_rfl) (Sub.cons (by kernel_rfl) (Sub.cons (by kernel_rfl) (Sub.cons (by kernel_rfl) (Sub.cons (by kernel_rfl) (Sub.cons (by kernel_rfl) (Sub.cons (by kernel_rfl) (Sub.cons (by kernel_rfl) (Sub.cons (by kernel_rfl) (Sub.cons (by kernel_rfl) (Sub.cons (by kernel_rfl) (Sub.cons (by kernel_rfl) (Sub.cons (by kernel_rfl) (Sub.cons (by kernel_rfl) (Sub.cons (by kernel_rfl) (Sub.cons (by kernel_rfl) (Sub.nil)))))))))))))))))))) ?_
      show JQ _ _ _ [(21, I64 ((t:Int))), (22, I64 ((t:Int) - 15)), (23, Ptr nb3 (t - 15)), (24, U32 (g32 ww (t - 15))), (25, I64 ((t:Int))), (26, I64 ((t:Int) - 2)), (27, Ptr nb3 (t - 2)), (28, U32 (g32 ww (t - 2))), (5, U32 (g32 ww (t - 15))), (6, U32 (g32 ww (t - 2))), (1, Ptr nb1 0), (2, Ptr nb2 0), (3, Ptr nb3 0), (7, I64 ((t:Int))), (8, .bool (decide (((t:Int)) < (64:Int)))), (9, I64 ((t:Int))), (4, I64 ((t:Int))), (10, I64 ((t:Int))), (11, .bool (decide (((t:Int)) < (16:Int))))] _
      refine JQ_then ?_
      refine JC_draw 60 6 [(0, I64 ((t:Int))), (1, I64 ((t:Int))), (2, I64 ((t:Int) - 16)), (3, Ptr nb3 (t - 16)), (4, U32 (g32 ww (t - 16))), (5, U32 (g32 ww (t - 15))), (7, U32 (g32 ww (t - 15))), (10, U32 (g32 ww (t - 15))), (11, U32 ((g32 ww (t - 15)) >>> (3:UInt32))), (14, I64 ((t:Int))), (15, I64 ((t:Int) - 7)), (16, Ptr nb3 (t - 7)), (17, U32 (g32 ww (t - 7))), (19, U32 (g32 ww (t - 2))), (21, U32 (g32 ww (t - 2))), (24, U32 (g32 ww (t - 2))), (25, U32 ((g32 ww (t - 2)) >>> (10:UInt32)))] Tryd.mixed rfl (by decide +kernel) ?_
      refine DP_one ⟨[], [0, 1, 2, 3, 4, 5, 7, 10, 11, 14, 15, 16, 17, 19, 21, 24, 25], [], [0, 1, 2, 3, 4, 5, 7, 10, 11, 14, 15, 16, 17, 19, 21, 24, 25], [6]⟩ 6 _ rfl rfl (by decide +kernel) rfl ⟨⟨_, rfl, Qok_val rfl (Ev_move rfl)⟩, ⟨_, rfl, Qok_val rfl (Ev_move rfl)⟩, ⟨_, rfl, Qok_val rfl (Ev_bini rfl rfl fun _ => bin_sub_i _ _ ((t:Int) - 16) (by omega) (by omega))⟩, ⟨_, rfl, Qok_val rfl (Ev_indexArr 64 30 1 (t - 16) Tryd.underlying44 Tryd.sizeOf30 rfl rfl (by omega) (by omega) (by omega))⟩, ⟨_, rfl, Qok_val rfl (Ev_load rfl (Ld_one Tryd.isAgg30 (MemAt.ent 2 rfl (Seg.get (g32_get (i := (t - 16)) (by rw [hw]; omega))))))⟩, ⟨_, rfl, Qok_val rfl (Ev_move rfl)⟩, ⟨_, rfl, Qok_val rfl (Ev_move rfl)⟩, ⟨_, rfl, Qok_val rfl (Ev_move rfl)⟩, ⟨_, rfl, Qok_val rfl (Ev_bini rfl rfl fun _ => bin_shr_u32 (g32 ww (t - 15)) _ _ 3 (by decide) rfl)⟩, ⟨_, rfl, Qok_val rfl (Ev_move rfl)⟩, ⟨_, rfl, Qok_val rfl (Ev_bini rfl rfl fun _ => bin_sub_i _ _ ((t:Int) - 7) (by omega) (by omega))⟩, ⟨_, rfl, Qok_val rfl (Ev_indexArr 64 30 1 (t - 7) Tryd.underlying44 Tryd.sizeOf30 rfl rfl (by omega) (by omega) (by omega))⟩, ⟨_, rfl, Qok_val rfl (Ev_load rfl (Ld_one Tryd.isAgg30 (MemAt.ent 2 rfl (Seg.get (g32_get (i := (t - 7)) (by rw [hw]; omega))))))⟩, ⟨_, rfl, Qok_val rfl (Ev_move rfl)⟩, ⟨_, rfl, Qok_val rfl (Ev_move rfl)⟩, ⟨_, rfl, Qok_val rfl (Ev_move rfl)⟩, ⟨_, rfl, Qok_val rfl (Ev_bini rfl rfl fun _ => bin_shr_u32 (g32 ww (t - 2)) _ _ 10 (by decide) rfl)⟩, trivial⟩ rfl (Cok_step rfl (Step_callP 86 [U32 (g32 ww (t - 15)), I64 (7:Int)] (U32 (rotr (g32 ww (t - 15)) 7)) (Cl_func [U32 (g32 ww (t - 15)), I64 (7:Int)] Tryd.call86 rfl) (fun w1 hw1 => turn_c (g32 ww (t - 15)) 7 w1 (by omega) (by omega)))) ?_
      rintro v1 L1 ⟨rfl, rfl⟩
      refine ⟨[], ?_⟩
      show DP _ _ _ _ _ _ _ _ [⟨nb1, cu8 blk, 32, (0, 0)⟩, ⟨nb2, cu32 (zr32 64), 44, (0, 0)⟩, ⟨nb3, cu32 ww, 44, (0, 0)⟩]
      refine DP_one ⟨[6], [0, 1, 2, 3, 4, 5, 7, 10, 11, 14, 15, 16, 17, 19, 21, 24, 25], [5], [0, 1, 2, 3, 4, 7, 10, 11, 14, 15, 16, 17, 19, 21, 24, 25], [8]⟩ 8 _ rfl rfl (by decide +kernel) rfl ⟨⟨_, rfl, Qok_val rfl (Ev_move rfl)⟩, ⟨_, rfl, Qok_val rfl (Ev_move rfl)⟩, ⟨_, rfl, Qok_val rfl (Ev_bini rfl rfl fun _ => bin_sub_i _ _ ((t:Int) - 16) (by omega) (by omega))⟩, ⟨_, rfl, Qok_val rfl (Ev_indexArr 64 30 1 (t - 16) Tryd.underlying44 Tryd.sizeOf30 rfl rfl (by omega) (by omega) (by omega))⟩, ⟨_, rfl, Qok_val rfl (Ev_load rfl (Ld_one Tryd.isAgg30 (MemAt.ent 2 rfl (Seg.get (g32_get (i := (t - 16)) (by rw [hw]; omega))))))⟩, ⟨_, rfl, Qok_val rfl (Ev_move rfl)⟩, ⟨_, rfl, Qok_val rfl (Ev_move rfl)⟩, ⟨_, rfl, Qok_val rfl (Ev_bini rfl rfl fun _ => bin_shr_u32 (g32 ww (t - 15)) _ _ 3 (by decide) rfl)⟩, ⟨_, rfl, Qok_val rfl (Ev_move rfl)⟩, ⟨_, rfl, Qok_val rfl (Ev_bini rfl rfl fun _ => bin_sub_i _ _ ((t:Int) - 7) (by omega) (by omega))⟩, ⟨_, rfl, Qok_val rfl (Ev_indexArr 64 30 1 (t - 7) Tryd.underlying44 Tryd.sizeOf30 rfl rfl (by omega) (by omega) (by omega))⟩, ⟨_, rfl, Qok_val rfl (Ev_load rfl (Ld_one Tryd.isAgg30 (MemAt.ent 2 rfl (Seg.get (g32_get (i := (t - 7)) (by rw [hw]; omega))))))⟩, ⟨_, rfl, Qok_val rfl (Ev_move rfl)⟩, ⟨_, rfl, Qok_val rfl (Ev_move rfl)⟩, ⟨_, rfl, Qok_val rfl (Ev_move rfl)⟩, ⟨_, rfl, Qok_val rfl (Ev_bini rfl rfl fun _ => bin_shr_u32 (g32 ww (t - 2)) _ _ 10 (by decide) rfl)⟩, trivial⟩ rfl (Cok_step rfl (Step_callP 86 [U32 (g32 ww (t - 15)), I64 (18:Int)] (U32 (rotr (g32 ww (t - 15)) 18)) (Cl_func [U32 (g32 ww (t - 15)), I64 (18:Int)] Tryd.call86 rfl) (fun w1 hw1 => turn_c (g32 ww (t - 15)) 18 w1 (by omega) (by omega)))) ?_
      rintro v1 L1 ⟨rfl, rfl⟩
      refine ⟨[(9, U32 ((rotr (g32 ww (t - 15)) 7) ^^^ (rotr (g32 ww (t - 15)) 18))), (12, U32 (((rotr (g32 ww (t - 15)) 7) ^^^ (rotr (g32 ww (t - 15)) 18)) ^^^ ((g32 ww (t - 15)) >>> (3:UInt32)))), (13, U32 ((g32 ww (t - 16)) + (((rotr (g32 ww (t - 15)) 7) ^^^ (rotr (g32 ww (t - 15)) 18)) ^^^ ((g32 ww (t - 15)) >>> (3:UInt32))))), (18, U32 (((g32 ww (t - 16)) + (((rotr (g32 ww (t - 15)) 7) ^^^ (rotr (g32 ww (t - 15)) 18)) ^^^ ((g32 ww (t - 15)) >>> (3:UInt32)))) + (g32 ww (t - 7))))], ?_⟩
      show DP _ _ _ _ _ _ _ _ [⟨nb1, cu8 blk, 32, (0, 0)⟩, ⟨nb2, cu32 (zr32 64), 44, (0, 0)⟩, ⟨nb3, cu32 ww, 44, (0, 0)⟩]
      refine DP_one ⟨[6, 8], [0, 1, 2, 3, 4, 5, 7, 9, 10, 11, 12, 13, 14, 15, 16, 17, 18, 19, 21, 24, 25], [5, 7], [0, 1, 2, 3, 4, 9, 10, 11, 12, 13, 14, 15, 16, 17, 18, 19, 21, 24, 25], [20]⟩ 20 _ rfl rfl (by decide +kernel) rfl ⟨⟨_, rfl, Qok_val rfl (Ev_move rfl)⟩, ⟨_, rfl, Qok_val rfl (Ev_move rfl)⟩, ⟨_, rfl, Qok_val rfl (Ev_bini rfl rfl fun _ => bin_sub_i _ _ ((t:Int) - 16) (by omega) (by omega))⟩, ⟨_, rfl, Qok_val rfl (Ev_indexArr 64 30 1 (t - 16) Tryd.underlying44 Tryd.sizeOf30 rfl rfl (by omega) (by omega) (by omega))⟩, ⟨_, rfl, Qok_val rfl (Ev_load rfl (Ld_one Tryd.isAgg30 (MemAt.ent 2 rfl (Seg.get (g32_get (i := (t - 16)) (by rw [hw]; omega))))))⟩, ⟨_, rfl, Qok_val rfl (Ev_bini rfl rfl fun _ => bin_xor_u32 (rotr (g32 ww (t - 15)) 7) (rotr (g32 ww (t - 15)) 18))⟩, ⟨_, rfl, Qok_val rfl (Ev_move rfl)⟩, ⟨_, rfl, Qok_val rfl (Ev_bini rfl rfl fun _ => bin_shr_u32 (g32 ww (t - 15)) _ _ 3 (by decide) rfl)⟩, ⟨_, rfl, Qok_val rfl (Ev_bini rfl rfl fun _ => bin_xor_u32 ((rotr (g32 ww (t - 15)) 7) ^^^ (rotr (g32 ww (t - 15)) 18)) ((g32 ww (t - 15)) >>> (3:UInt32)))⟩, ⟨_, rfl, Qok_val rfl (Ev_bini rfl rfl fun _ => bin_add_u32 (g32 ww (t - 16)) (((rotr (g32 ww (t - 15)) 7) ^^^ (rotr (g32 ww (t - 15)) 18)) ^^^ ((g32 ww (t - 15)) >>> (3:UInt32))))⟩, ⟨_, rfl, Qok_val rfl (Ev_move rfl)⟩, ⟨_, rfl, Qok_val rfl (Ev_bini rfl rfl fun _ => bin_sub_i _ _ ((t:Int) - 7) (by omega) (by omega))⟩, ⟨_, rfl, Qok_val rfl (Ev_indexArr 64 30 1 (t - 7) Tryd.underlying44 Tryd.sizeOf30 rfl rfl (by omega) (by omega) (by omega))⟩, ⟨_, rfl, Qok_val rfl (Ev_load rfl (Ld_one Tryd.isAgg30 (MemAt.ent 2 rfl (Seg.get (g32_get (i := (t - 7)) (by rw [hw]; omega))))))⟩, ⟨_, rfl, Qok_val rfl (Ev_bini rfl rfl fun _ => bin_add_u32 ((g32 ww (t - 16)) + (((rotr (g32 ww (t - 15)) 7) ^^^ (rotr (g32 ww (t - 15)) 18)) ^^^ ((g32 ww (t - 15)) >>> (3:UInt32)))) (g32 ww (t - 7)))⟩, ⟨_, rfl, Qok_val rfl (Ev_move rfl)⟩, ⟨_, rfl, Qok_val rfl (Ev_move rfl)⟩, ⟨_, rfl, Qok_val rfl (Ev_move rfl)⟩, ⟨_, rfl, Qok_val rfl (Ev_bini rfl rfl fun _ => bin_shr_u32 (g32 ww (t - 2)) _ _ 10 (by decide) rfl)⟩, trivial⟩ rfl (Cok_step rfl (Step_callP 86 [U32 (g32 ww (t - 2)), I64 (17:Int)] (U32 (rotr (g32 ww (t - 2)) 17)) (Cl_func [U32 (g32 ww (t - 2)), I64 (17:Int)] Tryd.call86 rfl) (fun w1 hw1 => turn_c (g32 ww (t - 2)) 17 w1 (by omega) (by omega)))) ?_
      rintro v1 L1 ⟨rfl, rfl⟩
      refine ⟨[], ?_⟩
      show DP _ _ _ _ _ _ _ _ [⟨nb1, cu8 blk, 32, (0, 0)⟩, ⟨nb2, cu32 (zr32 64), 44, (0, 0)⟩, ⟨nb3, cu32 ww, 44, (0, 0)⟩]
      refine DP_one ⟨[6, 8, 20], [0, 1, 2, 3, 4, 5, 7, 9, 10, 11, 12, 13, 14, 15, 16, 17, 18, 19, 21, 24, 25], [5, 7, 19], [0, 1, 2, 3, 4, 9, 10, 11, 12, 13, 14, 15, 16, 17, 18, 21, 24, 25], [22]⟩ 22 _ rfl rfl (by decide +kernel) rfl ⟨⟨_, rfl, Qok_val rfl (Ev_move rfl)⟩, ⟨_, rfl, Qok_val rfl (Ev_move rfl)⟩, ⟨_, rfl, Qok_val rfl (Ev_bini rfl rfl fun _ => bin_sub_i _ _ ((t:Int) - 16) (by omega) (by omega))⟩, ⟨_, rfl, Qok_val rfl (Ev_indexArr 64 30 1 (t - 16) Tryd.underlying44 Tryd.sizeOf30 rfl rfl (by omega) (by omega) (by omega))⟩, ⟨_, rfl, Qok_val rfl (Ev_load rfl (Ld_one Tryd.isAgg30 (MemAt.ent 2 rfl (Seg.get (g32_get (i := (t - 16)) (by rw [hw]; omega))))))⟩, ⟨_, rfl, Qok_val rfl (Ev_bini rfl rfl fun _ => bin_xor_u32 (rotr (g32 ww (t - 15)) 7) (rotr (g32 ww (t - 15)) 18))⟩, ⟨_, rfl, Qok_val rfl (Ev_move rfl)⟩, ⟨_, rfl, Qok_val rfl (Ev_bini rfl rfl fun _ => bin_shr_u32 (g32 ww (t - 15)) _ _ 3 (by decide) rfl)⟩, ⟨_, rfl, Qok_val rfl (Ev_bini rfl rfl fun _ => bin_xor_u32 ((rotr (g32 ww (t - 15)) 7) ^^^ (rotr (g32 ww (t - 15)) 18)) ((g32 ww (t - 15)) >>> (3:UInt32)))⟩, ⟨_, rfl, Qok_val rfl (Ev_bini rfl rfl fun _ => bin_add_u32 (g32 ww (t - 16)) (((rotr (g32 ww (t - 15)) 7) ^^^ (rotr (g32 ww (t - 15)) 18)) ^^^ ((g32 ww (t - 15)) >>> (3:UInt32))))⟩, ⟨_, rfl, Qok_val rfl (Ev_move rfl)⟩, ⟨_, rfl, Qok_val rfl (Ev_bini rfl rfl fun _ => bin_sub_i _ _ ((t:Int) - 7) (by omega) (by omega))⟩, ⟨_, rfl, Qok_val rfl (Ev_indexArr 64 30 1 (t - 7) Tryd.underlying44 Tryd.sizeOf30 rfl rfl (by omega) (by omega) (by omega))⟩, ⟨_, rfl, Qok_val rfl (Ev_load rfl (Ld_one Tryd.isAgg30 (MemAt.ent 2 rfl (Seg.get (g32_get (i := (t - 7)) (by rw [hw]; omega))))))⟩, ⟨_, rfl, Qok_val rfl (Ev_bini rfl rfl fun _ => bin_add_u32 ((g32 ww (t - 16)) + (((rotr (g32 ww (t - 15)) 7) ^^^ (rotr (g32 ww (t - 15)) 18)) ^^^ ((g32 ww (t - 15)) >>> (3:UInt32)))) (g32 ww (t - 7)))⟩, ⟨_, rfl, Qok_val rfl (Ev_move rfl)⟩, ⟨_, rfl, Qok_val rfl (Ev_move rfl)⟩, ⟨_, rfl, Qok_val rfl (Ev_bini rfl rfl fun _ => bin_shr_u32 (g32 ww (t - 2)) _ _ 10 (by decide) rfl)⟩, trivial⟩ rfl (Cok_step rfl (Step_callP 86 [U32 (g32 ww (t - 2)), I64 (19:Int)] (U32 (rotr (g32 ww (t - 2)) 19)) (Cl_func [U32 (g32 ww (t - 2)), I64 (19:Int)] Tryd.call86 rfl) (fun w1 hw1 => turn_c (g32 ww (t - 2)) 19 w1 (by omega) (by omega)))) ?_
      rintro v1 L1 ⟨rfl, rfl⟩
      refine ⟨[(23, U32 ((rotr (g32 ww (t - 2)) 17) ^^^ (rotr (g32 ww (t - 2)) 19))), (26, U32 (((rotr (g32 ww (t - 2)) 17) ^^^ (rotr (g32 ww (t - 2)) 19)) ^^^ ((g32 ww (t - 2)) >>> (10:UInt32)))), (27, U32 ((((g32 ww (t - 16)) + (((rotr (g32 ww (t - 15)) 7) ^^^ (rotr (g32 ww (t - 15)) 18)) ^^^ ((g32 ww (t - 15)) >>> (3:UInt32)))) + (g32 ww (t - 7))) + (((rotr (g32 ww (t - 2)) 17) ^^^ (rotr (g32 ww (t - 2)) 19)) ^^^ ((g32 ww (t - 2)) >>> (10:UInt32))))), (28, Ptr nb3 t)], ?_⟩
      show DP _ _ _ _ _ _ _ _ [⟨nb1, cu8 blk, 32, (0, 0)⟩, ⟨nb2, cu32 (zr32 64), 44, (0, 0)⟩, ⟨nb3, cu32 ww, 44, (0, 0)⟩]
      have hl3 : (ww.set t ((((g32 ww (t - 16)) + (((rotr (g32 ww (t - 15)) 7) ^^^ (rotr (g32 ww (t - 15)) 18)) ^^^ ((g32 ww (t - 15)) >>> (3:UInt32)))) + (g32 ww (t - 7))) + (((rotr (g32 ww (t - 2)) 17) ^^^ (rotr (g32 ww (t - 2)) 19)) ^^^ ((g32 ww (t - 2)) >>> (10:UInt32))))).length = 64 := by simp [hw]
      refine DP_one ⟨[6, 8, 20, 22], [0, 1, 2, 3, 4, 5, 7, 9, 10, 11, 12, 13, 14, 15, 16, 17, 18, 19, 21, 23, 24, 25, 26, 27, 28], [5, 7, 19, 21], [0, 1, 2, 3, 4, 9, 10, 11, 12, 13, 14, 15, 16, 17, 18, 23, 24, 25, 26, 27, 28], [29]⟩ 29 _ rfl rfl (by decide +kernel) rfl ⟨⟨_, rfl, Qok_val rfl (Ev_move rfl)⟩, ⟨_, rfl, Qok_val rfl (Ev_move rfl)⟩, ⟨_, rfl, Qok_val rfl (Ev_bini rfl rfl fun _ => bin_sub_i _ _ ((t:Int) - 16) (by omega) (by omega))⟩, ⟨_, rfl, Qok_val rfl (Ev_indexArr 64 30 1 (t - 16) Tryd.underlying44 Tryd.sizeOf30 rfl rfl (by omega) (by omega) (by omega))⟩, ⟨_, rfl, Qok_val rfl (Ev_load rfl (Ld_one Tryd.isAgg30 (MemAt.ent 2 rfl (Seg.get (g32_get (i := (t - 16)) (by rw [hw]; omega))))))⟩, ⟨_, rfl, Qok_val rfl (Ev_bini rfl rfl fun _ => bin_xor_u32 (rotr (g32 ww (t - 15)) 7) (rotr (g32 ww (t - 15)) 18))⟩, ⟨_, rfl, Qok_val rfl (Ev_move rfl)⟩, ⟨_, rfl, Qok_val rfl (Ev_bini rfl rfl fun _ => bin_shr_u32 (g32 ww (t - 15)) _ _ 3 (by decide) rfl)⟩, ⟨_, rfl, Qok_val rfl (Ev_bini rfl rfl fun _ => bin_xor_u32 ((rotr (g32 ww (t - 15)) 7) ^^^ (rotr (g32 ww (t - 15)) 18)) ((g32 ww (t - 15)) >>> (3:UInt32)))⟩, ⟨_, rfl, Qok_val rfl (Ev_bini rfl rfl fun _ => bin_add_u32 (g32 ww (t - 16)) (((rotr (g32 ww (t - 15)) 7) ^^^ (rotr (g32 ww (t - 15)) 18)) ^^^ ((g32 ww (t - 15)) >>> (3:UInt32))))⟩, ⟨_, rfl, Qok_val rfl (Ev_move rfl)⟩, ⟨_, rfl, Qok_val rfl (Ev_bini rfl rfl fun _ => bin_sub_i _ _ ((t:Int) - 7) (by omega) (by omega))⟩, ⟨_, rfl, Qok_val rfl (Ev_indexArr 64 30 1 (t - 7) Tryd.underlying44 Tryd.sizeOf30 rfl rfl (by omega) (by omega) (by omega))⟩, ⟨_, rfl, Qok_val rfl (Ev_load rfl (Ld_one Tryd.isAgg30 (MemAt.ent 2 rfl (Seg.get (g32_get (i := (t - 7)) (by rw [hw]; omega))))))⟩, ⟨_, rfl, Qok_val rfl (Ev_bini rfl rfl fun _ => bin_add_u32 ((g32 ww (t - 16)) + (((rotr (g32 ww (t - 15)) 7) ^^^ (rotr (g32 ww (t - 15)) 18)) ^^^ ((g32 ww (t - 15)) >>> (3:UInt32)))) (g32 ww (t - 7)))⟩, ⟨_, rfl, Qok_val rfl (Ev_bini rfl rfl fun _ => bin_xor_u32 (rotr (g32 ww (t - 2)) 17) (rotr (g32 ww (t - 2)) 19))⟩, ⟨_, rfl, Qok_val rfl (Ev_move rfl)⟩, ⟨_, rfl, Qok_val rfl (Ev_bini rfl rfl fun _ => bin_shr_u32 (g32 ww (t - 2)) _ _ 10 (by decide) rfl)⟩, ⟨_, rfl, Qok_val rfl (Ev_bini rfl rfl fun _ => bin_xor_u32 ((rotr (g32 ww (t - 2)) 17) ^^^ (rotr (g32 ww (t - 2)) 19)) ((g32 ww (t - 2)) >>> (10:UInt32)))⟩, ⟨_, rfl, Qok_val rfl (Ev_bini rfl rfl fun _ => bin_add_u32 (((g32 ww (t - 16)) + (((rotr (g32 ww (t - 15)) 7) ^^^ (rotr (g32 ww (t - 15)) 18)) ^^^ ((g32 ww (t - 15)) >>> (3:UInt32)))) + (g32 ww (t - 7))) (((rotr (g32 ww (t - 2)) 17) ^^^ (rotr (g32 ww (t - 2)) 19)) ^^^ ((g32 ww (t - 2)) >>> (10:UInt32))))⟩, ⟨_, rfl, Qok_val rfl (Ev_indexArr 64 30 1 t Tryd.underlying44 Tryd.sizeOf30 rfl rfl (by omega) (by omega) (by omega))⟩, trivial⟩ rfl (Cok_step rfl (Step_store 2 nb3 t 1 (cu32 ww) 44 (U32 ((((g32 ww (t - 16)) + (((rotr (g32 ww (t - 15)) 7) ^^^ (rotr (g32 ww (t - 15)) 18)) ^^^ ((g32 ww (t - 15)) >>> (3:UInt32)))) + (g32 ww (t - 7))) + (((rotr (g32 ww (t - 2)) 17) ^^^ (rotr (g32 ww (t - 2)) 19)) ^^^ ((g32 ww (t - 2)) >>> (10:UInt32))))) ([U32 ((((g32 ww (t - 16)) + (((rotr (g32 ww (t - 15)) 7) ^^^ (rotr (g32 ww (t - 15)) 18)) ^^^ ((g32 ww (t - 15)) >>> (3:UInt32)))) + (g32 ww (t - 7))) + (((rotr (g32 ww (t - 2)) 17) ^^^ (rotr (g32 ww (t - 2)) 19)) ^^^ ((g32 ww (t - 2)) >>> (10:UInt32))))]) (cu32 (ww.set t ((((g32 ww (t - 16)) + (((rotr (g32 ww (t - 15)) 7) ^^^ (rotr (g32 ww (t - 15)) 18)) ^^^ ((g32 ww (t - 15)) >>> (3:UInt32)))) + (g32 ww (t - 7))) + (((rotr (g32 ww (t - 2)) 17) ^^^ (rotr (g32 ww (t - 2)) 19)) ^^^ ((g32 ww (t - 2)) >>> (10:UInt32)))))) rfl rfl rfl rfl Tryd.sizeOf30 rfl (by simp [Value.oneCell']) (by simp [hw]; try omega) (lay32 _ _ _ (by rw [hw]; omega)))) ?_
      rintro v1 L1 ⟨rfl, rfl⟩
      refine ⟨[], ?_⟩
      show DP _ _ _ _ _ _ _ _ [⟨nb1, cu8 blk, 32, (0, 0)⟩, ⟨nb2, cu32 (zr32 64), 44, (0, 0)⟩, ⟨nb3, cu32 (ww.set t ((((g32 ww (t - 16)) + (((rotr (g32 ww (t - 15)) 7) ^^^ (rotr (g32 ww (t - 15)) 18)) ^^^ ((g32 ww (t - 15)) >>> (3:UInt32)))) + (g32 ww (t - 7))) + (((rotr (g32 ww (t - 2)) 17) ^^^ (rotr (g32 ww (t - 2)) 19)) ^^^ ((g32 ww (t - 2)) >>> (10:UInt32))))), 44, (0, 0)⟩]
      refine DP_end ⟨[6, 8, 20, 22, 29], [0, 1, 2, 3, 4, 5, 7, 9, 10, 11, 12, 13, 14, 15, 16, 17, 18, 19, 21, 23, 24, 25, 26, 27, 28], [0, 1, 2, 3, 4, 5, 7, 9, 10, 11, 12, 13, 14, 15, 16, 17, 18, 19, 21, 23, 24, 25, 26, 27, 28], [], []⟩ rfl rfl (by decide +kernel) rfl trivial ?_
      refine K_sub (F' := [(29, I64 ((t:Int))), (30, I64 ((t:Int))), (31, I64 ((t:Int) - 16)), (32, Ptr nb3 (t - 16)), (33, U32 (g32 ww (t - 16))), (34, U32 (g32 ww (t - 15))), (35, U32 (rotr (g32 ww (t - 15)) 7)), (36, U32 (g32 ww (t - 15))), (37, U32 (rotr (g32 ww (t - 15)) 18)), (38, U32 ((rotr (g32 ww (t - 15)) 7) ^^^ (rotr (g32 ww (t - 15)) 18))), (39, U32 (g32 ww (t - 15))), (40, U32 ((g32 ww (t - 15)) >>> (3:UInt32))), (41, U32 (((rotr (g32 ww (t - 15)) 7) ^^^ (rotr (g32 ww (t - 15)) 18)) ^^^ ((g32 ww (t - 15)) >>> (3:UInt32)))), (42, U32 ((g32 ww (t - 16)) + (((rotr (g32 ww (t - 15)) 7) ^^^ (rotr (g32 ww (t - 15)) 18)) ^^^ ((g32 ww (t - 15)) >>> (3:UInt32))))), (43, I64 ((t:Int))), (44, I64 ((t:Int) - 7)), (45, Ptr nb3 (t - 7)), (46, U32 (g32 ww (t - 7))), (47, U32 (((g32 ww (t - 16)) + (((rotr (g32 ww (t - 15)) 7) ^^^ (rotr (g32 ww (t - 15)) 18)) ^^^ ((g32 ww (t - 15)) >>> (3:UInt32)))) + (g32 ww (t - 7)))), (48, U32 (g32 ww (t - 2))), (49, U32 (rotr (g32 ww (t - 2)) 17)), (50, U32 (g32 ww (t - 2))), (51, U32 (rotr (g32 ww (t - 2)) 19)), (52, U32 ((rotr (g32 ww (t - 2)) 17) ^^^ (rotr (g32 ww (t - 2)) 19))), (53, U32 (g32 ww (t - 2))), (54, U32 ((g32 ww (t - 2)) >>> (10:UInt32))), (55, U32 (((rotr (g32 ww (t - 2)) 17) ^^^ (rotr (g32 ww (t - 2)) 19)) ^^^ ((g32 ww (t - 2)) >>> (10:UInt32)))), (56, U32 ((((g32 ww (t - 16)) + (((rotr (g32 ww (t - 15)) 7) ^^^ (rotr (g32 ww (t - 15)) 18)) ^^^ ((g32 ww (t - 15)) >>> (3:UInt32)))) + (g32 ww (t - 7))) + (((rotr (g32 ww (t - 2)) 17) ^^^ (rotr (g32 ww (t - 2)) 19)) ^^^ ((g32 ww (t - 2)) >>> (10:UInt32))))), (57, Ptr nb3 t), (21, I64 ((t:Int))), (22, I64 ((t:Int) - 15)), (23, Ptr nb3 (t - 15)), (24, U32 (g32 ww (t - 15))), (25, I64 ((t:Int))), (26, I64 ((t:Int) - 2)), (27, Ptr nb3 (t - 2)), (28, U32 (g32 ww (t - 2))), (5, U32 (g32 ww (t - 15))), (6, U32 (g32 ww (t - 2))), (1, Ptr nb1 0), (2, Ptr nb2 0), (3, Ptr nb3 0), (7, I64 ((t:Int))), (8, .bool (decide (((t:Int)) < (64:Int)))), (9, I64 ((t:Int))), (4, I64 ((t:Int))), (10, I64 ((t:Int))), (11, .bool (decide (((t:Int)) < (16:Int))))]) (Sub.cons (by kernel_rfl) (Sub.cons (by kernel_rfl) (Sub.cons (by kernel_rfl) (Sub.cons (by kernel_rfl) (Sub.cons (by kernel_rfl) (Sub.cons (by kernel_rfl) (Sub.cons (by kernel_rfl) (Sub.cons (by kernel_rfl) (Sub.cons (by kernel_rfl) (Sub.cons (by kernel_rfl) (Sub.cons (by kernel_rfl) (Sub.cons (by kernel_rfl) (Sub.cons (by kernel_rfl) (Sub.cons (by kernel_rfl) (Sub.cons (by kernel_rfl) (Sub.cons (by kernel_rfl) (Sub.cons (by kernel_rfl) (Sub.cons (by kernel_rfl) (Sub.cons (by kernel_rfl) (Sub.cons (by kernel_rfl) (Sub.cons (by kernel_rfl) (Sub.cons (by kernel_rfl) (Sub.cons (by kernel_rfl) (Sub.cons (by kernel_rfl) (Sub.cons (by kernel_rfl) (Sub.cons (by kernel_rfl) (Sub.cons (by kernel_rfl) (Sub.cons (by kernel_rfl) (Sub.cons (by kernel_rfl) (Sub.cons (by kernel_rfl) (Sub.cons (by kernel_rfl) (Sub.cons (by kernel_rfl) (Sub.cons (by kernel_rfl) (Sub.cons (by kernel_rfl) (Sub.cons (by kernel_rfl) (Sub.cons (by kernel_rfl) (Sub.cons (by kernel_rfl) (Sub.cons (by kernel_rfl) (Sub.cons (by kernel_rfl) (Sub.cons (by kernel_rfl) (Sub.cons (by kernel_rfl) (Sub.cons (by kernel_rfl) (Sub.cons (by kernel_rfl) (Sub.cons (by kernel_rfl) (Sub.cons (by kernel_rfl) (Sub.cons (by kernel_rfl) (Sub.cons (by kernel_rfl) (Sub.cons (by kernel_rfl) (Sub.nil))))))))))))))))))))))))))))))))))))))))))))))))) ?_
      show JQ _ _ _ [(29, I64 ((t:Int))), (30, I64 ((t:Int))), (31, I64 ((t:Int) - 16)), (32, Ptr nb3 (t - 16)), (33, U32 (g32 ww (t - 16))), (34, U32 (g32 ww (t - 15))), (35, U32 (rotr (g32 ww (t - 15)) 7)), (36, U32 (g32 ww (t - 15))), (37, U32 (rotr (g32 ww (t - 15)) 18)), (38, U32 ((rotr (g32 ww (t - 15)) 7) ^^^ (rotr (g32 ww (t - 15)) 18))), (39, U32 (g32 ww (t - 15))), (40, U32 ((g32 ww (t - 15)) >>> (3:UInt32))), (41, U32 (((rotr (g32 ww (t - 15)) 7) ^^^ (rotr (g32 ww (t - 15)) 18)) ^^^ ((g32 ww (t - 15)) >>> (3:UInt32)))), (42, U32 ((g32 ww (t - 16)) + (((rotr (g32 ww (t - 15)) 7) ^^^ (rotr (g32 ww (t - 15)) 18)) ^^^ ((g32 ww (t - 15)) >>> (3:UInt32))))), (43, I64 ((t:Int))), (44, I64 ((t:Int) - 7)), (45, Ptr nb3 (t - 7)), (46, U32 (g32 ww (t - 7))), (47, U32 (((g32 ww (t - 16)) + (((rotr (g32 ww (t - 15)) 7) ^^^ (rotr (g32 ww (t - 15)) 18)) ^^^ ((g32 ww (t - 15)) >>> (3:UInt32)))) + (g32 ww (t - 7)))), (48, U32 (g32 ww (t - 2))), (49, U32 (rotr (g32 ww (t - 2)) 17)), (50, U32 (g32 ww (t - 2))), (51, U32 (rotr (g32 ww (t - 2)) 19)), (52, U32 ((rotr (g32 ww (t - 2)) 17) ^^^ (rotr (g32 ww (t - 2)) 19))), (53, U32 (g32 ww (t - 2))), (54, U32 ((g32 ww (t - 2)) >>> (10:UInt32))), (55, U32 (((rotr (g32 ww (t - 2)) 17) ^^^ (rotr (g32 ww (t - 2)) 19)) ^^^ ((g32 ww (t - 2)) >>> (10:UInt32)))), (56, U32 ((((g32 ww (t - 16)) + (((rotr (g32 ww (t - 15)) 7) ^^^ (rotr (g32 ww (t - 15)) 18)) ^^^ ((g32 ww (t - 15)) >>> (3:UInt32)))) + (g32 ww (t - 7))) + (((rotr (g32 ww (t - 2)) 17) ^^^ (rotr (g32 ww (t - 2)) 19)) ^^^ ((g32 ww (t - 2)) >>> (10:UInt32))))), (57, Ptr nb3 t), (21, I64 ((t:Int))), (22, I64 ((t:Int) - 15)), (23, Ptr nb3 (t - 15)), (24, U32 (g32 ww (t - 15))), (25, I64 ((t:Int))), (26, I64 ((t:Int) - 2)), (27, Ptr nb3 (t - 2)), (28, U32 (g32 ww (t - 2))), (5, U32 (g32 ww (t - 15))), (6, U32 (g32 ww (t - 2))), (1, Ptr nb1 0), (2, Ptr nb2 0), (3, Ptr nb3 0), (7, I64 ((t:Int))), (8, .bool (decide (((t:Int)) < (64:Int)))), (9, I64 ((t:Int))), (4, I64 ((t:Int))), (10, I64 ((t:Int))), (11, .bool (decide (((t:Int)) < (16:Int))))] _
      refine JQ_in_normal ?_
      refine JQ_then ?_
      refine JC_region ?_
      refine JL_val (I64 ((t:Int) + 1)) (Ev_bini rfl rfl fun _ => bin_add_i _ _ ((t:Int) + 1) (by omega) (by omega)) rfl ?_
      refine JL_val _ (Ev_move rfl) rfl ?_
      refine JL_nil ?_
      refine JQ_thenK ?_
      refine K_next (t + 1, ww.set t ((((g32 ww (t - 16)) + (((rotr (g32 ww (t - 15)) 7) ^^^ (rotr (g32 ww (t - 15)) 18)) ^^^ ((g32 ww (t - 15)) >>> (3:UInt32)))) + (g32 ww (t - 7))) + (((rotr (g32 ww (t - 2)) 17) ^^^ (rotr (g32 ww (t - 2)) 19)) ^^^ ((g32 ww (t - 2)) >>> (10:UInt32))))) ⟨by omega, by rw [spN, spS, if_neg (by omega), ← hx2], hl3⟩ (by first | (simp; omega) | simp) (Sub.cons rfl (Sub.cons rfl (Sub.cons rfl (Sub.cons rfl (Sub.nil))))) rfl
  ·
    have hp1 : ¬ (((t:Int)) < (64:Int)) := of_decide_eq_false hb1
    refine JC_exit ?_
    refine JQ_then_exit ?_
    refine JQ_then_exit ?_
    refine JQ_in_same ?_
    refine JQ_then ?_
    refine JC_seq ?_
    refine JC_region ?_
    refine JL_val (.agg (cu32 ww).toArray) (Ev_load rfl (Ld_agg Tryd.isAgg44 Tryd.sizeOf44 (len_cu32 hw) (MemAt.ent 2 rfl (Seg.whole _)))) rfl ?_
    refine JL_step (Step_store 1 nb2 0 64 (cu32 (zr32 64)) 44 (.agg (cu32 ww).toArray) (cu32 ww) (cu32 ww) rfl rfl rfl (by first | rfl | simp) Tryd.sizeOf44 (len_cu32 hw) (by first | exact one_u8 | exact one_u32 | exact one_u64 | (simp [cu8, cu32, cu64, Value.oneCell']; done)) (by simp [(zr32_len 64)]) (lay_whole (by simp [(zr32_len 64), hw]))) rfl ?_
    rintro v1 L1 ⟨rfl, rfl⟩
    show JL _ _ _ _ _ [⟨nb1, cu8 blk, 32, (0, 0)⟩, ⟨nb2, cu32 ww, 44, (0, 0)⟩, ⟨nb3, cu32 ww, 44, (0, 0)⟩]
    refine JL_nil ?_
    refine JQ_then ?_
    refine JC_ret ?_
    refine JQ_ret (.agg (cu32 ww).toArray) (res1 Tryd.results85 (RV_cell rfl (Ld_agg Tryd.isAgg44 Tryd.sizeOf44 (len_cu32 hw) (MemAt.ent 1 rfl (Seg.whole _))))) fun w1 hw1 => ?_
    have e1 : t = 64 := by omega
    subst e1
    rw [show ww = spreadL blk by rw [spreadL, hx2]]
    exact ⟨_, [], rfl, ⟨rfl, rfl⟩, hw1.sub (by simp) (by simp)⟩

set_option maxHeartbeats 2000000 in
theorem compress_c (st : List UInt32) (blk : List UInt8) (w : World) (hs0 : st.length = 8) (hb : blk.length = 64) (hG : GLs w) : Calls Tryd.prog 28 #[.agg (cu32 st).toArray, .agg (cu8 blk).toArray] w (Post w [] (fun v L => v = .agg (cu32 (comprL constL st blk)).toArray ∧ L = [])) := by
  refine enter w [] 110 [] [.agg (cu32 st).toArray, .agg (cu8 blk).toArray] Tryd.func28 rfl rfl (by simp) (Hp.start (by simp) (by simp) (by simp)) ?_
  show JC _ _ _ [(0, .agg (cu32 st).toArray), (1, .agg (cu8 blk).toArray)] _
  refine JC_seq ?_
  refine JC_region ?_
  refine JL_step (Step_box (.agg (cu32 st).toArray) (cu32 st) rfl (by first | rfl | simp)) rfl ?_
  rintro v1 L1 ⟨nb1, hnb1, rfl, rfl⟩
  show JL _ _ _ _ ((2, Ptr nb1 0) :: _) [⟨nb1, cu32 st, 31, (0, 0)⟩]
  refine JL_step (Step_box (.agg (cu8 blk).toArray) (cu8 blk) rfl (by first | rfl | simp)) rfl ?_
  rintro v1 L1 ⟨nb2, hnb2, rfl, rfl⟩
  show JL _ _ _ _ ((3, Ptr nb2 0) :: _) [⟨nb1, cu32 st, 31, (0, 0)⟩, ⟨nb2, cu8 blk, 32, (0, 0)⟩]
  refine JL_step (Step_alloc _ (cu32 (zr32 8)) Tryd.zeroValue31 (by kernel_rfl)) rfl ?_
  rintro v1 L1 ⟨nb3, hnb3, rfl, rfl⟩
  show JL _ _ _ _ ((4, Ptr nb3 0) :: _) [⟨nb1, cu32 st, 31, (0, 0)⟩, ⟨nb2, cu8 blk, 32, (0, 0)⟩, ⟨nb3, cu32 (zr32 8), 31, (0, 0)⟩]
  refine JL_nil ?_
  refine JQ_then ?_
  refine JC_seq ?_
  refine JC_region ?_
  refine JL_val (.agg (cu32 st).toArray) (Ev_load rfl (Ld_agg Tryd.isAgg31 Tryd.sizeOf31 (len_cu32 hs0) (MemAt.ent 0 rfl (Seg.whole _)))) rfl ?_
  refine JL_step (Step_alloc _ (cu32 (zr32 8)) Tryd.zeroValue31 (by kernel_rfl)) rfl ?_
  rintro v1 L1 ⟨nb4, hnb4, rfl, rfl⟩
  show JL _ _ _ _ ((5, Ptr nb4 0) :: _) [⟨nb1, cu32 st, 31, (0, 0)⟩, ⟨nb2, cu8 blk, 32, (0, 0)⟩, ⟨nb3, cu32 (zr32 8), 31, (0, 0)⟩, ⟨nb4, cu32 (zr32 8), 31, (0, 0)⟩]
  refine JL_step (Step_store 3 nb4 0 8 (cu32 (zr32 8)) 31 (.agg (cu32 st).toArray) (cu32 st) (cu32 st) rfl rfl rfl (by first | rfl | simp) Tryd.sizeOf31 (len_cu32 hs0) (by first | exact one_u8 | exact one_u32 | exact one_u64 | (simp [cu8, cu32, cu64, Value.oneCell']; done)) (by simp [(zr32_len 8)]) (lay_whole (by simp [(zr32_len 8), hs0]))) rfl ?_
  rintro v1 L1 ⟨rfl, rfl⟩
  show JL _ _ _ _ _ [⟨nb1, cu32 st, 31, (0, 0)⟩, ⟨nb2, cu8 blk, 32, (0, 0)⟩, ⟨nb3, cu32 (zr32 8), 31, (0, 0)⟩, ⟨nb4, cu32 st, 31, (0, 0)⟩]
  refine JL_nil ?_
  refine JQ_then ?_
  refine JC_seq ?_
  refine JC_seq ?_
  refine JC_region ?_
  refine JL_val (.agg (cu8 blk).toArray) (Ev_load rfl (Ld_agg Tryd.isAgg32 Tryd.sizeOf32 (len_cu8 hb) (MemAt.ent 1 rfl (Seg.whole _)))) rfl ?_
  refine JL_step (Step_callP 85 [.agg (cu8 blk).toArray] (.agg (cu32 (spreadL blk)).toArray) (Cl_func [.agg (cu8 blk).toArray] Tryd.call85 rfl) (fun w1 hw1 => spread_c blk w1 hb)) rfl ?_
  rintro v1 L1 ⟨rfl, rfl⟩
  show JL _ _ _ _ ((19, .agg (cu32 (spreadL blk)).toArray) :: _) [⟨nb1, cu32 st, 31, (0, 0)⟩, ⟨nb2, cu8 blk, 32, (0, 0)⟩, ⟨nb3, cu32 (zr32 8), 31, (0, 0)⟩, ⟨nb4, cu32 st, 31, (0, 0)⟩]
  refine JL_val _ (Ev_move rfl) rfl ?_
  refine JL_nil ?_
  refine JQ_then ?_
  refine JC_block ?_
  refine K_mask [true, false, true, true] ?_
  show JC _ _ _ _ [⟨nb1, cu32 st, 31, (0, 0)⟩, ⟨nb3, cu32 (zr32 8), 31, (0, 0)⟩, ⟨nb4, cu32 st, 31, (0, 0)⟩]
  refine JC_loop (ι := Nat × List UInt32) (fun ⟨t, s⟩ => [(2, Ptr nb1 0), (4, Ptr nb3 0), (5, Ptr nb4 0), (19, .agg (cu32 (spreadL blk)).toArray), (20, I64 ((t:Int)))]) (fun ⟨t, s⟩ => [⟨nb1, cu32 st, 31, (0, 0)⟩, ⟨nb3, cu32 (zr32 8), 31, (0, 0)⟩, ⟨nb4, cu32 s, 31, (0, 0)⟩]) (fun ⟨t, s⟩ => t ≤ 64 ∧ s = cpN constL st (spreadL blk) t ∧ s.length = 8) (fun ⟨t, s⟩ => 64 - t) (0, st) ⟨by omega, by rw [cpN], hs0⟩ (Sub.cons rfl (Sub.cons rfl (Sub.cons rfl (Sub.cons rfl (Sub.cons rfl (Sub.nil)))))) rfl ?_
  rintro ⟨t, s⟩ ⟨hx1, hx2, hs⟩
  show JC _ _ _ [(2, Ptr nb1 0), (4, Ptr nb3 0), (5, Ptr nb4 0), (19, .agg (cu32 (spreadL blk)).toArray), (20, I64 ((t:Int)))] [⟨nb1, cu32 st, 31, (0, 0)⟩, ⟨nb3, cu32 (zr32 8), 31, (0, 0)⟩, ⟨nb4, cu32 s, 31, (0, 0)⟩]
  refine JC_seq ?_
  refine JC_region ?_
  refine JL_val (.bool (decide (((t:Int)) < (64:Int)))) (Ev_bini rfl rfl fun _ => bin_lss_i _ _) rfl ?_
  refine JL_nil ?_
  refine JQ_then ?_
  refine JC_seq ?_
  refine JC_cond (decide (((t:Int)) < (64:Int))) rfl (fun hb1 => ?_) (fun hb1 => ?_)
  ·
    have hp1 : ((t:Int)) < (64:Int) := of_decide_eq_true hb1
    refine JC_skip ?_
    refine JQ_then ?_
    refine JC_seq ?_
    refine JC_block ?_
    refine JC_seq ?_
    refine JC_region ?_
    refine JL_val _ (Ev_move rfl) rfl ?_
    refine JL_val (U32 (g32 (spreadL blk) t)) (Ev_index1 64 30 _ Tryd.underlying44 Tryd.isAgg30 Tryd.sizeOf30 rfl rfl (by omega) (by omega) (Seg.get1 (Seg.get (g32_get (i := t) (by rw [(spreadL_len _)]; omega))) (by omega))) rfl ?_
    refine JL_val _ (Ev_assign rfl) rfl ?_
    refine JL_val _ (Ev_assign rfl) rfl ?_
    refine JL_nil ?_
    refine JQ_then ?_
    refine JC_seq ?_
    refine JC_draw 110 1 [(0, Ptr nb4 0), (1, U32 (g32 s 0)), (2, Ptr nb4 1), (3, U32 (g32 s 1)), (4, Ptr nb4 2), (5, U32 (g32 s 2)), (6, Ptr nb4 4), (7, U32 (g32 s 4)), (8, Ptr nb4 5), (9, U32 (g32 s 5)), (10, Ptr nb4 6), (11, U32 (g32 s 6)), (12, U32 (g32 s 0)), (13, U32 (g32 s 1)), (14, U32 (g32 s 2)), (15, U32 (g32 s 4)), (16, U32 (g32 s 5)), (17, U32 (g32 s 6))] Tryd.mixed rfl (by decide +kernel) ?_
    refine DP_end ⟨[], [0, 1, 2, 3, 4, 5, 6, 7, 8, 9, 10, 11, 12, 13, 14, 15, 16, 17], [], [0, 1, 2, 3, 4, 5, 6, 7, 8, 9, 10, 11, 12, 13, 14, 15, 16, 17], []⟩ rfl rfl (by decide +kernel) rfl ⟨⟨_, rfl, Qok_val rfl (Ev_indexArr 8 30 1 0 Tryd.underlying31 Tryd.sizeOf30 rfl rfl (by omega) (by omega) (by omega))⟩, ⟨_, rfl, Qok_val rfl (Ev_load rfl (Ld_one Tryd.isAgg30 (MemAt.ent 2 rfl (Seg.get (g32_get (i := 0) (by rw [hs]; omega))))))⟩, ⟨_, rfl, Qok_val rfl (Ev_indexArr 8 30 1 1 Tryd.underlying31 Tryd.sizeOf30 rfl rfl (by omega) (by omega) (by omega))⟩, ⟨_, rfl, Qok_val rfl (Ev_load rfl (Ld_one Tryd.isAgg30 (MemAt.ent 2 rfl (Seg.get (g32_get (i := 1) (by rw [hs]; omega))))))⟩, ⟨_, rfl, Qok_val rfl (Ev_indexArr 8 30 1 2 Tryd.underlying31 Tryd.sizeOf30 rfl rfl (by omega) (by omega) (by omega))⟩, ⟨_, rfl, Qok_val rfl (Ev_load rfl (Ld_one Tryd.isAgg30 (MemAt.ent 2 rfl (Seg.get (g32_get (i := 2) (by rw [hs]; omega))))))⟩, ⟨_, rfl, Qok_val rfl (Ev_indexArr 8 30 1 4 Tryd.underlying31 Tryd.sizeOf30 rfl rfl (by omega) (by omega) (by omega))⟩, ⟨_, rfl, Qok_val rfl (Ev_load rfl (Ld_one Tryd.isAgg30 (MemAt.ent 2 rfl (Seg.get (g32_get (i := 4) (by rw [hs]; omega))))))⟩, ⟨_, rfl, Qok_val rfl (Ev_indexArr 8 30 1 5 Tryd.underlying31 Tryd.sizeOf30 rfl rfl (by omega) (by omega) (by omega))⟩, ⟨_, rfl, Qok_val rfl (Ev_load rfl (Ld_one Tryd.isAgg30 (MemAt.ent 2 rfl (Seg.get (g32_get (i := 5) (by rw [hs]; omega))))))⟩, ⟨_, rfl, Qok_val rfl (Ev_indexArr 8 30 1 6 Tryd.underlying31 Tryd.sizeOf30 rfl rfl (by omega) (by omega) (by omega))⟩, ⟨_, rfl, Qok_val rfl (Ev_load rfl (Ld_one Tryd.isAgg30 (MemAt.ent 2 rfl (Seg.get (g32_get (i := 6) (by rw [hs]; omega))))))⟩, ⟨_, rfl, Qok_val rfl (Ev_assign rfl)⟩, ⟨_, rfl, Qok_val rfl (Ev_assign rfl)⟩, ⟨_, rfl, Qok_val rfl (Ev_assign rfl)⟩, ⟨_, rfl, Qok_val rfl (Ev_assign rfl)⟩, ⟨_, rfl, Qok_val rfl (Ev_assign rfl)⟩, ⟨_, rfl, Qok_val rfl (Ev_assign rfl)⟩, trivial⟩ ?_
    refine K_sub (F' := [(24, Ptr nb4 0), (25, U32 (g32 s 0)), (26, Ptr nb4 1), (27, U32 (g32 s 1)), (28, Ptr nb4 2), (29, U32 (g32 s 2)), (30, Ptr nb4 4), (31, U32 (g32 s 4)), (32, Ptr nb4 5), (33, U32 (g32 s 5)), (34, Ptr nb4 6), (35, U32 (g32 s 6)), (8, U32 (g32 s 0)), (9, U32 (g32 s 1)), (10, U32 (g32 s 2)), (11, U32 (g32 s 4)), (12, U32 (g32 s 5)), (13, U32 (g32 s 6)), (2, Ptr nb1 0), (4, Ptr nb3 0), (5, Ptr nb4 0), (19, .agg (cu32 (spreadL blk)).toArray), (20, I64 ((t:Int))), (21, .bool (decide (((t:Int)) < (64:Int)))), (22, I64 ((t:Int))), (23, U32 (g32 (spreadL blk) t)), (6, I64 ((t:Int))), (7, U32 (g32 (spreadL blk) t))]) (Sub.cons (by kernel_rfl) (Sub.cons (by kernel_rfl) (Sub.cons (by kernel_rfl) (Sub.cons (by kernel_rfl) (Sub.cons (by kernel_rfl) (Sub.cons (by kernel_rfl) (Sub.cons (by kernel_rfl) (Sub.cons (by kernel_rfl) (Sub.cons (by kernel_rfl) (Sub.cons (by kernel_rfl) (Sub.cons (by kernel_rfl) (Sub.cons (by kernel_rfl) (Sub.cons (by kernel_rfl) (Sub.cons (by kernel_rfl) (Sub.cons (by kernel_rfl) (Sub.cons (by kernel_rfl) (Sub.cons (by kernel_rfl) (Sub.cons (by kernel_rfl) (Sub.cons (by kernel_rfl) (Sub.cons (by kernel_rfl) (Sub.cons (by kernel_rfl) (Sub.cons (by kernel_rfl) (Sub.cons (by kernel_rfl) (Sub.cons (by kernel_rfl) (Sub.cons (by kernel_rfl) (Sub.cons (by kernel_rfl) (Sub.cons (by kernel_rfl) (Sub.cons (by kernel_rfl) (Sub.nil))))))))))))))))))))))))))))) ?_
    show JQ _ _ _ [(24, Ptr nb4 0), (25, U32 (g32 s 0)), (26, Ptr nb4 1), (27, U32 (g32 s 1)), (28, Ptr nb4 2), (29, U32 (g32 s 2)), (30, Ptr nb4 4), (31, U32 (g32 s 4)), (32, Ptr nb4 5), (33, U32 (g32 s 5)), (34, Ptr nb4 6), (35, U32 (g32 s 6)), (8, U32 (g32 s 0)), (9, U32 (g32 s 1)), (10, U32 (g32 s 2)), (11, U32 (g32 s 4)), (12, U32 (g32 s 5)), (13, U32 (g32 s 6)), (2, Ptr nb1 0), (4, Ptr nb3 0), (5, Ptr nb4 0), (19, .agg (cu32 (spreadL blk)).toArray), (20, I64 ((t:Int))), (21, .bool (decide (((t:Int)) < (64:Int)))), (22, I64 ((t:Int))), (23, U32 (g32 (spreadL blk) t)), (6, I64 ((t:Int))), (7, U32 (g32 (spreadL blk) t))] _
    refine JQ_then ?_
    refine JC_seq ?_
    refine JC_draw 110 4 [(0, Ptr nb4 7), (1, U32 (g32 s 7)), (2, U32 (g32 s 4)), (4, U32 (g32 s 4)), (7, U32 (g32 s 4)), (11, U32 (g32 s 4)), (12, U32 (g32 s 5)), (13, U32 ((g32 s 4) &&& (g32 s 5))), (14, U32 (g32 s 4)), (15, U32 (~~~(g32 s 4))), (16, U32 (g32 s 6)), (17, U32 ((~~~(g32 s 4)) &&& (g32 s 6))), (18, U32 (((g32 s 4) &&& (g32 s 5)) ^^^ ((~~~(g32 s 4)) &&& (g32 s 6)))), (20, I64 ((t:Int))), (21, Ptr 3 t), (22, U32 (g32 constL t)), (24, U32 (g32 (spreadL blk) t))] Tryd.mixed rfl (by decide +kernel) ?_
    refine DP_one ⟨[], [0, 1, 2, 4, 7, 11, 12, 13, 14, 15, 16, 17, 18, 20, 21, 22, 24], [], [0, 1, 2, 4, 7, 11, 12, 13, 14, 15, 16, 17, 18, 20, 21, 22, 24], [3]⟩ 3 _ rfl rfl (by decide +kernel) rfl ⟨⟨_, rfl, Qok_val rfl (Ev_indexArr 8 30 1 7 Tryd.underlying31 Tryd.sizeOf30 rfl rfl (by omega) (by omega) (by omega))⟩, ⟨_, rfl, Qok_val rfl (Ev_load rfl (Ld_one Tryd.isAgg30 (MemAt.ent 2 rfl (Seg.get (g32_get (i := 7) (by rw [hs]; omega))))))⟩, ⟨_, rfl, Qok_val rfl (Ev_move rfl)⟩, ⟨_, rfl, Qok_val rfl (Ev_move rfl)⟩, ⟨_, rfl, Qok_val rfl (Ev_move rfl)⟩, ⟨_, rfl, Qok_val rfl (Ev_move rfl)⟩, ⟨_, rfl, Qok_val rfl (Ev_move rfl)⟩, ⟨_, rfl, Qok_val rfl (Ev_bini rfl rfl fun _ => bin_and_u32 (g32 s 4) (g32 s 5))⟩, ⟨_, rfl, Qok_val rfl (Ev_move rfl)⟩, ⟨_, rfl, Qok_val rfl (Ev_un _ _ rfl fun _ => un_xor_u32 _)⟩, ⟨_, rfl, Qok_val rfl (Ev_move rfl)⟩, ⟨_, rfl, Qok_val rfl (Ev_bini rfl rfl fun _ => bin_and_u32 (~~~(g32 s 4)) (g32 s 6))⟩, ⟨_, rfl, Qok_val rfl (Ev_bini rfl rfl fun _ => bin_xor_u32 ((g32 s 4) &&& (g32 s 5)) ((~~~(g32 s 4)) &&& (g32 s 6)))⟩, ⟨_, rfl, Qok_val rfl (Ev_move rfl)⟩, ⟨_, rfl, Qok_val rfl (Ev_indexArr 64 30 1 t Tryd.underlying44 Tryd.sizeOf30 rfl rfl (by omega) (by omega) (by omega))⟩, ⟨_, rfl, Qok_val rfl (Ev_load rfl (Ld_one Tryd.isAgg30 (MemAt.seg (hG.1.mem (by simp)) (Seg.get (g32_get (i := t) (by rw [constL_len]; omega))) (by omega))))⟩, ⟨_, rfl, Qok_val rfl (Ev_move rfl)⟩, trivial⟩ rfl (Cok_step rfl (Step_callP 86 [U32 (g32 s 4), I64 (6:Int)] (U32 (rotr (g32 s 4) 6)) (Cl_func [U32 (g32 s 4), I64 (6:Int)] Tryd.call86 rfl) (fun w1 hw1 => turn_c (g32 s 4) 6 w1 (by omega) (by omega)))) ?_
    rintro v1 L1 ⟨rfl, rfl⟩
    refine ⟨[], ?_⟩
    show DP _ _ _ _ _ _ _ _ [⟨nb1, cu32 st, 31, (0, 0)⟩, ⟨nb3, cu32 (zr32 8), 31, (0, 0)⟩, ⟨nb4, cu32 s, 31, (0, 0)⟩]
    refine DP_one ⟨[3], [0, 1, 2, 4, 7, 11, 12, 13, 14, 15, 16, 17, 18, 20, 21, 22, 24], [2], [0, 1, 4, 7, 11, 12, 13, 14, 15, 16, 17, 18, 20, 21, 22, 24], [5]⟩ 5 _ rfl rfl (by decide +kernel) rfl ⟨⟨_, rfl, Qok_val rfl (Ev_indexArr 8 30 1 7 Tryd.underlying31 Tryd.sizeOf30 rfl rfl (by omega) (by omega) (by omega))⟩, ⟨_, rfl, Qok_val rfl (Ev_load rfl (Ld_one Tryd.isAgg30 (MemAt.ent 2 rfl (Seg.get (g32_get (i := 7) (by rw [hs]; omega))))))⟩, ⟨_, rfl, Qok_val rfl (Ev_move rfl)⟩, ⟨_, rfl, Qok_val rfl (Ev_move rfl)⟩, ⟨_, rfl, Qok_val rfl (Ev_move rfl)⟩, ⟨_, rfl, Qok_val rfl (Ev_move rfl)⟩, ⟨_, rfl, Qok_val rfl (Ev_bini rfl rfl fun _ => bin_and_u32 (g32 s 4) (g32 s 5))⟩, ⟨_, rfl, Qok_val rfl (Ev_move rfl)⟩, ⟨_, rfl, Qok_val rfl (Ev_un _ _ rfl fun _ => un_xor_u32 _)⟩, ⟨_, rfl, Qok_val rfl (Ev_move rfl)⟩, ⟨_, rfl, Qok_val rfl (Ev_bini rfl rfl fun _ => bin_and_u32 (~~~(g32 s 4)) (g32 s 6))⟩, ⟨_, rfl, Qok_val rfl (Ev_bini rfl rfl fun _ => bin_xor_u32 ((g32 s 4) &&& (g32 s 5)) ((~~~(g32 s 4)) &&& (g32 s 6)))⟩, ⟨_, rfl, Qok_val rfl (Ev_move rfl)⟩, ⟨_, rfl, Qok_val rfl (Ev_indexArr 64 30 1 t Tryd.underlying44 Tryd.sizeOf30 rfl rfl (by omega) (by omega) (by omega))⟩, ⟨_, rfl, Qok_val rfl (Ev_load rfl (Ld_one Tryd.isAgg30 (MemAt.seg (hG.1.mem (by simp)) (Seg.get (g32_get (i := t) (by rw [constL_len]; omega))) (by omega))))⟩, ⟨_, rfl, Qok_val rfl (Ev_move rfl)⟩, trivial⟩ rfl (Cok_step rfl (Step_callP 86 [U32 (g32 s 4), I64 (11:Int)] (U32 (rotr (g32 s 4) 11)) (Cl_func [U32 (g32 s 4), I64 (11:Int)] Tryd.call86 rfl) (fun w1 hw1 => turn_c (g32 s 4) 11 w1 (by omega) (by omega)))) ?_
    rintro v1 L1 ⟨rfl, rfl⟩
    refine ⟨[(6, U32 ((rotr (g32 s 4) 6) ^^^ (rotr (g32 s 4) 11)))], ?_⟩
    show DP _ _ _ _ _ _ _ _ [⟨nb1, cu32 st, 31, (0, 0)⟩, ⟨nb3, cu32 (zr32 8), 31, (0, 0)⟩, ⟨nb4, cu32 s, 31, (0, 0)⟩]
    refine DP_one ⟨[3, 5], [0, 1, 2, 4, 6, 7, 11, 12, 13, 14, 15, 16, 17, 18, 20, 21, 22, 24], [2, 4], [0, 1, 6, 7, 11, 12, 13, 14, 15, 16, 17, 18, 20, 21, 22, 24], [8]⟩ 8 _ rfl rfl (by decide +kernel) rfl ⟨⟨_, rfl, Qok_val rfl (Ev_indexArr 8 30 1 7 Tryd.underlying31 Tryd.sizeOf30 rfl rfl (by omega) (by omega) (by omega))⟩, ⟨_, rfl, Qok_val rfl (Ev_load rfl (Ld_one Tryd.isAgg30 (MemAt.ent 2 rfl (Seg.get (g32_get (i := 7) (by rw [hs]; omega))))))⟩, ⟨_, rfl, Qok_val rfl (Ev_bini rfl rfl fun _ => bin_xor_u32 (rotr (g32 s 4) 6) (rotr (g32 s 4) 11))⟩, ⟨_, rfl, Qok_val rfl (Ev_move rfl)⟩, ⟨_, rfl, Qok_val rfl (Ev_move rfl)⟩, ⟨_, rfl, Qok_val rfl (Ev_move rfl)⟩, ⟨_, rfl, Qok_val rfl (Ev_bini rfl rfl fun _ => bin_and_u32 (g32 s 4) (g32 s 5))⟩, ⟨_, rfl, Qok_val rfl (Ev_move rfl)⟩, ⟨_, rfl, Qok_val rfl (Ev_un _ _ rfl fun _ => un_xor_u32 _)⟩, ⟨_, rfl, Qok_val rfl (Ev_move rfl)⟩, ⟨_, rfl, Qok_val rfl (Ev_bini rfl rfl fun _ => bin_and_u32 (~~~(g32 s 4)) (g32 s 6))⟩, ⟨_, rfl, Qok_val rfl (Ev_bini rfl rfl fun _ => bin_xor_u32 ((g32 s 4) &&& (g32 s 5)) ((~~~(g32 s 4)) &&& (g32 s 6)))⟩, ⟨_, rfl, Qok_val rfl (Ev_move rfl)⟩, ⟨_, rfl, Qok_val rfl (Ev_indexArr 64 30 1 t Tryd.underlying44 Tryd.sizeOf30 rfl rfl (by omega) (by omega) (by omega))⟩, ⟨_, rfl, Qok_val rfl (Ev_load rfl (Ld_one Tryd.isAgg30 (MemAt.seg (hG.1.mem (by simp)) (Seg.get (g32_get (i := t) (by rw [constL_len]; omega))) (by omega))))⟩, ⟨_, rfl, Qok_val rfl (Ev_move rfl)⟩, trivial⟩ rfl (Cok_step rfl (Step_callP 86 [U32 (g32 s 4), I64 (25:Int)] (U32 (rotr (g32 s 4) 25)) (Cl_func [U32 (g32 s 4), I64 (25:Int)] Tryd.call86 rfl) (fun w1 hw1 => turn_c (g32 s 4) 25 w1 (by omega) (by omega)))) ?_
    rintro v1 L1 ⟨rfl, rfl⟩
    refine ⟨[(9, U32 (((rotr (g32 s 4) 6) ^^^ (rotr (g32 s 4) 11)) ^^^ (rotr (g32 s 4) 25))), (10, U32 ((g32 s 7) + (((rotr (g32 s 4) 6) ^^^ (rotr (g32 s 4) 11)) ^^^ (rotr (g32 s 4) 25)))), (19, U32 (((g32 s 7) + (((rotr (g32 s 4) 6) ^^^ (rotr (g32 s 4) 11)) ^^^ (rotr (g32 s 4) 25))) + (((g32 s 4) &&& (g32 s 5)) ^^^ ((~~~(g32 s 4)) &&& (g32 s 6))))), (23, U32 ((((g32 s 7) + (((rotr (g32 s 4) 6) ^^^ (rotr (g32 s 4) 11)) ^^^ (rotr (g32 s 4) 25))) + (((g32 s 4) &&& (g32 s 5)) ^^^ ((~~~(g32 s 4)) &&& (g32 s 6)))) + (g32 constL t))), (25, U32 (((((g32 s 7) + (((rotr (g32 s 4) 6) ^^^ (rotr (g32 s 4) 11)) ^^^ (rotr (g32 s 4) 25))) + (((g32 s 4) &&& (g32 s 5)) ^^^ ((~~~(g32 s 4)) &&& (g32 s 6)))) + (g32 constL t)) + (g32 (spreadL blk) t))), (26, U32 (((((g32 s 7) + (((rotr (g32 s 4) 6) ^^^ (rotr (g32 s 4) 11)) ^^^ (rotr (g32 s 4) 25))) + (((g32 s 4) &&& (g32 s 5)) ^^^ ((~~~(g32 s 4)) &&& (g32 s 6)))) + (g32 constL t)) + (g32 (spreadL blk) t)))], ?_⟩
    show DP _ _ _ _ _ _ _ _ [⟨nb1, cu32 st, 31, (0, 0)⟩, ⟨nb3, cu32 (zr32 8), 31, (0, 0)⟩, ⟨nb4, cu32 s, 31, (0, 0)⟩]
    refine DP_end ⟨[3, 5, 8], [0, 1, 2, 4, 6, 7, 9, 10, 11, 12, 13, 14, 15, 16, 17, 18, 19, 20, 21, 22, 23, 24, 25, 26], [2, 4, 7], [0, 1, 6, 9, 10, 11, 12, 13, 14, 15, 16, 17, 18, 19, 20, 21, 22, 23, 24, 25, 26], []⟩ rfl rfl (by decide +kernel) rfl ⟨⟨_, rfl, Qok_val rfl (Ev_indexArr 8 30 1 7 Tryd.underlying31 Tryd.sizeOf30 rfl rfl (by omega) (by omega) (by omega))⟩, ⟨_, rfl, Qok_val rfl (Ev_load rfl (Ld_one Tryd.isAgg30 (MemAt.ent 2 rfl (Seg.get (g32_get (i := 7) (by rw [hs]; omega))))))⟩, ⟨_, rfl, Qok_val rfl (Ev_bini rfl rfl fun _ => bin_xor_u32 (rotr (g32 s 4) 6) (rotr (g32 s 4) 11))⟩, ⟨_, rfl, Qok_val rfl (Ev_bini rfl rfl fun _ => bin_xor_u32 ((rotr (g32 s 4) 6) ^^^ (rotr (g32 s 4) 11)) (rotr (g32 s 4) 25))⟩, ⟨_, rfl, Qok_val rfl (Ev_bini rfl rfl fun _ => bin_add_u32 (g32 s 7) (((rotr (g32 s 4) 6) ^^^ (rotr (g32 s 4) 11)) ^^^ (rotr (g32 s 4) 25)))⟩, ⟨_, rfl, Qok_val rfl (Ev_move rfl)⟩, ⟨_, rfl, Qok_val rfl (Ev_move rfl)⟩, ⟨_, rfl, Qok_val rfl (Ev_bini rfl rfl fun _ => bin_and_u32 (g32 s 4) (g32 s 5))⟩, ⟨_, rfl, Qok_val rfl (Ev_move rfl)⟩, ⟨_, rfl, Qok_val rfl (Ev_un _ _ rfl fun _ => un_xor_u32 _)⟩, ⟨_, rfl, Qok_val rfl (Ev_move rfl)⟩, ⟨_, rfl, Qok_val rfl (Ev_bini rfl rfl fun _ => bin_and_u32 (~~~(g32 s 4)) (g32 s 6))⟩, ⟨_, rfl, Qok_val rfl (Ev_bini rfl rfl fun _ => bin_xor_u32 ((g32 s 4) &&& (g32 s 5)) ((~~~(g32 s 4)) &&& (g32 s 6)))⟩, ⟨_, rfl, Qok_val rfl (Ev_bini rfl rfl fun _ => bin_add_u32 ((g32 s 7) + (((rotr (g32 s 4) 6) ^^^ (rotr (g32 s 4) 11)) ^^^ (rotr (g32 s 4) 25))) (((g32 s 4) &&& (g32 s 5)) ^^^ ((~~~(g32 s 4)) &&& (g32 s 6))))⟩, ⟨_, rfl, Qok_val rfl (Ev_move rfl)⟩, ⟨_, rfl, Qok_val rfl (Ev_indexArr 64 30 1 t Tryd.underlying44 Tryd.sizeOf30 rfl rfl (by omega) (by omega) (by omega))⟩, ⟨_, rfl, Qok_val rfl (Ev_load rfl (Ld_one Tryd.isAgg30 (MemAt.seg (hG.1.mem (by simp)) (Seg.get (g32_get (i := t) (by rw [constL_len]; omega))) (by omega))))⟩, ⟨_, rfl, Qok_val rfl (Ev_bini rfl rfl fun _ => bin_add_u32 (((g32 s 7) + (((rotr (g32 s 4) 6) ^^^ (rotr (g32 s 4) 11)) ^^^ (rotr (g32 s 4) 25))) + (((g32 s 4) &&& (g32 s 5)) ^^^ ((~~~(g32 s 4)) &&& (g32 s 6)))) (g32 constL t))⟩, ⟨_, rfl, Qok_val rfl (Ev_move rfl)⟩, ⟨_, rfl, Qok_val rfl (Ev_bini rfl rfl fun _ => bin_add_u32 ((((g32 s 7) + (((rotr (g32 s 4) 6) ^^^ (rotr (g32 s 4) 11)) ^^^ (rotr (g32 s 4) 25))) + (((g32 s 4) &&& (g32 s 5)) ^^^ ((~~~(g32 s 4)) &&& (g32 s 6)))) + (g32 constL t)) (g32 (spreadL blk) t))⟩, ⟨_, rfl, Qok_val rfl (Ev_assign rfl)⟩, trivial⟩ ?_
    refine K_sub (F' := [(36, Ptr nb4 7), (37, U32 (g32 s 7)), (38, U32 (g32 s 4)), (39, U32 (rotr (g32 s 4) 6)), (40, U32 (g32 s 4)), (41, U32 (rotr (g32 s 4) 11)), (42, U32 ((rotr (g32 s 4) 6) ^^^ (rotr (g32 s 4) 11))), (43, U32 (g32 s 4)), (44, U32 (rotr (g32 s 4) 25)), (45, U32 (((rotr (g32 s 4) 6) ^^^ (rotr (g32 s 4) 11)) ^^^ (rotr (g32 s 4) 25))), (46, U32 ((g32 s 7) + (((rotr (g32 s 4) 6) ^^^ (rotr (g32 s 4) 11)) ^^^ (rotr (g32 s 4) 25)))), (47, U32 (g32 s 4)), (48, U32 (g32 s 5)), (49, U32 ((g32 s 4) &&& (g32 s 5))), (50, U32 (g32 s 4)), (51, U32 (~~~(g32 s 4))), (52, U32 (g32 s 6)), (53, U32 ((~~~(g32 s 4)) &&& (g32 s 6))), (54, U32 (((g32 s 4) &&& (g32 s 5)) ^^^ ((~~~(g32 s 4)) &&& (g32 s 6)))), (55, U32 (((g32 s 7) + (((rotr (g32 s 4) 6) ^^^ (rotr (g32 s 4) 11)) ^^^ (rotr (g32 s 4) 25))) + (((g32 s 4) &&& (g32 s 5)) ^^^ ((~~~(g32 s 4)) &&& (g32 s 6))))), (56, I64 ((t:Int))), (57, Ptr 3 t), (58, U32 (g32 constL t)), (59, U32 ((((g32 s 7) + (((rotr (g32 s 4) 6) ^^^ (rotr (g32 s 4) 11)) ^^^ (rotr (g32 s 4) 25))) + (((g32 s 4) &&& (g32 s 5)) ^^^ ((~~~(g32 s 4)) &&& (g32 s 6)))) + (g32 constL t))), (60, U32 (g32 (spreadL blk) t)), (61, U32 (((((g32 s 7) + (((rotr (g32 s 4) 6) ^^^ (rotr (g32 s 4) 11)) ^^^ (rotr (g32 s 4) 25))) + (((g32 s 4) &&& (g32 s 5)) ^^^ ((~~~(g32 s 4)) &&& (g32 s 6)))) + (g32 constL t)) + (g32 (spreadL blk) t))), (14, U32 (((((g32 s 7) + (((rotr (g32 s 4) 6) ^^^ (rotr (g32 s 4) 11)) ^^^ (rotr (g32 s 4) 25))) + (((g32 s 4) &&& (g32 s 5)) ^^^ ((~~~(g32 s 4)) &&& (g32 s 6)))) + (g32 constL t)) + (g32 (spreadL blk) t))), (24, Ptr nb4 0), (25, U32 (g32 s 0)), (26, Ptr nb4 1), (27, U32 (g32 s 1)), (28, Ptr nb4 2), (29, U32 (g32 s 2)), (30, Ptr nb4 4), (31, U32 (g32 s 4)), (32, Ptr nb4 5), (33, U32 (g32 s 5)), (34, Ptr nb4 6), (35, U32 (g32 s 6)), (8, U32 (g32 s 0)), (9, U32 (g32 s 1)), (10, U32 (g32 s 2)), (11, U32 (g32 s 4)), (12, U32 (g32 s 5)), (13, U32 (g32 s 6)), (2, Ptr nb1 0), (4, Ptr nb3 0), (5, Ptr nb4 0), (19, .agg (cu32 (spreadL blk)).toArray), (20, I64 ((t:Int))), (21, .bool (decide (((t:Int)) < (64:Int)))), (22, I64 ((t:Int))), (23, U32 (g32 (spreadL blk) t)), (6, I64 ((t:Int))), (7, U32 (g32 (spreadL blk) t))]) (Sub.cons (by kernel_rfl) (Sub.cons (by kernel_rfl) (Sub.cons (by kernel_rfl) (Sub.cons (by kernel_rfl) (Sub.cons (by kernel_rfl) (Sub.cons (by kernel_rfl) (Sub.cons (by kernel_rfl) (Sub.cons (by kernel_rfl) (Sub.cons (by kernel_rfl) (Sub.cons (by kernel_rfl) (Sub.cons (by kernel_rfl) (Sub.cons (by kernel_rfl) (Sub.cons (by kernel_rfl) (Sub.cons (by kernel_rfl) (Sub.cons (by kernel_rfl) (Sub.cons (by kernel_rfl) (Sub.cons (by kernel_rfl) (Sub.cons (by kernel_rfl) (Sub.cons (by kernel_rfl) (Sub.cons (by kernel_rfl) (Sub.cons (by kernel_rfl) (Sub.cons (by kernel_rfl) (Sub.cons (by kernel_rfl) (Sub.cons (by kernel_rfl) (Sub.cons (by kernel_rfl) (Sub.cons (by kernel_rfl) (Sub.cons (by kernel_rfl) (Sub.cons (by kernel_rfl) (Sub.cons (by kernel_rfl) (Sub.cons (by kernel_rfl) (Sub.cons (by kernel_rfl) (Sub.cons (by kernel_rfl) (Sub.cons (by kernel_rfl) (Sub.cons (by kernel_rfl) (Sub.cons (by kernel_rfl) (Sub.cons (by kernel_rfl) (Sub.cons (by kernel_rfl) (Sub.cons (by kernel_rfl) (Sub.cons (by kernel_rfl) (Sub.cons (by kernel_rfl) (Sub.cons (by kernel_rfl) (Sub.cons (by kernel_rfl) (Sub.cons (by kernel_rfl) (Sub.cons (by kernel_rfl) (Sub.cons (by kernel_rfl) (Sub.cons (by kernel_rfl) (Sub.cons (by kernel_rfl) (Sub.cons (by kernel_rfl) (Sub.cons (by kernel_rfl) (Sub.cons (by kernel_rfl) (Sub.cons (by kernel_rfl) (Sub.cons (by kernel_rfl) (Sub.cons (by kernel_rfl) (Sub.cons (by kernel_rfl) (Sub.cons (by kernel_rfl) (Sub.nil)))))))))))))))))))))))))))))))))))))))))))))))))))))))) ?_
    show JQ _ _ _ [(36, Ptr nb4 7), (37, U32 (g32 s 7)), (38, U32 (g32 s 4)), (39, U32 (rotr (g32 s 4) 6)), (40, U32 (g32 s 4)), (41, U32 (rotr (g32 s 4) 11)), (42, U32 ((rotr (g32 s 4) 6) ^^^ (rotr (g32 s 4) 11))), (43, U32 (g32 s 4)), (44, U32 (rotr (g32 s 4) 25)), (45, U32 (((rotr (g32 s 4) 6) ^^^ (rotr (g32 s 4) 11)) ^^^ (rotr (g32 s 4) 25))), (46, U32 ((g32 s 7) + (((rotr (g32 s 4) 6) ^^^ (rotr (g32 s 4) 11)) ^^^ (rotr (g32 s 4) 25)))), (47, U32 (g32 s 4)), (48, U32 (g32 s 5)), (49, U32 ((g32 s 4) &&& (g32 s 5))), (50, U32 (g32 s 4)), (51, U32 (~~~(g32 s 4))), (52, U32 (g32 s 6)), (53, U32 ((~~~(g32 s 4)) &&& (g32 s 6))), (54, U32 (((g32 s 4) &&& (g32 s 5)) ^^^ ((~~~(g32 s 4)) &&& (g32 s 6)))), (55, U32 (((g32 s 7) + (((rotr (g32 s 4) 6) ^^^ (rotr (g32 s 4) 11)) ^^^ (rotr (g32 s 4) 25))) + (((g32 s 4) &&& (g32 s 5)) ^^^ ((~~~(g32 s 4)) &&& (g32 s 6))))), (56, I64 ((t:Int))), (57, Ptr 3 t), (58, U32 (g32 constL t)), (59, U32 ((((g32 s 7) + (((rotr (g32 s 4) 6) ^^^ (rotr (g32 s 4) 11)) ^^^ (rotr (g32 s 4) 25))) + (((g32 s 4) &&& (g32 s 5)) ^^^ ((~~~(g32 s 4)) &&& (g32 s 6)))) + (g32 constL t))), (60, U32 (g32 (spreadL blk) t)), (61, U32 (((((g32 s 7) + (((rotr (g32 s 4) 6) ^^^ (rotr (g32 s 4) 11)) ^^^ (rotr (g32 s 4) 25))) + (((g32 s 4) &&& (g32 s 5)) ^^^ ((~~~(g32 s 4)) &&& (g32 s 6)))) + (g32 constL t)) + (g32 (spreadL blk) t))), (14, U32 (((((g32 s 7) + (((rotr (g32 s 4) 6) ^^^ (rotr (g32 s 4) 11)) ^^^ (rotr (g32 s 4) 25))) + (((g32 s 4) &&& (g32 s 5)) ^^^ ((~~~(g32 s 4)) &&& (g32 s 6)))) + (g32 constL t)) + (g32 (spreadL blk) t))), (24, Ptr nb4 0), (25, U32 (g32 s 0)), (26, Ptr nb4 1), (27, U32 (g32 s 1)), (28, Ptr nb4 2), (29, U32 (g32 s 2)), (30, Ptr nb4 4), (31, U32 (g32 s 4)), (32, Ptr nb4 5), (33, U32 (g32 s 5)), (34, Ptr nb4 6), (35, U32 (g32 s 6)), (8, U32 (g32 s 0)), (9, U32 (g32 s 1)), (10, U32 (g32 s 2)), (11, U32 (g32 s 4)), (12, U32 (g32 s 5)), (13, U32 (g32 s 6)), (2, Ptr nb1 0), (4, Ptr nb3 0), (5, Ptr nb4 0), (19, .agg (cu32 (spreadL blk)).toArray), (20, I64 ((t:Int))), (21, .bool (decide (((t:Int)) < (64:Int)))), (22, I64 ((t:Int))), (23, U32 (g32 (spreadL blk) t)), (6, I64 ((t:Int))), (7, U32 (g32 (spreadL blk) t))] _
    refine JQ_then ?_
    refine JC_seq ?_
    refine JC_region ?_
    refine JL_val _ (Ev_move rfl) rfl ?_
    refine JL_step (Step_callP 86 [U32 (g32 s 0), I64 (2:Int)] (U32 (rotr (g32 s 0) 2)) (Cl_func [U32 (g32 s 0), I64 (2:Int)] Tryd.call86 rfl) (fun w1 hw1 => turn_c (g32 s 0) 2 w1 (by omega) (by omega))) rfl ?_
    rintro v1 L1 ⟨rfl, rfl⟩
    show JL _ _ _ _ ((63, U32 (rotr (g32 s 0) 2)) :: _) [⟨nb1, cu32 st, 31, (0, 0)⟩, ⟨nb3, cu32 (zr32 8), 31, (0, 0)⟩, ⟨nb4, cu32 s, 31, (0, 0)⟩]
    refine JL_val _ (Ev_move rfl) rfl ?_
    refine JL_step (Step_callP 86 [U32 (g32 s 0), I64 (13:Int)] (U32 (rotr (g32 s 0) 13)) (Cl_func [U32 (g32 s 0), I64 (13:Int)] Tryd.call86 rfl) (fun w1 hw1 => turn_c (g32 s 0) 13 w1 (by omega) (by omega))) rfl ?_
    rintro v1 L1 ⟨rfl, rfl⟩
    show JL _ _ _ _ ((65, U32 (rotr (g32 s 0) 13)) :: _) [⟨nb1, cu32 st, 31, (0, 0)⟩, ⟨nb3, cu32 (zr32 8), 31, (0, 0)⟩, ⟨nb4, cu32 s, 31, (0, 0)⟩]
    refine JL_val (U32 ((rotr (g32 s 0) 2) ^^^ (rotr (g32 s 0) 13))) (Ev_bini rfl rfl fun _ => bin_xor_u32 (rotr (g32 s 0) 2) (rotr (g32 s 0) 13)) rfl ?_
    refine JL_val _ (Ev_move rfl) rfl ?_
    refine JL_step (Step_callP 86 [U32 (g32 s 0), I64 (22:Int)] (U32 (rotr (g32 s 0) 22)) (Cl_func [U32 (g32 s 0), I64 (22:Int)] Tryd.call86 rfl) (fun w1 hw1 => turn_c (g32 s 0) 22 w1 (by omega) (by omega))) rfl ?_
    rintro v1 L1 ⟨rfl, rfl⟩
    show JL _ _ _ _ ((68, U32 (rotr (g32 s 0) 22)) :: _) [⟨nb1, cu32 st, 31, (0, 0)⟩, ⟨nb3, cu32 (zr32 8), 31, (0, 0)⟩, ⟨nb4, cu32 s, 31, (0, 0)⟩]
    refine JL_val (U32 (((rotr (g32 s 0) 2) ^^^ (rotr (g32 s 0) 13)) ^^^ (rotr (g32 s 0) 22))) (Ev_bini rfl rfl fun _ => bin_xor_u32 ((rotr (g32 s 0) 2) ^^^ (rotr (g32 s 0) 13)) (rotr (g32 s 0) 22)) rfl ?_
    refine JL_val _ (Ev_move rfl) rfl ?_
    refine JL_val _ (Ev_move rfl) rfl ?_
    refine JL_val (U32 ((g32 s 0) &&& (g32 s 1))) (Ev_bini rfl rfl fun _ => bin_and_u32 (g32 s 0) (g32 s 1)) rfl ?_
    refine JL_val _ (Ev_move rfl) rfl ?_
    refine JL_val _ (Ev_move rfl) rfl ?_
    refine JL_val (U32 ((g32 s 0) &&& (g32 s 2))) (Ev_bini rfl rfl fun _ => bin_and_u32 (g32 s 0) (g32 s 2)) rfl ?_
    refine JL_val (U32 (((g32 s 0) &&& (g32 s 1)) ^^^ ((g32 s 0) &&& (g32 s 2)))) (Ev_bini rfl rfl fun _ => bin_xor_u32 ((g32 s 0) &&& (g32 s 1)) ((g32 s 0) &&& (g32 s 2))) rfl ?_
    refine JL_val _ (Ev_move rfl) rfl ?_
    refine JL_val _ (Ev_move rfl) rfl ?_
    refine JL_val (U32 ((g32 s 1) &&& (g32 s 2))) (Ev_bini rfl rfl fun _ => bin_and_u32 (g32 s 1) (g32 s 2)) rfl ?_
    refine JL_val (U32 ((((g32 s 0) &&& (g32 s 1)) ^^^ ((g32 s 0) &&& (g32 s 2))) ^^^ ((g32 s 1) &&& (g32 s 2)))) (Ev_bini rfl rfl fun _ => bin_xor_u32 (((g32 s 0) &&& (g32 s 1)) ^^^ ((g32 s 0) &&& (g32 s 2))) ((g32 s 1) &&& (g32 s 2))) rfl ?_
    refine JL_val (U32 ((((rotr (g32 s 0) 2) ^^^ (rotr (g32 s 0) 13)) ^^^ (rotr (g32 s 0) 22)) + ((((g32 s 0) &&& (g32 s 1)) ^^^ ((g32 s 0) &&& (g32 s 2))) ^^^ ((g32 s 1) &&& (g32 s 2))))) (Ev_bini rfl rfl fun _ => bin_add_u32 (((rotr (g32 s 0) 2) ^^^ (rotr (g32 s 0) 13)) ^^^ (rotr (g32 s 0) 22)) ((((g32 s 0) &&& (g32 s 1)) ^^^ ((g32 s 0) &&& (g32 s 2))) ^^^ ((g32 s 1) &&& (g32 s 2)))) rfl ?_
    refine JL_val _ (Ev_assign rfl) rfl ?_
    refine JL_nil ?_
    refine JQ_then ?_
    refine JC_region ?_
    refine JL_val _ (Ev_move rfl) rfl ?_
    refine JL_val _ (Ev_move rfl) rfl ?_
    refine JL_val (U32 ((((((g32 s 7) + (((rotr (g32 s 4) 6) ^^^ (rotr (g32 s 4) 11)) ^^^ (rotr (g32 s 4) 25))) + (((g32 s 4) &&& (g32 s 5)) ^^^ ((~~~(g32 s 4)) &&& (g32 s 6)))) + (g32 constL t)) + (g32 (spreadL blk) t)) + ((((rotr (g32 s 0) 2) ^^^ (rotr (g32 s 0) 13)) ^^^ (rotr (g32 s 0) 22)) + ((((g32 s 0) &&& (g32 s 1)) ^^^ ((g32 s 0) &&& (g32 s 2))) ^^^ ((g32 s 1) &&& (g32 s 2)))))) (Ev_bini rfl rfl fun _ => bin_add_u32 (((((g32 s 7) + (((rotr (g32 s 4) 6) ^^^ (rotr (g32 s 4) 11)) ^^^ (rotr (g32 s 4) 25))) + (((g32 s 4) &&& (g32 s 5)) ^^^ ((~~~(g32 s 4)) &&& (g32 s 6)))) + (g32 constL t)) + (g32 (spreadL blk) t)) ((((rotr (g32 s 0) 2) ^^^ (rotr (g32 s 0) 13)) ^^^ (rotr (g32 s 0) 22)) + ((((g32 s 0) &&& (g32 s 1)) ^^^ ((g32 s 0) &&& (g32 s 2))) ^^^ ((g32 s 1) &&& (g32 s 2))))) rfl ?_
    refine JL_val _ (Ev_move rfl) rfl ?_
    refine JL_val _ (Ev_move rfl) rfl ?_
    refine JL_val _ (Ev_move rfl) rfl ?_
    refine JL_val (Ptr nb4 3) (Ev_indexArr 8 30 1 3 Tryd.underlying31 Tryd.sizeOf30 rfl rfl (by omega) (by omega) (by omega)) rfl ?_
    refine JL_val (U32 (g32 s 3)) (Ev_load rfl (Ld_one Tryd.isAgg30 (MemAt.ent 2 rfl (Seg.get (g32_get (i := 3) (by rw [hs]; omega)))))) rfl ?_
    refine JL_val _ (Ev_move rfl) rfl ?_
    refine JL_val (U32 ((g32 s 3) + (((((g32 s 7) + (((rotr (g32 s 4) 6) ^^^ (rotr (g32 s 4) 11)) ^^^ (rotr (g32 s 4) 25))) + (((g32 s 4) &&& (g32 s 5)) ^^^ ((~~~(g32 s 4)) &&& (g32 s 6)))) + (g32 constL t)) + (g32 (spreadL blk) t)))) (Ev_bini rfl rfl fun _ => bin_add_u32 (g32 s 3) (((((g32 s 7) + (((rotr (g32 s 4) 6) ^^^ (rotr (g32 s 4) 11)) ^^^ (rotr (g32 s 4) 25))) + (((g32 s 4) &&& (g32 s 5)) ^^^ ((~~~(g32 s 4)) &&& (g32 s 6)))) + (g32 constL t)) + (g32 (spreadL blk) t))) rfl ?_
    refine JL_val _ (Ev_move rfl) rfl ?_
    refine JL_val _ (Ev_move rfl) rfl ?_
    refine JL_val _ (Ev_move rfl) rfl ?_
    refine JL_val (.agg (cu32 ([(((((g32 s 7) + (((rotr (g32 s 4) 6) ^^^ (rotr (g32 s 4) 11)) ^^^ (rotr (g32 s 4) 25))) + (((g32 s 4) &&& (g32 s 5)) ^^^ ((~~~(g32 s 4)) &&& (g32 s 6)))) + (g32 constL t)) + (g32 (spreadL blk) t)) + ((((rotr (g32 s 0) 2) ^^^ (rotr (g32 s 0) 13)) ^^^ (rotr (g32 s 0) 22)) + ((((g32 s 0) &&& (g32 s 1)) ^^^ ((g32 s 0) &&& (g32 s 2))) ^^^ ((g32 s 1) &&& (g32 s 2)))), g32 s 0, g32 s 1, g32 s 2, (g32 s 3) + (((((g32 s 7) + (((rotr (g32 s 4) 6) ^^^ (rotr (g32 s 4) 11)) ^^^ (rotr (g32 s 4) 25))) + (((g32 s 4) &&& (g32 s 5)) ^^^ ((~~~(g32 s 4)) &&& (g32 s 6)))) + (g32 constL t)) + (g32 (spreadL blk) t)), g32 s 4, g32 s 5, g32 s 6])).toArray) (Ev_build [(0, U32 ((((((g32 s 7) + (((rotr (g32 s 4) 6) ^^^ (rotr (g32 s 4) 11)) ^^^ (rotr (g32 s 4) 25))) + (((g32 s 4) &&& (g32 s 5)) ^^^ ((~~~(g32 s 4)) &&& (g32 s 6)))) + (g32 constL t)) + (g32 (spreadL blk) t)) + ((((rotr (g32 s 0) 2) ^^^ (rotr (g32 s 0) 13)) ^^^ (rotr (g32 s 0) 22)) + ((((g32 s 0) &&& (g32 s 1)) ^^^ ((g32 s 0) &&& (g32 s 2))) ^^^ ((g32 s 1) &&& (g32 s 2)))))), (1, U32 (g32 s 0)), (2, U32 (g32 s 1)), (3, U32 (g32 s 2)), (4, U32 ((g32 s 3) + (((((g32 s 7) + (((rotr (g32 s 4) 6) ^^^ (rotr (g32 s 4) 11)) ^^^ (rotr (g32 s 4) 25))) + (((g32 s 4) &&& (g32 s 5)) ^^^ ((~~~(g32 s 4)) &&& (g32 s 6)))) + (g32 constL t)) + (g32 (spreadL blk) t)))), (5, U32 (g32 s 4)), (6, U32 (g32 s 5)), (7, U32 (g32 s 6))] _ rfl (fun _ => by kernel_rfl)) rfl ?_
    refine JL_step (Step_store 2 nb4 0 8 (cu32 s) 31 (.agg (cu32 ([(((((g32 s 7) + (((rotr (g32 s 4) 6) ^^^ (rotr (g32 s 4) 11)) ^^^ (rotr (g32 s 4) 25))) + (((g32 s 4) &&& (g32 s 5)) ^^^ ((~~~(g32 s 4)) &&& (g32 s 6)))) + (g32 constL t)) + (g32 (spreadL blk) t)) + ((((rotr (g32 s 0) 2) ^^^ (rotr (g32 s 0) 13)) ^^^ (rotr (g32 s 0) 22)) + ((((g32 s 0) &&& (g32 s 1)) ^^^ ((g32 s 0) &&& (g32 s 2))) ^^^ ((g32 s 1) &&& (g32 s 2)))), g32 s 0, g32 s 1, g32 s 2, (g32 s 3) + (((((g32 s 7) + (((rotr (g32 s 4) 6) ^^^ (rotr (g32 s 4) 11)) ^^^ (rotr (g32 s 4) 25))) + (((g32 s 4) &&& (g32 s 5)) ^^^ ((~~~(g32 s 4)) &&& (g32 s 6)))) + (g32 constL t)) + (g32 (spreadL blk) t)), g32 s 4, g32 s 5, g32 s 6])).toArray) (cu32 ([(((((g32 s 7) + (((rotr (g32 s 4) 6) ^^^ (rotr (g32 s 4) 11)) ^^^ (rotr (g32 s 4) 25))) + (((g32 s 4) &&& (g32 s 5)) ^^^ ((~~~(g32 s 4)) &&& (g32 s 6)))) + (g32 constL t)) + (g32 (spreadL blk) t)) + ((((rotr (g32 s 0) 2) ^^^ (rotr (g32 s 0) 13)) ^^^ (rotr (g32 s 0) 22)) + ((((g32 s 0) &&& (g32 s 1)) ^^^ ((g32 s 0) &&& (g32 s 2))) ^^^ ((g32 s 1) &&& (g32 s 2)))), g32 s 0, g32 s 1, g32 s 2, (g32 s 3) + (((((g32 s 7) + (((rotr (g32 s 4) 6) ^^^ (rotr (g32 s 4) 11)) ^^^ (rotr (g32 s 4) 25))) + (((g32 s 4) &&& (g32 s 5)) ^^^ ((~~~(g32 s 4)) &&& (g32 s 6)))) + (g32 constL t)) + (g32 (spreadL blk) t)), g32 s 4, g32 s 5, g32 s 6])) (cu32 ([(((((g32 s 7) + (((rotr (g32 s 4) 6) ^^^ (rotr (g32 s 4) 11)) ^^^ (rotr (g32 s 4) 25))) + (((g32 s 4) &&& (g32 s 5)) ^^^ ((~~~(g32 s 4)) &&& (g32 s 6)))) + (g32 constL t)) + (g32 (spreadL blk) t)) + ((((rotr (g32 s 0) 2) ^^^ (rotr (g32 s 0) 13)) ^^^ (rotr (g32 s 0) 22)) + ((((g32 s 0) &&& (g32 s 1)) ^^^ ((g32 s 0) &&& (g32 s 2))) ^^^ ((g32 s 1) &&& (g32 s 2)))), g32 s 0, g32 s 1, g32 s 2, (g32 s 3) + (((((g32 s 7) + (((rotr (g32 s 4) 6) ^^^ (rotr (g32 s 4) 11)) ^^^ (rotr (g32 s 4) 25))) + (((g32 s 4) &&& (g32 s 5)) ^^^ ((~~~(g32 s 4)) &&& (g32 s 6)))) + (g32 constL t)) + (g32 (spreadL blk) t)), g32 s 4, g32 s 5, g32 s 6])) rfl rfl rfl (by first | rfl | simp) Tryd.sizeOf31 (by simp []) (by first | exact one_u8 | exact one_u32 | exact one_u64 | (simp [cu8, cu32, cu64, Value.oneCell']; done)) (by simp [hs]) (lay_whole (by simp [hs]))) rfl ?_
    rintro v1 L1 ⟨rfl, rfl⟩
    show JL _ _ _ _ _ [⟨nb1, cu32 st, 31, (0, 0)⟩, ⟨nb3, cu32 (zr32 8), 31, (0, 0)⟩, ⟨nb4, cu32 ([(((((g32 s 7) + (((rotr (g32 s 4) 6) ^^^ (rotr (g32 s 4) 11)) ^^^ (rotr (g32 s 4) 25))) + (((g32 s 4) &&& (g32 s 5)) ^^^ ((~~~(g32 s 4)) &&& (g32 s 6)))) + (g32 constL t)) + (g32 (spreadL blk) t)) + ((((rotr (g32 s 0) 2) ^^^ (rotr (g32 s 0) 13)) ^^^ (rotr (g32 s 0) 22)) + ((((g32 s 0) &&& (g32 s 1)) ^^^ ((g32 s 0) &&& (g32 s 2))) ^^^ ((g32 s 1) &&& (g32 s 2)))), g32 s 0, g32 s 1, g32 s 2, (g32 s 3) + (((((g32 s 7) + (((rotr (g32 s 4) 6) ^^^ (rotr (g32 s 4) 11)) ^^^ (rotr (g32 s 4) 25))) + (((g32 s 4) &&& (g32 s 5)) ^^^ ((~~~(g32 s 4)) &&& (g32 s 6)))) + (g32 constL t)) + (g32 (spreadL blk) t)), g32 s 4, g32 s 5, g32 s 6]), 31, (0, 0)⟩]
    refine JL_nil ?_
    refine JQ_in_normal ?_
    refine JQ_then ?_
    refine JC_region ?_
    refine JL_val (I64 ((t:Int) + 1)) (Ev_bini rfl rfl fun _ => bin_add_i _ _ ((t:Int) + 1) (by omega) (by omega)) rfl ?_
    refine JL_val _ (Ev_move rfl) rfl ?_
    refine JL_nil ?_
    refine JQ_thenK ?_
    refine K_next (t + 1, [(((((g32 s 7) + (((rotr (g32 s 4) 6) ^^^ (rotr (g32 s 4) 11)) ^^^ (rotr (g32 s 4) 25))) + (((g32 s 4) &&& (g32 s 5)) ^^^ ((~~~(g32 s 4)) &&& (g32 s 6)))) + (g32 constL t)) + (g32 (spreadL blk) t)) + ((((rotr (g32 s 0) 2) ^^^ (rotr (g32 s 0) 13)) ^^^ (rotr (g32 s 0) 22)) + ((((g32 s 0) &&& (g32 s 1)) ^^^ ((g32 s 0) &&& (g32 s 2))) ^^^ ((g32 s 1) &&& (g32 s 2)))), g32 s 0, g32 s 1, g32 s 2, (g32 s 3) + (((((g32 s 7) + (((rotr (g32 s 4) 6) ^^^ (rotr (g32 s 4) 11)) ^^^ (rotr (g32 s 4) 25))) + (((g32 s 4) &&& (g32 s 5)) ^^^ ((~~~(g32 s 4)) &&& (g32 s 6)))) + (g32 constL t)) + (g32 (spreadL blk) t)), g32 s 4, g32 s 5, g32 s 6]) ⟨by omega, by rw [cpN, ← hx2]; rfl, rfl⟩ (by first | (simp; omega) | simp) (Sub.cons rfl (Sub.cons rfl (Sub.cons rfl (Sub.cons rfl (Sub.cons rfl (Sub.nil)))))) rfl
  ·
    have hp1 : ¬ (((t:Int)) < (64:Int)) := of_decide_eq_false hb1
    refine JC_exit ?_
    refine JQ_then_exit ?_
    refine JQ_then_exit ?_
    refine JQ_in_same ?_
    refine JQ_then ?_
    refine JC_seq ?_
    refine JC_seq ?_
    refine JC_region ?_
    refine JL_val _ (Ev_move rfl) rfl ?_
    refine JL_nil ?_
    refine JQ_then ?_
    refine JC_block ?_
    refine JC_loop (ι := Nat × List UInt32) (fun ⟨i, u⟩ => [(2, Ptr nb1 0), (4, Ptr nb3 0), (5, Ptr nb4 0), (97, I64 ((i:Int)))]) (fun ⟨i, u⟩ => [⟨nb1, cu32 st, 31, (0, 0)⟩, ⟨nb3, cu32 (zr32 8), 31, (0, 0)⟩, ⟨nb4, cu32 u, 31, (0, 0)⟩]) (fun ⟨i, u⟩ => i ≤ 8 ∧ u = adN st s i ∧ u.length = 8) (fun ⟨i, u⟩ => 8 - i) (0, s) ⟨by omega, by rw [adN], hs⟩ (Sub.cons rfl (Sub.cons rfl (Sub.cons rfl (Sub.cons rfl (Sub.nil))))) rfl ?_
    rintro ⟨i, u⟩ ⟨hy1, hy2, hu⟩
    show JC _ _ _ [(2, Ptr nb1 0), (4, Ptr nb3 0), (5, Ptr nb4 0), (97, I64 ((i:Int)))] [⟨nb1, cu32 st, 31, (0, 0)⟩, ⟨nb3, cu32 (zr32 8), 31, (0, 0)⟩, ⟨nb4, cu32 u, 31, (0, 0)⟩]
    refine JC_seq ?_
    refine JC_region ?_
    refine JL_val (.bool (decide (((i:Int)) < (8:Int)))) (Ev_bini rfl rfl fun _ => bin_lss_i _ _) rfl ?_
    refine JL_nil ?_
    refine JQ_then ?_
    refine JC_seq ?_
    refine JC_cond (decide (((i:Int)) < (8:Int))) rfl (fun hb2 => ?_) (fun hb2 => ?_)
    ·
      have hp2 : ((i:Int)) < (8:Int) := of_decide_eq_true hb2
      refine JC_skip ?_
      refine JQ_then ?_
      refine JC_seq ?_
      refine JC_block ?_
      refine JC_seq ?_
      refine JC_region ?_
      refine JL_val _ (Ev_move rfl) rfl ?_
      refine JL_val _ (Ev_assign rfl) rfl ?_
      refine JL_nil ?_
      refine JQ_then ?_
      refine JC_draw 110 2 [(0, I64 ((i:Int))), (1, Ptr nb4 i), (2, U32 (g32 u i)), (3, I64 ((i:Int))), (4, Ptr nb1 i), (5, U32 (g32 st i)), (6, U32 ((g32 u i) + (g32 st i))), (7, Ptr nb4 i)] Tryd.mixed rfl (by decide +kernel) ?_
      have hl1 : (u.set i ((g32 u i) + (g32 st i))).length = 8 := by simp [hu]
      refine DP_one ⟨[], [0, 1, 2, 3, 4, 5, 6, 7], [], [0, 1, 2, 3, 4, 5, 6, 7], [8]⟩ 8 _ rfl rfl (by decide +kernel) rfl ⟨⟨_, rfl, Qok_val rfl (Ev_move rfl)⟩, ⟨_, rfl, Qok_val rfl (Ev_indexArr 8 30 1 i Tryd.underlying31 Tryd.sizeOf30 rfl rfl (by omega) (by omega) (by omega))⟩, ⟨_, rfl, Qok_val rfl (Ev_load rfl (Ld_one Tryd.isAgg30 (MemAt.ent 2 rfl (Seg.get (g32_get (i := i) (by rw [hu]; omega))))))⟩, ⟨_, rfl, Qok_val rfl (Ev_move rfl)⟩, ⟨_, rfl, Qok_val rfl (Ev_indexArr 8 30 1 i Tryd.underlying31 Tryd.sizeOf30 rfl rfl (by omega) (by omega) (by omega))⟩, ⟨_, rfl, Qok_val rfl (Ev_load rfl (Ld_one Tryd.isAgg30 (MemAt.ent 0 rfl (Seg.get (g32_get (i := i) (by rw [hs0]; omega))))))⟩, ⟨_, rfl, Qok_val rfl (Ev_bini rfl rfl fun _ => bin_add_u32 (g32 u i) (g32 st i))⟩, ⟨_, rfl, Qok_val rfl (Ev_indexArr 8 30 1 i Tryd.underlying31 Tryd.sizeOf30 rfl rfl (by omega) (by omega) (by omega))⟩, trivial⟩ rfl (Cok_step rfl (Step_store 2 nb4 i 1 (cu32 u) 31 (U32 ((g32 u i) + (g32 st i))) ([U32 ((g32 u i) + (g32 st i))]) (cu32 (u.set i ((g32 u i) + (g32 st i)))) rfl rfl rfl rfl Tryd.sizeOf30 rfl (by simp [Value.oneCell']) (by simp [hu]; try omega) (lay32 _ _ _ (by rw [hu]; omega)))) ?_
      rintro v1 L1 ⟨rfl, rfl⟩
      refine ⟨[], ?_⟩
      show DP _ _ _ _ _ _ _ _ [⟨nb1, cu32 st, 31, (0, 0)⟩, ⟨nb3, cu32 (zr32 8), 31, (0, 0)⟩, ⟨nb4, cu32 (u.set i ((g32 u i) + (g32 st i))), 31, (0, 0)⟩]
      refine DP_end ⟨[8], [0, 1, 2, 3, 4, 5, 6, 7], [0, 1, 2, 3, 4, 5, 6, 7], [], []⟩ rfl rfl (by decide +kernel) rfl trivial ?_
      refine K_sub (F' := [(100, I64 ((i:Int))), (101, Ptr nb4 i), (102, U32 (g32 u i)), (103, I64 ((i:Int))), (104, Ptr nb1 i), (105, U32 (g32 st i)), (106, U32 ((g32 u i) + (g32 st i))), (107, Ptr nb4 i), (2, Ptr nb1 0), (4, Ptr nb3 0), (5, Ptr nb4 0), (97, I64 ((i:Int))), (98, .bool (decide (((i:Int)) < (8:Int)))), (99, I64 ((i:Int))), (16, I64 ((i:Int)))]) (Sub.cons (by kernel_rfl) (Sub.cons (by kernel_rfl) (Sub.cons (by kernel_rfl) (Sub.cons (by kernel_rfl) (Sub.cons (by kernel_rfl) (Sub.cons (by kernel_rfl) (Sub.cons (by kernel_rfl) (Sub.cons (by kernel_rfl) (Sub.cons (by kernel_rfl) (Sub.cons (by kernel_rfl) (Sub.cons (by kernel_rfl) (Sub.cons (by kernel_rfl) (Sub.cons (by kernel_rfl) (Sub.cons (by kernel_rfl) (Sub.cons (by kernel_rfl) (Sub.nil)))))))))))))))) ?_
      show JQ _ _ _ [(100, I64 ((i:Int))), (101, Ptr nb4 i), (102, U32 (g32 u i)), (103, I64 ((i:Int))), (104, Ptr nb1 i), (105, U32 (g32 st i)), (106, U32 ((g32 u i) + (g32 st i))), (107, Ptr nb4 i), (2, Ptr nb1 0), (4, Ptr nb3 0), (5, Ptr nb4 0), (97, I64 ((i:Int))), (98, .bool (decide (((i:Int)) < (8:Int)))), (99, I64 ((i:Int))), (16, I64 ((i:Int)))] _
      refine JQ_in_normal ?_
      refine JQ_then ?_
      refine JC_region ?_
      refine JL_val (I64 ((i:Int) + 1)) (Ev_bini rfl rfl fun _ => bin_add_i _ _ ((i:Int) + 1) (by omega) (by omega)) rfl ?_
      refine JL_val _ (Ev_move rfl) rfl ?_
      refine JL_nil ?_
      refine JQ_thenK ?_
      refine K_next (i + 1, u.set i ((g32 u i) + (g32 st i))) ⟨by omega, by rw [adN, ← hy2], hl1⟩ (by first | (simp; omega) | simp) (Sub.cons rfl (Sub.cons rfl (Sub.cons rfl (Sub.cons rfl (Sub.nil))))) rfl
    ·
      have hp2 : ¬ (((i:Int)) < (8:Int)) := of_decide_eq_false hb2
      refine JC_exit ?_
      refine JQ_then_exit ?_
      refine JQ_then_exit ?_
      refine JQ_in_same ?_
      refine JQ_then ?_
      refine JC_seq ?_
      refine JC_region ?_
      refine JL_val (.agg (cu32 u).toArray) (Ev_load rfl (Ld_agg Tryd.isAgg31 Tryd.sizeOf31 (len_cu32 hu) (MemAt.ent 2 rfl (Seg.whole _)))) rfl ?_
      refine JL_step (Step_store 1 nb3 0 8 (cu32 (zr32 8)) 31 (.agg (cu32 u).toArray) (cu32 u) (cu32 u) rfl rfl rfl (by first | rfl | simp) Tryd.sizeOf31 (len_cu32 hu) (by first | exact one_u8 | exact one_u32 | exact one_u64 | (simp [cu8, cu32, cu64, Value.oneCell']; done)) (by simp [(zr32_len 8)]) (lay_whole (by simp [(zr32_len 8), hu]))) rfl ?_
      rintro v1 L1 ⟨rfl, rfl⟩
      show JL _ _ _ _ _ [⟨nb1, cu32 st, 31, (0, 0)⟩, ⟨nb3, cu32 u, 31, (0, 0)⟩, ⟨nb4, cu32 u, 31, (0, 0)⟩]
      refine JL_nil ?_
      refine JQ_then ?_
      refine JC_ret ?_
      refine JQ_ret (.agg (cu32 u).toArray) (res1 Tryd.results28 (RV_cell rfl (Ld_agg Tryd.isAgg31 Tryd.sizeOf31 (len_cu32 hu) (MemAt.ent 1 rfl (Seg.whole _))))) fun w1 hw1 => ?_
      have e1 : t = 64 := by omega
      have e2 : i = 8 := by omega
      subst e1; subst e2
      rw [show u = comprL constL st blk by rw [comprL, hy2, hx2]]
      exact ⟨_, [], rfl, ⟨rfl, rfl⟩, hw1.sub (by simp) (by simp)⟩

end Go.Proofs.YtncoifiafklkjaaDoor
namespace Go.Proofs.YtncoifiafklkjaaDoor
open Go Go.Sx
set_option linter.unusedVariables false
set_option linter.unusedSimpArgs false
set_option maxRecDepth 100000
attribute [local irreducible] mid zr8 zr32 rotr wordL spreadL comprL cpN adN spN constL initL
theorem scloneNil_c  (w : World) : Calls Tryd.prog 84 #[.slice none 0 0] w (Post w [] (fun v L => v = .slice none 0 0 ∧ L = [])) := by
  refine enter w [] 8 [] [.slice none 0 0] Tryd.func84 rfl rfl (by simp) (Hp.start (by simp) (by simp) (by simp)) ?_
  show JC _ _ _ [(0, .slice none 0 0)] _
  refine JC_seq ?_
  refine JC_region ?_
  refine JL_val _ (Ev_assign rfl) rfl ?_
  refine JL_nil ?_
  refine JQ_then ?_
  refine JC_seq ?_
  refine JC_seq ?_
  refine JC_region ?_
  refine JL_val _ (Ev_move rfl) rfl ?_
  refine JL_val (.bool true) (Ev_bin _ _ _ rfl rfl (fun _ => eqGuard_sl ..) fun _ => eql_sl_nil_nil Tryd.underlying22) rfl ?_
  refine JL_nil ?_
  refine JQ_then ?_
  refine JC_condT _ rfl rfl ?_
  refine JC_seq ?_
  refine JC_region ?_
  refine JL_val _ (Ev_assign rfl) rfl ?_
  refine JL_nil ?_
  refine JQ_then ?_
  refine JC_ret ?_
  refine JQ_then_ret ?_
  refine JQ_ret (.slice none 0 0) (res1 Tryd.results84 (RV_tmp rfl)) fun w1 hw1 => ?_
  exact ⟨_, [], rfl, ⟨rfl, rfl⟩, hw1.sub (by simp) (by simp)⟩

theorem sclone_c (ao : Option Addr) (n cb : Nat) (b : List UInt8) (w : World) (ha : ao.isNone = false) (hb : b.length = n) (hn : n ≤ 35184372088832) (hr : RdB w [] ao b) : Calls Tryd.prog 84 #[.slice ao n cb] w (Post w [] (fun v L => ∃ g sp cap, v = Slc g 0 n cap ∧ L = [⟨g, cu8 (b) ++ sp, 5, (0, 0)⟩] ∧ sp.length = cap - n ∧ n ≤ cap ∧ cap ≤ maxLen)) := by
  refine enter w [] 8 [] [.slice ao n cb] Tryd.func84 rfl rfl (by simp) (Hp.start (by simp) (by simp) (by simp)) ?_
  show JC _ _ _ [(0, .slice ao n cb)] _
  refine JC_seq ?_
  refine JC_region ?_
  refine JL_val _ (Ev_assign rfl) rfl ?_
  refine JL_nil ?_
  refine JQ_then ?_
  refine JC_seq ?_
  refine JC_seq ?_
  refine JC_region ?_
  refine JL_val _ (Ev_move rfl) rfl ?_
  refine JL_val (.bool ao.isNone) (Ev_bin _ _ _ rfl rfl (fun _ => eqGuard_sl ..) fun _ => eql_sl_any Tryd.underlying22) rfl ?_
  refine JL_nil ?_
  refine JQ_then ?_
  refine JC_condF _ rfl ha ?_
  refine JC_skip ?_
  refine JQ_then ?_
  refine JC_seq ?_
  refine JC_region ?_
  refine JL_step (Step_buildSlice0 5 1 Tryd.underlying22 Tryd.sizeOf5) rfl ?_
  rintro v1 L1 ⟨nb1, hnb1, rfl, rfl⟩
  show JL _ _ _ _ ((5, Slc nb1 0 0 0) :: _) [⟨nb1, [], 5, (0, 0)⟩]
  refine JL_val _ (Ev_move rfl) rfl ?_
  refine JL_step (Step_appM8 22 5 [true] (Slc nb1 0 0 0) 0 ([] : List UInt8) b ao n cb n Tryd.underlying22 Tryd.info5 rfl (.inr ⟨nb1, [], 0, rfl, (by simp [take?, cu8, cu32, cu64]), rfl, (by simp), (by omega), (by unfold maxLen; omega)⟩) rfl (by simp [hb]; try omega) (hr.src) (by omega) (by unfold maxLen; omega) (by omega)) rfl ?_
  rintro v1 L1 ⟨nb2, sp1, cp1, hg1, rfl, rfl, ha1, ha2, ha3, ha4⟩
  show JL _ _ _ _ ((7, Slc nb2 0 n cp1) :: _) [⟨nb2, cu8 (([] : List UInt8) ++ b) ++ sp1, 5, (0, 0)⟩]
  refine JL_val _ (Ev_assign rfl) rfl ?_
  refine JL_nil ?_
  refine JQ_then ?_
  refine JC_ret ?_
  refine JQ_ret (Slc nb2 0 n cp1) (res1 Tryd.results84 (RV_tmp rfl)) fun w1 hw1 => ?_
  exact ⟨_, _, rfl, ⟨nb2, sp1, cp1, rfl, rfl, ha2, ha3, ha4⟩, hw1⟩

theorem slc_len {b o l l' c : Nat} (h : l = l') : Slc b o l c = Slc b o l' c := by rw [h]
theorem nzP_lt (n : Nat) : nzP n < 64 := by unfold nzP; omega
theorem nzP_def (n : Nat) : nzP n = (119 - n % 64) % 64 := rfl
theorem zr8_succ (j : Nat) : zr8 (j + 1) = zr8 j ++ [0] := by rw [zr8, zr8, List.replicate_succ']

theorem padNil_c  (w : World) : Calls Tryd.prog 26 #[.slice none 0 0] w (Post w [] (fun v L => ∃ g sp cap, v = Slc g 0 (padL ([] : List UInt8)).length cap ∧ L = [⟨g, cu8 (padL ([] : List UInt8)) ++ sp, 5, (0, 0)⟩] ∧ sp.length = cap - (padL ([] : List UInt8)).length ∧ (padL ([] : List UInt8)).length ≤ cap ∧ cap ≤ maxLen)) := by
  have hnz := nzP_lt 0
  have hnd := nzP_def 0
  refine enter w [] 31 [] [.slice none 0 0] Tryd.func26 rfl rfl (by simp) (Hp.start (by simp) (by simp) (by simp)) ?_
  show JC _ _ _ [(0, .slice none 0 0)] _
  refine JC_seq ?_
  refine JC_region ?_
  refine JL_val _ (Ev_assign rfl) rfl ?_
  refine JL_nil ?_
  refine JQ_then ?_
  refine JC_seq ?_
  refine JC_region ?_
  refine JL_val _ (Ev_move rfl) rfl ?_
  refine JL_step (Step_callP 84 [.slice none 0 0] (.slice none 0 0) (Cl_func [.slice none 0 0] Tryd.call84 rfl) (fun w1 hw1 => scloneNil_c w1)) rfl ?_
  rintro v1 L1 ⟨rfl, rfl⟩
  show JL _ _ _ _ ((6, .slice none 0 0) :: _) []
  refine JL_step (Step_buildSlice 5 1 _ [(0, U8 (128:UInt8))] (cu8 ([(128:UInt8)])) Tryd.underlying22 Tryd.sizeOf5 Tryd.zeroValue5 rfl rfl rfl (by kernel_rfl)) rfl ?_
  rintro v1 L1 ⟨nb1, hnb1, rfl, rfl⟩
  show JL _ _ _ _ ((7, Slc nb1 0 1 1) :: _) [⟨nb1, cu8 ([(128:UInt8)]), 5, (0, 0)⟩]
  refine JL_step (Step_appM8 22 5 [false] (.slice none 0 0) 0 ([] : List UInt8) ([(128:UInt8)]) (some ⟨nb1, 0, none⟩) 1 1 1 Tryd.underlying22 Tryd.info5 rfl (.inl ⟨rfl, rfl, rfl, rfl, by omega⟩) rfl (by simp) (SrcAt.mem (MemAt.ent 0 rfl (Seg.whole _))) (by omega) (by unfold maxLen; omega) (by omega)) rfl ?_
  rintro v1 L1 ⟨nb2, sp1, cp1, hg1, rfl, rfl, ha1, ha2, ha3, ha4⟩
  show JL _ _ _ _ ((8, Slc nb2 0 1 cp1) :: _) [⟨nb1, cu8 ([(128:UInt8)]), 5, (0, 0)⟩, ⟨nb2, cu8 (([] : List UInt8) ++ ([(128:UInt8)])) ++ sp1, 5, (0, 0)⟩]
  refine JL_val _ (Ev_assign rfl) rfl ?_
  refine JL_nil ?_
  refine JQ_then ?_
  refine JC_seq ?_
  refine JC_block ?_
  refine K_mask [false, true] ?_
  show JC _ _ _ _ [⟨nb2, cu8 (([] : List UInt8) ++ ([(128:UInt8)])) ++ sp1, 5, (0, 0)⟩]
  refine JC_loop (ι := Nat × List UInt8 × Nat × List Value × Nat) (fun ⟨j, o, g1, sp1, cp1⟩ => [(0, .slice none 0 0), (2, .slice none 0 0), (3, Slc g1 0 (j + 1) cp1)]) (fun ⟨j, o, g1, sp1, cp1⟩ => [⟨g1, cu8 o ++ sp1, 5, (0, 0)⟩]) (fun ⟨j, o, g1, sp1, cp1⟩ => j ≤ nzP 0 ∧ o = (([] : List UInt8) ++ [(128:UInt8)]) ++ zr8 j ∧ o.length = (j + 1) ∧ sp1.length = cp1 - (j + 1) ∧ (j + 1) ≤ cp1 ∧ cp1 ≤ maxLen) (fun ⟨j, o, g1, sp1, cp1⟩ => nzP 0 - j) (0, ([] : List UInt8) ++ ([(128:UInt8)]), nb2, sp1, cp1) ⟨by omega, by simp [zr8], by simp, by have := ha2; omega, by omega, ha4⟩ (Sub.cons rfl (Sub.cons rfl (Sub.cons (some_slc (by omega)) (Sub.nil)))) rfl ?_
  rintro ⟨j, o, g1, sp1, cp1⟩ ⟨hx1, hx2, ho, hx4, hx5, hx6⟩
  show JC _ _ _ [(0, .slice none 0 0), (2, .slice none 0 0), (3, Slc g1 0 (j + 1) cp1)] [⟨g1, cu8 o ++ sp1, 5, (0, 0)⟩]
  refine JC_seq ?_
  refine JC_seq ?_
  refine JC_region ?_
  refine JL_val _ (Ev_move rfl) rfl ?_
  refine JL_val (I64 ((j:Int) + 1)) (Ev_lenX Tryd.underlying22 rfl (by omega)) rfl ?_
  obtain ⟨dq1, hdq1, hdq1a, hdq1b⟩ : ∃ q : Nat, q = (j + 1) % 64 ∧ (q : Int) = ((j:Int) + 1) % 64 ∧ (q < 64) := ⟨_, rfl, by first | rfl | omega, by omega⟩
  refine JL_val (I64 ((dq1:Int))) (Ev_bini rfl rfl fun _ => bin_rem_i _ _ ((dq1:Int)) (by omega) (by omega) (by omega)) rfl ?_
  refine JL_val (.bool (decide (((dq1:Int)) ≠ (56:Int)))) (Ev_bini rfl rfl fun _ => bin_neq_i _ _) rfl ?_
  refine JL_nil ?_
  refine JQ_then ?_
  refine JC_cond (decide (((dq1:Int)) ≠ (56:Int))) rfl (fun hb1 => ?_) (fun hb1 => ?_)
  ·
    have hp1 : ((dq1:Int)) ≠ (56:Int) := of_decide_eq_true hb1
    refine JC_skip ?_
    refine JQ_then ?_
    refine JC_block ?_
    refine JC_region ?_
    refine JL_val _ (Ev_move rfl) rfl ?_
    refine JL_step (Step_buildSlice 5 1 _ [(0, U8 (0:UInt8))] (cu8 ([(0:UInt8)])) Tryd.underlying22 Tryd.sizeOf5 Tryd.zeroValue5 rfl rfl rfl (by kernel_rfl)) rfl ?_
    rintro v1 L1 ⟨nb3, hnb3, rfl, rfl⟩
    show JL _ _ _ _ ((14, Slc nb3 0 1 1) :: _) [⟨g1, cu8 o ++ sp1, 5, (0, 0)⟩, ⟨nb3, cu8 ([(0:UInt8)]), 5, (0, 0)⟩]
    refine JL_step (Step_appM8 22 5 [true, false] (Slc g1 0 (j + 1) cp1) (j + 1) o ([(0:UInt8)]) (some ⟨nb3, 0, none⟩) 1 1 (j + 2) Tryd.underlying22 Tryd.info5 rfl (.inr ⟨g1, sp1, cp1, rfl, rfl, (by first | exact ho | simp [ho]), hx4, (by omega), (by omega)⟩) rfl (by simp) (SrcAt.mem (MemAt.ent 1 rfl (Seg.whole _))) (by omega) (by unfold maxLen; omega) (by omega)) rfl ?_
    rintro v1 L1 ⟨nb4, sp2, cp2, hg2, rfl, rfl, ha5, ha6, ha7, ha8⟩
    show JL _ _ _ _ ((15, Slc nb4 0 (j + 2) cp2) :: _) [⟨nb3, cu8 ([(0:UInt8)]), 5, (0, 0)⟩, ⟨nb4, cu8 (o ++ ([(0:UInt8)])) ++ sp2, 5, (0, 0)⟩]
    refine JL_val _ (Ev_assign rfl) rfl ?_
    refine JL_nil ?_
    refine JQ_in_normal ?_
    refine JQ_thenK ?_
    refine K_mask [false, true] ?_
    show K _ _ [⟨nb4, cu8 (o ++ ([(0:UInt8)])) ++ sp2, 5, (0, 0)⟩] _
    refine K_next (j + 1, o ++ ([(0:UInt8)]), nb4, sp2, cp2) ⟨by omega, by rw [hx2, zr8_succ, List.append_assoc], (ha5).trans (by first | rfl | simp +arith), (ha6).trans (by first | rfl | simp +arith), by omega, ha8⟩ (by first | (simp; omega) | simp) (Sub.cons rfl (Sub.cons rfl (Sub.cons (some_slc (by omega)) (Sub.nil)))) rfl
  ·
    have hp1 : ¬ (((dq1:Int)) ≠ (56:Int)) := of_decide_eq_false hb1
    refine JC_exit ?_
    refine JQ_then_exit ?_
    refine JQ_then_exit ?_
    refine JQ_in_same ?_
    refine JQ_then ?_
    refine JC_seq ?_
    refine JC_seq ?_
    refine JC_region ?_
    refine JL_val _ (Ev_assign rfl) rfl ?_
    refine JL_nil ?_
    refine JQ_then ?_
    refine JC_block ?_
    have ej : j = nzP 0 := by omega
    have ejb : nzP 0 < 64 := by omega
    refine JC_loop (ι := Nat × List UInt8 × Nat × List Value × Nat) (fun ⟨i, o2, g2, sp2, cp2⟩ => [(0, .slice none 0 0), (2, .slice none 0 0), (3, Slc g2 0 (i + j + 1) cp2), (4, I64 (-8*(i:Int) + 56))]) (fun ⟨i, o2, g2, sp2, cp2⟩ => [⟨g2, cu8 o2 ++ sp2, 5, (0, 0)⟩]) (fun ⟨i, o2, g2, sp2, cp2⟩ => i ≤ 8 ∧ o2 = o ++ lenN 0 i ∧ o2.length = (i + j + 1) ∧ sp2.length = cp2 - (i + j + 1) ∧ (i + j + 1) ≤ cp2 ∧ cp2 ≤ maxLen) (fun ⟨i, o2, g2, sp2, cp2⟩ => 8 - i) (0, o, g1, sp1, cp1) ⟨by omega, by simp [lenN], by omega, by omega, by omega, hx6⟩ (Sub.cons rfl (Sub.cons rfl (Sub.cons (some_slc (by omega)) (Sub.cons (some_i64 (by omega)) (Sub.nil))))) rfl ?_
    rintro ⟨i, o2, g2, sp2, cp2⟩ ⟨hy1, hy2, ho2, hy4, hy5, hy6⟩
    show JC _ _ _ [(0, .slice none 0 0), (2, .slice none 0 0), (3, Slc g2 0 (i + j + 1) cp2), (4, I64 (-8*(i:Int) + 56))] [⟨g2, cu8 o2 ++ sp2, 5, (0, 0)⟩]
    refine JC_seq ?_
    refine JC_seq ?_
    refine JC_region ?_
    refine JL_val _ (Ev_move rfl) rfl ?_
    refine JL_val (.bool (decide ((0:Int) ≤ (-8*(i:Int) + 56)))) (Ev_bini rfl rfl fun _ => bin_geq_i _ _) rfl ?_
    refine JL_nil ?_
    refine JQ_then ?_
    refine JC_cond (decide ((0:Int) ≤ (-8*(i:Int) + 56))) rfl (fun hb2 => ?_) (fun hb2 => ?_)
    ·
      have hp2 : (0:Int) ≤ (-8*(i:Int) + 56) := of_decide_eq_true hb2
      refine JC_skip ?_
      refine JQ_then ?_
      refine JC_seq ?_
      refine JC_block ?_
      refine JC_region ?_
      refine JL_val _ (Ev_move rfl) rfl ?_
      refine JL_val _ (Ev_move rfl) rfl ?_
      refine JL_val (I64 (0:Int)) (Ev_len Tryd.underlying22 rfl) rfl ?_
      refine JL_val (U64 (0:UInt64)) (Ev_conv _ _ rfl fun _ => conv_lit (by rw [Tryd.underlying3]; rfl) Tryd.underlying58 rfl) rfl ?_
      refine JL_val (U64 ((8:UInt64) * (0:UInt64))) (Ev_bini rfl rfl fun _ => bin_mul_u64 (8:UInt64) (0:UInt64)) rfl ?_
      refine JL_val _ (Ev_move rfl) rfl ?_
      refine JL_val (U64 (((8:UInt64) * (0:UInt64)) >>> UInt64.ofNat (56 - 8*i))) (Ev_bini rfl rfl fun _ => bin_shr_u64 ((8:UInt64) * (0:UInt64)) _ _ (56 - 8*i) (by omega) (by omega)) rfl ?_
      refine JL_val (U8 ((((8:UInt64) * (0:UInt64)) >>> UInt64.ofNat (56 - 8*i)).toUInt8)) (Ev_conv _ _ rfl fun _ => conv_u64_u8 (by rw [Tryd.underlying58]; rfl) Tryd.underlying5 _) rfl ?_
      refine JL_step (Step_buildSlice 5 1 _ [(0, U8 ((((8:UInt64) * (0:UInt64)) >>> UInt64.ofNat (56 - 8*i)).toUInt8))] (cu8 ([(((8:UInt64) * (0:UInt64)) >>> UInt64.ofNat (56 - 8*i)).toUInt8])) Tryd.underlying22 Tryd.sizeOf5 Tryd.zeroValue5 rfl rfl rfl (by kernel_rfl)) rfl ?_
      rintro v1 L1 ⟨nb5, hnb5, rfl, rfl⟩
      show JL _ _ _ _ ((28, Slc nb5 0 1 1) :: _) [⟨g2, cu8 o2 ++ sp2, 5, (0, 0)⟩, ⟨nb5, cu8 ([(((8:UInt64) * (0:UInt64)) >>> UInt64.ofNat (56 - 8*i)).toUInt8]), 5, (0, 0)⟩]
      refine JL_step (Step_appM8 22 5 [true, false] (Slc g2 0 (i + j + 1) cp2) (i + j + 1) o2 ([(((8:UInt64) * (0:UInt64)) >>> UInt64.ofNat (56 - 8*i)).toUInt8]) (some ⟨nb5, 0, none⟩) 1 1 (i + j + 2) Tryd.underlying22 Tryd.info5 rfl (.inr ⟨g2, sp2, cp2, rfl, rfl, (by first | exact ho2 | simp [ho2]), hy4, (by omega), (by omega)⟩) rfl (by simp) (SrcAt.mem (MemAt.ent 1 rfl (Seg.whole _))) (by omega) (by unfold maxLen; omega) (by omega)) rfl ?_
      rintro v1 L1 ⟨nb6, sp3, cp3, hg3, rfl, rfl, ha9, ha10, ha11, ha12⟩
      show JL _ _ _ _ ((29, Slc nb6 0 (i + j + 2) cp3) :: _) [⟨nb5, cu8 ([(((8:UInt64) * (0:UInt64)) >>> UInt64.ofNat (56 - 8*i)).toUInt8]), 5, (0, 0)⟩, ⟨nb6, cu8 (o2 ++ ([(((8:UInt64) * (0:UInt64)) >>> UInt64.ofNat (56 - 8*i)).toUInt8])) ++ sp3, 5, (0, 0)⟩]
      refine JL_val _ (Ev_assign rfl) rfl ?_
      refine JL_nil ?_
      refine JQ_in_normal ?_
      refine JQ_then ?_
      refine JC_region ?_
      refine JL_val _ (Ev_move rfl) rfl ?_
      refine JL_val (I64 (-8*(i:Int) + 48)) (Ev_bini rfl rfl fun _ => bin_sub_i _ _ (-8*(i:Int) + 48) (by omega) (by omega)) rfl ?_
      refine JL_val _ (Ev_assign rfl) rfl ?_
      refine JL_nil ?_
      refine JQ_thenK ?_
      refine K_mask [false, true] ?_
      show K _ _ [⟨nb6, cu8 (o2 ++ ([(((8:UInt64) * (0:UInt64)) >>> UInt64.ofNat (56 - 8*i)).toUInt8])) ++ sp3, 5, (0, 0)⟩] _
      refine K_next (i + 1, o2 ++ ([(((8:UInt64) * (0:UInt64)) >>> UInt64.ofNat (56 - 8*i)).toUInt8]), nb6, sp3, cp3) ⟨by omega, by rw [hy2, lenN, List.append_assoc]; rfl, (ha9).trans (by first | rfl | simp +arith), (ha10).trans (by first | rfl | simp +arith), by omega, ha12⟩ (by first | (simp; omega) | simp) (Sub.cons rfl (Sub.cons rfl (Sub.cons (some_slc (by omega)) (Sub.cons (some_i64 (by omega)) (Sub.nil))))) rfl
    ·
      have hp2 : ¬ ((0:Int) ≤ (-8*(i:Int) + 56)) := of_decide_eq_false hb2
      refine JC_exit ?_
      refine JQ_then_exit ?_
      refine JQ_then_exit ?_
      refine JQ_in_same ?_
      refine JQ_then ?_
      refine JC_seq ?_
      refine JC_region ?_
      refine JL_val _ (Ev_move rfl) rfl ?_
      refine JL_val _ (Ev_assign rfl) rfl ?_
      refine JL_nil ?_
      refine JQ_then ?_
      refine JC_ret ?_
      refine JQ_ret (Slc g2 0 (i + j + 1) cp2) (res1 Tryd.results26 (RV_tmp rfl)) fun w1 hw1 => ?_
      have e1 : i = 8 := by omega
      subst e1
      have e2 : o2 = padL ([] : List UInt8) := by rw [hy2, hx2, padL, List.length_nil, ej]
      rw [e2] at hw1
      exact ⟨_, _, rfl, ⟨g2, sp2, cp2, slc_len (by rw [padL_len, List.length_nil, ← ej]; simp +arith), rfl, by rw [hy4]; rw [padL_len, List.length_nil, ← ej]; simp +arith, by refine Nat.le_trans (Nat.le_of_eq ?_) hy5; rw [padL_len, List.length_nil, ← ej]; simp +arith, hy6⟩, hw1.sub (by simp) (by simp)⟩

theorem pad_c (ao : Option Addr) (n cb : Nat) (b : List UInt8) (w : World) (ha : ao.isNone = false) (hb : b.length = n) (hn : n ≤ 17592186044416) (hr : RdB w [] ao b) : Calls Tryd.prog 26 #[.slice ao n cb] w (Post w [] (fun v L => ∃ g sp cap, v = Slc g 0 (padL b).length cap ∧ L = [⟨g, cu8 (padL b) ++ sp, 5, (0, 0)⟩] ∧ sp.length = cap - (padL b).length ∧ (padL b).length ≤ cap ∧ cap ≤ maxLen)) := by
  have hnz := nzP_lt n
  have hnd := nzP_def n
  refine enter w [] 31 [] [.slice ao n cb] Tryd.func26 rfl rfl (by simp) (Hp.start (by simp) (by simp) (by simp)) ?_
  show JC _ _ _ [(0, .slice ao n cb)] _
  refine JC_seq ?_
  refine JC_region ?_
  refine JL_val _ (Ev_assign rfl) rfl ?_
  refine JL_nil ?_
  refine JQ_then ?_
  refine JC_seq ?_
  refine JC_region ?_
  refine JL_val _ (Ev_move rfl) rfl ?_
  refine JL_step (Step_callN 84 [.slice ao n cb] _ (Cl_func [.slice ao n cb] Tryd.call84 rfl) (fun w1 hw1 => sclone_c ao n cb b w1 ha hb (by omega) (hr.at (M' := []) hw1 (by simp)))) rfl ?_
  rintro v1 L1 ⟨_, ⟨nb1, sp1, cp1, rfl, rfl, hc1, hc2, hc3⟩, rfl⟩
  show JL _ _ _ _ ((6, Slc nb1 0 n cp1) :: _) [⟨nb1, cu8 b ++ sp1, 5, (0, 0)⟩]
  refine JL_step (Step_buildSlice 5 1 _ [(0, U8 (128:UInt8))] (cu8 ([(128:UInt8)])) Tryd.underlying22 Tryd.sizeOf5 Tryd.zeroValue5 rfl rfl rfl (by kernel_rfl)) rfl ?_
  rintro v1 L1 ⟨nb2, hnb2, rfl, rfl⟩
  show JL _ _ _ _ ((7, Slc nb2 0 1 1) :: _) [⟨nb1, cu8 b ++ sp1, 5, (0, 0)⟩, ⟨nb2, cu8 ([(128:UInt8)]), 5, (0, 0)⟩]
  refine JL_step (Step_appM8 22 5 [true, false] (Slc nb1 0 n cp1) n b ([(128:UInt8)]) (some ⟨nb2, 0, none⟩) 1 1 (n + 1) Tryd.underlying22 Tryd.info5 rfl (.inr ⟨nb1, sp1, cp1, rfl, rfl, (by first | exact hb | simp [hb]), hc1, (by omega), (by omega)⟩) rfl (by simp) (SrcAt.mem (MemAt.ent 1 rfl (Seg.whole _))) (by omega) (by unfold maxLen; omega) (by omega)) rfl ?_
  rintro v1 L1 ⟨nb3, sp2, cp2, hg1, rfl, rfl, ha1, ha2, ha3, ha4⟩
  show JL _ _ _ _ ((8, Slc nb3 0 (n + 1) cp2) :: _) [⟨nb2, cu8 ([(128:UInt8)]), 5, (0, 0)⟩, ⟨nb3, cu8 (b ++ ([(128:UInt8)])) ++ sp2, 5, (0, 0)⟩]
  refine JL_val _ (Ev_assign rfl) rfl ?_
  refine JL_nil ?_
  refine JQ_then ?_
  refine JC_seq ?_
  refine JC_block ?_
  refine K_mask [false, true] ?_
  show JC _ _ _ _ [⟨nb3, cu8 (b ++ ([(128:UInt8)])) ++ sp2, 5, (0, 0)⟩]
  refine JC_loop (ι := Nat × List UInt8 × Nat × List Value × Nat) (fun ⟨j, o, g1, sp1, cp1⟩ => [(0, .slice ao n cb), (2, .slice none 0 0), (3, Slc g1 0 (j + n + 1) cp1)]) (fun ⟨j, o, g1, sp1, cp1⟩ => [⟨g1, cu8 o ++ sp1, 5, (0, 0)⟩]) (fun ⟨j, o, g1, sp1, cp1⟩ => j ≤ nzP n ∧ o = (b ++ [(128:UInt8)]) ++ zr8 j ∧ o.length = (j + n + 1) ∧ sp1.length = cp1 - (j + n + 1) ∧ (j + n + 1) ≤ cp1 ∧ cp1 ≤ maxLen) (fun ⟨j, o, g1, sp1, cp1⟩ => nzP n - j) (0, b ++ ([(128:UInt8)]), nb3, sp2, cp2) ⟨by omega, by simp [zr8], by simp [hb], by have := ha2; omega, by omega, ha4⟩ (Sub.cons rfl (Sub.cons rfl (Sub.cons (some_slc (by omega)) (Sub.nil)))) rfl ?_
  rintro ⟨j, o, g1, sp1, cp1⟩ ⟨hx1, hx2, ho, hx4, hx5, hx6⟩
  show JC _ _ _ [(0, .slice ao n cb), (2, .slice none 0 0), (3, Slc g1 0 (j + n + 1) cp1)] [⟨g1, cu8 o ++ sp1, 5, (0, 0)⟩]
  refine JC_seq ?_
  refine JC_seq ?_
  refine JC_region ?_
  refine JL_val _ (Ev_move rfl) rfl ?_
  refine JL_val (I64 ((j:Int) + (n:Int) + 1)) (Ev_lenX Tryd.underlying22 rfl (by omega)) rfl ?_
  obtain ⟨dq1, hdq1, hdq1a, hdq1b⟩ : ∃ q : Nat, q = (j + n + 1) % 64 ∧ (q : Int) = ((j:Int) + (n:Int) + 1) % 64 ∧ (q < 64) := ⟨_, rfl, by first | rfl | omega, by omega⟩
  refine JL_val (I64 ((dq1:Int))) (Ev_bini rfl rfl fun _ => bin_rem_i _ _ ((dq1:Int)) (by omega) (by omega) (by omega)) rfl ?_
  refine JL_val (.bool (decide (((dq1:Int)) ≠ (56:Int)))) (Ev_bini rfl rfl fun _ => bin_neq_i _ _) rfl ?_
  refine JL_nil ?_
  refine JQ_then ?_
  refine JC_cond (decide (((dq1:Int)) ≠ (56:Int))) rfl (fun hb1 => ?_) (fun hb1 => ?_)
  ·
    have hp1 : ((dq1:Int)) ≠ (56:Int) := of_decide_eq_true hb1
    refine JC_skip ?_
    refine JQ_then ?_
    refine JC_block ?_
    refine JC_region ?_
    refine JL_val _ (Ev_move rfl) rfl ?_
    refine JL_step (Step_buildSlice 5 1 _ [(0, U8 (0:UInt8))] (cu8 ([(0:UInt8)])) Tryd.underlying22 Tryd.sizeOf5 Tryd.zeroValue5 rfl rfl rfl (by kernel_rfl)) rfl ?_
    rintro v1 L1 ⟨nb4, hnb4, rfl, rfl⟩
    show JL _ _ _ _ ((14, Slc nb4 0 1 1) :: _) [⟨g1, cu8 o ++ sp1, 5, (0, 0)⟩, ⟨nb4, cu8 ([(0:UInt8)]), 5, (0, 0)⟩]
    refine JL_step (Step_appM8 22 5 [true, false] (Slc g1 0 (j + n + 1) cp1) (j + n + 1) o ([(0:UInt8)]) (some ⟨nb4, 0, none⟩) 1 1 (j + n + 2) Tryd.underlying22 Tryd.info5 rfl (.inr ⟨g1, sp1, cp1, rfl, rfl, (by first | exact ho | simp [ho]), hx4, (by omega), (by omega)⟩) rfl (by simp) (SrcAt.mem (MemAt.ent 1 rfl (Seg.whole _))) (by omega) (by unfold maxLen; omega) (by omega)) rfl ?_
    rintro v1 L1 ⟨nb5, sp3, cp3, hg2, rfl, rfl, ha5, ha6, ha7, ha8⟩
    show JL _ _ _ _ ((15, Slc nb5 0 (j + n + 2) cp3) :: _) [⟨nb4, cu8 ([(0:UInt8)]), 5, (0, 0)⟩, ⟨nb5, cu8 (o ++ ([(0:UInt8)])) ++ sp3, 5, (0, 0)⟩]
    refine JL_val _ (Ev_assign rfl) rfl ?_
    refine JL_nil ?_
    refine JQ_in_normal ?_
    refine JQ_thenK ?_
    refine K_mask [false, true] ?_
    show K _ _ [⟨nb5, cu8 (o ++ ([(0:UInt8)])) ++ sp3, 5, (0, 0)⟩] _
    refine K_next (j + 1, o ++ ([(0:UInt8)]), nb5, sp3, cp3) ⟨by omega, by rw [hx2, zr8_succ, List.append_assoc], (ha5).trans (by first | rfl | simp +arith), (ha6).trans (by first | rfl | simp +arith), by omega, ha8⟩ (by first | (simp; omega) | simp) (Sub.cons rfl (Sub.cons rfl (Sub.cons (some_slc (by omega)) (Sub.nil)))) rfl
  ·
    have hp1 : ¬ (((dq1:Int)) ≠ (56:Int)) := of_decide_eq_false hb1
    refine JC_exit ?_
    refine JQ_then_exit ?_
    refine JQ_then_exit ?_
    refine JQ_in_same ?_
    refine JQ_then ?_
    refine JC_seq ?_
    refine JC_seq ?_
    refine JC_region ?_
    refine JL_val _ (Ev_assign rfl) rfl ?_
    refine JL_nil ?_
    refine JQ_then ?_
    refine JC_block ?_
    have ej : j = nzP n := by omega
    have ejb : nzP n < 64 := by omega
    refine JC_loop (ι := Nat × List UInt8 × Nat × List Value × Nat) (fun ⟨i, o2, g2, sp2, cp2⟩ => [(0, .slice ao n cb), (2, .slice none 0 0), (3, Slc g2 0 (i + j + n + 1) cp2), (4, I64 (-8*(i:Int) + 56))]) (fun ⟨i, o2, g2, sp2, cp2⟩ => [⟨g2, cu8 o2 ++ sp2, 5, (0, 0)⟩]) (fun ⟨i, o2, g2, sp2, cp2⟩ => i ≤ 8 ∧ o2 = o ++ lenN n i ∧ o2.length = (i + j + n + 1) ∧ sp2.length = cp2 - (i + j + n + 1) ∧ (i + j + n + 1) ≤ cp2 ∧ cp2 ≤ maxLen) (fun ⟨i, o2, g2, sp2, cp2⟩ => 8 - i) (0, o, g1, sp1, cp1) ⟨by omega, by simp [lenN], by omega, by omega, by omega, hx6⟩ (Sub.cons rfl (Sub.cons rfl (Sub.cons (some_slc (by omega)) (Sub.cons (some_i64 (by omega)) (Sub.nil))))) rfl ?_
    rintro ⟨i, o2, g2, sp2, cp2⟩ ⟨hy1, hy2, ho2, hy4, hy5, hy6⟩
    show JC _ _ _ [(0, .slice ao n cb), (2, .slice none 0 0), (3, Slc g2 0 (i + j + n + 1) cp2), (4, I64 (-8*(i:Int) + 56))] [⟨g2, cu8 o2 ++ sp2, 5, (0, 0)⟩]
    refine JC_seq ?_
    refine JC_seq ?_
    refine JC_region ?_
    refine JL_val _ (Ev_move rfl) rfl ?_
    refine JL_val (.bool (decide ((0:Int) ≤ (-8*(i:Int) + 56)))) (Ev_bini rfl rfl fun _ => bin_geq_i _ _) rfl ?_
    refine JL_nil ?_
    refine JQ_then ?_
    refine JC_cond (decide ((0:Int) ≤ (-8*(i:Int) + 56))) rfl (fun hb2 => ?_) (fun hb2 => ?_)
    ·
      have hp2 : (0:Int) ≤ (-8*(i:Int) + 56) := of_decide_eq_true hb2
      refine JC_skip ?_
      refine JQ_then ?_
      refine JC_seq ?_
      refine JC_block ?_
      refine JC_region ?_
      refine JL_val _ (Ev_move rfl) rfl ?_
      refine JL_val _ (Ev_move rfl) rfl ?_
      refine JL_val (I64 ((n:Int))) (Ev_len Tryd.underlying22 rfl) rfl ?_
      refine JL_val (U64 (UInt64.ofNat n)) (Ev_conv _ _ rfl fun _ => conv_i64_u64 (by rw [Tryd.underlying3]; rfl) Tryd.underlying58 n _ (by omega)) rfl ?_
      refine JL_val (U64 ((8:UInt64) * (UInt64.ofNat n))) (Ev_bini rfl rfl fun _ => bin_mul_u64 (8:UInt64) (UInt64.ofNat n)) rfl ?_
      refine JL_val _ (Ev_move rfl) rfl ?_
      refine JL_val (U64 (((8:UInt64) * (UInt64.ofNat n)) >>> UInt64.ofNat (56 - 8*i))) (Ev_bini rfl rfl fun _ => bin_shr_u64 ((8:UInt64) * (UInt64.ofNat n)) _ _ (56 - 8*i) (by omega) (by omega)) rfl ?_
      refine JL_val (U8 ((((8:UInt64) * (UInt64.ofNat n)) >>> UInt64.ofNat (56 - 8*i)).toUInt8)) (Ev_conv _ _ rfl fun _ => conv_u64_u8 (by rw [Tryd.underlying58]; rfl) Tryd.underlying5 _) rfl ?_
      refine JL_step (Step_buildSlice 5 1 _ [(0, U8 ((((8:UInt64) * (UInt64.ofNat n)) >>> UInt64.ofNat (56 - 8*i)).toUInt8))] (cu8 ([(((8:UInt64) * (UInt64.ofNat n)) >>> UInt64.ofNat (56 - 8*i)).toUInt8])) Tryd.underlying22 Tryd.sizeOf5 Tryd.zeroValue5 rfl rfl rfl (by kernel_rfl)) rfl ?_
      rintro v1 L1 ⟨nb6, hnb6, rfl, rfl⟩
      show JL _ _ _ _ ((28, Slc nb6 0 1 1) :: _) [⟨g2, cu8 o2 ++ sp2, 5, (0, 0)⟩, ⟨nb6, cu8 ([(((8:UInt64) * (UInt64.ofNat n)) >>> UInt64.ofNat (56 - 8*i)).toUInt8]), 5, (0, 0)⟩]
      refine JL_step (Step_appM8 22 5 [true, false] (Slc g2 0 (i + j + n + 1) cp2) (i + j + n + 1) o2 ([(((8:UInt64) * (UInt64.ofNat n)) >>> UInt64.ofNat (56 - 8*i)).toUInt8]) (some ⟨nb6, 0, none⟩) 1 1 (i + j + n + 2) Tryd.underlying22 Tryd.info5 rfl (.inr ⟨g2, sp2, cp2, rfl, rfl, (by first | exact ho2 | simp [ho2]), hy4, (by omega), (by omega)⟩) rfl (by simp) (SrcAt.mem (MemAt.ent 1 rfl (Seg.whole _))) (by omega) (by unfold maxLen; omega) (by omega)) rfl ?_
      rintro v1 L1 ⟨nb7, sp4, cp4, hg3, rfl, rfl, ha9, ha10, ha11, ha12⟩
      show JL _ _ _ _ ((29, Slc nb7 0 (i + j + n + 2) cp4) :: _) [⟨nb6, cu8 ([(((8:UInt64) * (UInt64.ofNat n)) >>> UInt64.ofNat (56 - 8*i)).toUInt8]), 5, (0, 0)⟩, ⟨nb7, cu8 (o2 ++ ([(((8:UInt64) * (UInt64.ofNat n)) >>> UInt64.ofNat (56 - 8*i)).toUInt8])) ++ sp4, 5, (0, 0)⟩]
      refine JL_val _ (Ev_assign rfl) rfl ?_
      refine JL_nil ?_
      refine JQ_in_normal ?_
      refine JQ_then ?_
      refine JC_region ?_
      refine JL_val _ (Ev_move rfl) rfl ?_
      refine JL_val (I64 (-8*(i:Int) + 48)) (Ev_bini rfl rfl fun _ => bin_sub_i _ _ (-8*(i:Int) + 48) (by omega) (by omega)) rfl ?_
      refine JL_val _ (Ev_assign rfl) rfl ?_
      refine JL_nil ?_
      refine JQ_thenK ?_
      refine K_mask [false, true] ?_
      show K _ _ [⟨nb7, cu8 (o2 ++ ([(((8:UInt64) * (UInt64.ofNat n)) >>> UInt64.ofNat (56 - 8*i)).toUInt8])) ++ sp4, 5, (0, 0)⟩] _
      refine K_next (i + 1, o2 ++ ([(((8:UInt64) * (UInt64.ofNat n)) >>> UInt64.ofNat (56 - 8*i)).toUInt8]), nb7, sp4, cp4) ⟨by omega, by rw [hy2, lenN, List.append_assoc], (ha9).trans (by first | rfl | simp +arith), (ha10).trans (by first | rfl | simp +arith), by omega, ha12⟩ (by first | (simp; omega) | simp) (Sub.cons rfl (Sub.cons rfl (Sub.cons (some_slc (by omega)) (Sub.cons (some_i64 (by omega)) (Sub.nil))))) rfl
    ·
      have hp2 : ¬ ((0:Int) ≤ (-8*(i:Int) + 56)) := of_decide_eq_false hb2
      refine JC_exit ?_
      refine JQ_then_exit ?_
      refine JQ_then_exit ?_
      refine JQ_in_same ?_
      refine JQ_then ?_
      refine JC_seq ?_
      refine JC_region ?_
      refine JL_val _ (Ev_move rfl) rfl ?_
      refine JL_val _ (Ev_assign rfl) rfl ?_
      refine JL_nil ?_
      refine JQ_then ?_
      refine JC_ret ?_
      refine JQ_ret (Slc g2 0 (i + j + n + 1) cp2) (res1 Tryd.results26 (RV_tmp rfl)) fun w1 hw1 => ?_
      have e1 : i = 8 := by omega
      subst e1
      have e2 : o2 = padL b := by rw [hy2, hx2, padL, hb, ej]
      rw [e2] at hw1
      exact ⟨_, _, rfl, ⟨g2, sp2, cp2, slc_len (by rw [padL_len, hb, ← ej]; simp +arith), rfl, by rw [hy4]; rw [padL_len, hb, ← ej]; simp +arith, by refine Nat.le_trans (Nat.le_of_eq ?_) hy5; rw [padL_len, hb, ← ej]; simp +arith, hy6⟩, hw1.sub (by simp) (by simp)⟩

end Go.Proofs.YtncoifiafklkjaaDoor
namespace Go.Proofs.YtncoifiafklkjaaDoor
open Go Go.Sx
set_option linter.unusedVariables false
set_option linter.unusedSimpArgs false
set_option maxRecDepth 100000
attribute [local irreducible] mid zr8 zr32 rotr wordL spreadL comprL cpN adN spN constL initL padL stN outN hashL
theorem pad_w (ao : Option Addr) (n cb : Nat) (b : List UInt8) (w : World) (hb : b.length = n) (hcb : ao = none → cb = 0) (hn : n ≤ 17592186044416) (hr : RdB w [] ao b) : Calls Tryd.prog 26 #[.slice ao n cb] w (Post w [] (fun v L => ∃ g sp cap, v = Slc g 0 (padL b).length cap ∧ L = [⟨g, cu8 (padL b) ++ sp, 5, (0, 0)⟩] ∧ sp.length = cap - (padL b).length ∧ (padL b).length ≤ cap ∧ cap ≤ maxLen)) := by
  cases ao with
  | none =>
    obtain rfl : b = [] := by
      rcases hr with h | ⟨_, _, h, _⟩
      · exact h
      · cases h
    obtain rfl : n = 0 := hb.symm
    obtain rfl := hcb rfl
    exact padNil_c w
  | some a => exact pad_c (some a) n cb b w rfl hb hn hr

theorem chunk_c (gs N cap : Nat) (w : World) : Calls Tryd.prog 83 #[Slc gs 0 N cap, I64 (64:Int)] w (Post w [] (fun v L => ∃ b1 b2, v = .func (.func 113) #[] #[Ptr b1 0, Ptr b2 0] ∧ L = [⟨b1, [Slc gs 0 N cap], 22, (0, 0)⟩, ⟨b2, [I64 64], 3, (0, 0)⟩])) := by
  refine enter w [] 9 [] [Slc gs 0 N cap, I64 (64:Int)] Tryd.func83 rfl rfl (by simp) (Hp.start (by simp) (by simp) (by simp)) ?_
  show JC _ _ _ [(0, Slc gs 0 N cap), (1, I64 (64:Int))] _
  refine JC_seq ?_
  refine JC_region ?_
  refine JL_step (Step_box (Slc gs 0 N cap) ([Slc gs 0 N cap]) rfl rfl) rfl ?_
  rintro v1 L1 ⟨nb1, hnb1, rfl, rfl⟩
  show JL _ _ _ _ ((2, Ptr nb1 0) :: _) [⟨nb1, [Slc gs 0 N cap], 22, (0, 0)⟩]
  refine JL_step (Step_box (I64 (64:Int)) ([I64 (64:Int)]) rfl rfl) rfl ?_
  rintro v1 L1 ⟨nb2, hnb2, rfl, rfl⟩
  show JL _ _ _ _ ((3, Ptr nb2 0) :: _) [⟨nb1, [Slc gs 0 N cap], 22, (0, 0)⟩, ⟨nb2, [I64 (64:Int)], 3, (0, 0)⟩]
  refine JL_val _ (Ev_assign rfl) rfl ?_
  refine JL_nil ?_
  refine JQ_then ?_
  refine JC_seq ?_
  refine JC_seq ?_
  refine JC_region ?_
  refine JL_val (I64 (64:Int)) (Ev_load rfl (Ld_one Tryd.isAgg3 (MemAt.ent 1 rfl (Seg.head)))) rfl ?_
  refine JL_val (.bool (decide ((64:Int) < (1:Int)))) (Ev_bini rfl rfl fun _ => bin_lss_i _ _) rfl ?_
  refine JL_nil ?_
  refine JQ_then ?_
  refine JC_condF _ rfl (by decide) ?_
  refine JC_skip ?_
  refine JQ_then ?_
  refine JC_seq ?_
  refine JC_region ?_
  refine JL_val (.func (.func 113) #[] #[Ptr nb1 0, Ptr nb2 0]) (Ev_makeFunc (vs := [Ptr nb1 0, Ptr nb2 0]) rfl (fun _ _ => rfl)) rfl ?_
  refine JL_val _ (Ev_assign rfl) rfl ?_
  refine JL_nil ?_
  refine JQ_then ?_
  refine JC_ret ?_
  refine JQ_ret (.func (.func 113) #[] #[Ptr nb1 0, Ptr nb2 0]) (res1 Tryd.results83 (RV_tmp rfl)) fun w1 hw1 => ?_
  exact ⟨_, _, rfl, ⟨nb1, nb2, rfl, rfl⟩, hw1⟩

theorem chunk_it (b1 b2 gs N cap : Nat) (w0 : World) (hN : N % 64 = 0) (hc : N ≤ cap) (hm : cap ≤ maxLen) : Iter Tryd.prog 113 #[Ptr b1 0, Ptr b2 0] [⟨b1, [Slc gs 0 N cap], 22, (0, 0)⟩, ⟨b2, [I64 (64:Int)], 3, (0, 0)⟩] [] w0 (fun k => 64*k < N) (fun k => 64*k = N) (fun k => Slc gs (64*k) 64 64) := by
  intro l B W S X S0 hS0 hW hl0 hlM hRb hY
  refine enterI W ((([⟨b1, [Slc gs 0 N cap], 22, (0, 0)⟩, ⟨b2, [I64 (64:Int)], 3, (0, 0)⟩] : List Ent) ++ S0).map Ent.b) 31 ([⟨b1, [Slc gs 0 N cap], 22, (0, 0)⟩, ⟨b2, [I64 (64:Int)], 3, (0, 0)⟩] ++ S0) [.func (.yield l) #[] #[], Ptr b1 0, Ptr b2 0] Tryd.func113 rfl rfl (by simp) hW ?_
  have hm2 : cap ≤ 9223372036854775807 := by unfold maxLen at hm; omega
  show JC _ _ _ [(0, .func (.yield l) #[] #[]), (1, Ptr b1 0), (2, Ptr b2 0)] ([⟨b1, [Slc gs 0 N cap], 22, (0, 0)⟩, ⟨b2, [I64 (64:Int)], 3, (0, 0)⟩] ++ S0)
  refine JC_seq ?_
  refine JC_region ?_
  refine JL_val _ (Ev_assign rfl) rfl ?_
  refine JL_nil ?_
  refine JQ_then ?_
  refine JC_block ?_
  refine JC_loop (ι := Nat × List Ent) (fun ⟨k, Sk⟩ => [(0, .func (.yield l) #[] #[]), (1, Ptr b1 0), (2, Ptr b2 0), (4, I64 (64*(k:Int)))]) (fun ⟨k, Sk⟩ => [⟨b1, [Slc gs 0 N cap], 22, (0, 0)⟩, ⟨b2, [I64 (64:Int)], 3, (0, 0)⟩] ++ Sk) (fun ⟨k, Sk⟩ => k ≤ B ∧ S k Sk ∧ 64*k ≤ N) (fun ⟨k, Sk⟩ => B - k) (0, S0) ⟨by omega, hS0, by omega⟩ (Sub.cons rfl (Sub.cons rfl (Sub.cons rfl (Sub.cons rfl (Sub.nil))))) rfl ?_
  rintro ⟨k, Sk⟩ ⟨hx1, hx2, hx3⟩
  show JC _ _ _ [(0, .func (.yield l) #[] #[]), (1, Ptr b1 0), (2, Ptr b2 0), (4, I64 (64*(k:Int)))] ([⟨b1, [Slc gs 0 N cap], 22, (0, 0)⟩, ⟨b2, [I64 (64:Int)], 3, (0, 0)⟩] ++ Sk)
  refine JC_seq ?_
  refine JC_seq ?_
  refine JC_region ?_
  refine JL_val _ (Ev_move rfl) rfl ?_
  refine JL_val (Slc gs 0 N cap) (Ev_load rfl (Ld_one Tryd.isAgg22 (MemAt.ent 0 rfl (Seg.head)))) rfl ?_
  refine JL_val (I64 ((N:Int))) (Ev_len Tryd.underlying22 rfl) rfl ?_
  refine JL_val (.bool (decide ((64*(k:Int)) < ((N:Int))))) (Ev_bini rfl rfl fun _ => bin_lss_i _ _) rfl ?_
  refine JL_nil ?_
  refine JQ_then ?_
  refine JC_cond (decide ((64*(k:Int)) < ((N:Int)))) rfl (fun hb1 => ?_) (fun hb1 => ?_)
  ·
    have hp1 : (64*(k:Int)) < ((N:Int)) := of_decide_eq_true hb1
    refine JC_skip ?_
    refine JQ_then ?_
    refine JC_seq ?_
    refine JC_block ?_
    refine JC_seq ?_
    refine JC_draw 31 1 [(0, I64 (64:Int)), (1, Slc gs 0 N cap), (2, I64 (64*(k:Int))), (3, Slc gs (64*k) (N - 64*k) (cap - 64*k)), (4, I64 ((N:Int) - 64*(k:Int))), (5, I64 (64:Int)), (6, I64 (64:Int))] Tryd.mixed rfl (by decide +kernel) ?_
    refine DP_end ⟨[], [0, 1, 2, 3, 4, 5, 6], [], [0, 1, 2, 3, 4, 5, 6], []⟩ rfl rfl (by decide +kernel) rfl ⟨⟨_, rfl, Qok_val rfl (Ev_load rfl (Ld_one Tryd.isAgg3 (MemAt.ent 1 rfl (Seg.head))))⟩, ⟨_, rfl, Qok_val rfl (Ev_load rfl (Ld_one Tryd.isAgg22 (MemAt.ent 0 rfl (Seg.head))))⟩, ⟨_, rfl, Qok_val rfl (Ev_move rfl)⟩, ⟨_, rfl, Qok_val rfl (Ev_slice 5 1 (64*k) N (64*k) (cap - 64*k) Tryd.underlying22 Tryd.sizeOf5 rfl (some_i64 (by omega)) rfl (by omega) (by omega) (by omega) (by omega) (by omega) (N - 64*k) (by omega))⟩, ⟨_, rfl, Qok_val rfl (Ev_lenX Tryd.underlying22 rfl (by omega))⟩, ⟨_, rfl, Qok_val rfl (Ev_min rfl rfl (by have := of_decide_eq_true (decide_eq_true (by omega)); omega))⟩, ⟨_, rfl, Qok_val rfl (Ev_assign rfl)⟩, trivial⟩ ?_
    refine K_sub (F' := [(13, I64 (64:Int)), (14, Slc gs 0 N cap), (15, I64 (64*(k:Int))), (16, Slc gs (64*k) (N - 64*k) (cap - 64*k)), (17, I64 ((N:Int) - 64*(k:Int))), (18, I64 (64:Int)), (5, I64 (64:Int)), (0, .func (.yield l) #[] #[]), (1, Ptr b1 0), (2, Ptr b2 0), (4, I64 (64*(k:Int))), (6, I64 (64*(k:Int))), (7, Slc gs 0 N cap), (8, I64 ((N:Int))), (9, .bool (decide ((64*(k:Int)) < ((N:Int)))))]) (Sub.cons (by kernel_rfl) (Sub.cons (by kernel_rfl) (Sub.cons (by kernel_rfl) (Sub.cons (by kernel_rfl) (Sub.cons (by kernel_rfl) (Sub.cons (by kernel_rfl) (Sub.cons (by kernel_rfl) (Sub.cons (by kernel_rfl) (Sub.cons (by kernel_rfl) (Sub.cons (by kernel_rfl) (Sub.cons (by kernel_rfl) (Sub.cons (by kernel_rfl) (Sub.cons (by kernel_rfl) (Sub.cons (by kernel_rfl) (Sub.cons (by kernel_rfl) (Sub.nil)))))))))))))))) ?_
    show JQ _ _ _ [(13, I64 (64:Int)), (14, Slc gs 0 N cap), (15, I64 (64*(k:Int))), (16, Slc gs (64*k) (N - 64*k) (cap - 64*k)), (17, I64 ((N:Int) - 64*(k:Int))), (18, I64 (64:Int)), (5, I64 (64:Int)), (0, .func (.yield l) #[] #[]), (1, Ptr b1 0), (2, Ptr b2 0), (4, I64 (64*(k:Int))), (6, I64 (64*(k:Int))), (7, Slc gs 0 N cap), (8, I64 ((N:Int))), (9, .bool (decide ((64*(k:Int)) < ((N:Int)))))] _
    refine JQ_then ?_
    refine JC_seq ?_
    refine JC_region ?_
    refine JL_val _ (Ev_move rfl) rfl ?_
    refine JL_val (Slc gs 0 N cap) (Ev_load rfl (Ld_one Tryd.isAgg22 (MemAt.ent 0 rfl (Seg.head)))) rfl ?_
    refine JL_val _ (Ev_move rfl) rfl ?_
    refine JL_val _ (Ev_move rfl) rfl ?_
    refine JL_val _ (Ev_move rfl) rfl ?_
    refine JL_val (I64 (64*(k:Int) + 64)) (Ev_bini rfl rfl fun _ => bin_add_i _ _ (64*(k:Int) + 64) (by omega) (by omega)) rfl ?_
    refine JL_val _ (Ev_move rfl) rfl ?_
    refine JL_val _ (Ev_move rfl) rfl ?_
    refine JL_val (I64 (64*(k:Int) + 64)) (Ev_bini rfl rfl fun _ => bin_add_i _ _ (64*(k:Int) + 64) (by omega) (by omega)) rfl ?_
    refine JL_val (Slc gs (64*k) 64 64) (Ev_slice3 5 1 (64*k) (64*k + 64) (64*k + 64) (64*k) 64 64 Tryd.underlying22 Tryd.sizeOf5 rfl (some_i64 (by omega)) (some_i64 (by omega)) (some_i64 (by omega)) (by omega) (by omega) (by omega) (by omega) (by omega) (by omega) (by omega)) rfl ?_
    refine JL_yield l [Slc gs (64*k) 64 64] [⟨b1, [Slc gs 0 N cap], 22, (0, 0)⟩, ⟨b2, [I64 (64:Int)], 3, (0, 0)⟩] Sk (fun L' => k + 1 ≤ B ∧ S (k + 1) L') (X k) rfl rfl rfl hl0 hlM rfl (fun w1 hw1 => hY k Sk w1 (show 64*k < N by omega) hx1 hx2 (hw1.right)) ?_ ?_
    ·
      intro L1 ⟨hn1, hn2⟩
      show JL _ _ _ _ ((29, .bool true) :: _) ([⟨b1, [Slc gs 0 N cap], 22, (0, 0)⟩, ⟨b2, [I64 (64:Int)], 3, (0, 0)⟩] ++ L1)
      refine JL_val (.bool (!true)) (Ev_not rfl) rfl ?_
      refine JL_nil ?_
      refine JQ_then ?_
      refine JC_condF _ rfl rfl ?_
      refine JC_skip ?_
      refine JQ_in_normal ?_
      refine JQ_then ?_
      refine JC_region ?_
      refine JL_val _ (Ev_move rfl) rfl ?_
      refine JL_val (I64 (64:Int)) (Ev_load rfl (Ld_one Tryd.isAgg3 (MemAt.ent 1 rfl (Seg.head)))) rfl ?_
      refine JL_val (I64 (64*(k:Int) + 64)) (Ev_bini rfl rfl fun _ => bin_add_i _ _ (64*(k:Int) + 64) (by omega) (by omega)) rfl ?_
      refine JL_val _ (Ev_assign rfl) rfl ?_
      refine JL_nil ?_
      refine JQ_thenK ?_
      refine K_next (k + 1, L1) ⟨hn1, hn2, by omega⟩ (by first | (simp; omega) | simp) (Sub.cons rfl (Sub.cons rfl (Sub.cons rfl (Sub.cons (some_i64 (by omega)) (Sub.nil))))) rfl
    ·
      intro L1 o1 hx9
      show JL _ _ _ _ ((29, .bool false) :: _) ([⟨b1, [Slc gs 0 N cap], 22, (0, 0)⟩, ⟨b2, [I64 (64:Int)], 3, (0, 0)⟩] ++ L1)
      refine JL_val (.bool (!false)) (Ev_not rfl) rfl ?_
      refine JL_nil ?_
      refine JQ_then ?_
      refine JC_condT _ rfl rfl ?_
      refine JC_ret ?_
      refine JQ_in_ret ?_
      refine JQ_then_ret ?_
      refine JQ_then_ret ?_
      refine JQ_in_ret ?_
      refine JQ_retM0 (.tuple #[]) (res0 Tryd.results113 ) (fun w1 hw1 => ?_)
      exact ⟨⟨_, rfl⟩, .inr ⟨k, L1, o1, (show 64*k < N by omega), hx9, hw1.right⟩⟩
  ·
    have hp1 : ¬ ((64*(k:Int)) < ((N:Int))) := of_decide_eq_false hb1
    refine JC_exit ?_
    refine JQ_then_exit ?_
    refine JQ_then_exit ?_
    refine JQ_in_same ?_
    refine JQ_endM0 (.tuple #[]) (res0 Tryd.results113 ) (fun w1 hw1 => ?_)
    exact ⟨⟨_, rfl⟩, .inl ⟨k, Sk, (show 64*k = N by omega), hx2, hw1.right⟩⟩

theorem GLs.round {w W : World} {M S : List Nat} {l : Nat} {o : Obj} (h : GLs w) (hB : ∀ b, b < w.heap.size → b ∉ M → W.heap[b]? = w.heap[b]? ∧ b ∉ S ∧ b ≠ l) (h1 : 3 ∉ M := by simp) (h2 : 2 ∉ M := by simp) : GLs (W.putObj l o) ∧ 3 ∉ S ∧ 2 ∉ S := by
  have key : ∀ b vs, b ∉ M → RdA w b 0 vs → RdA (W.putObj l o) b 0 vs ∧ b ∉ S := by
    intro b vs hM hr
    obtain ⟨e1, e2, e3⟩ := hB b hr.1 hM
    have e4 : (W.putObj l o).heap[b]? = w.heap[b]? := (World.putObj_heap_other e3).trans e1
    refine ⟨⟨?_, fun j v hj => ?_⟩, e2⟩
    · have : w.heap[b]? ≠ none := by simp; exact hr.1
      rw [← e4] at this
      simp at this
      simpa using this
    · have := hr.2 j v hj
      simp only [World.cell?, e4] at this ⊢
      exact this
  exact ⟨⟨(key _ _ h1 h.1).1, (key _ _ h2 h.2).1⟩, (key _ _ h1 h.1).2, (key _ _ h2 h.2).2⟩

theorem sum_c (ao : Option Addr) (n cb : Nat) (b : List UInt8) (w : World) (hb : b.length = n) (hcb : ao = none → cb = 0) (hn : n ≤ 17592186044416) (hr : RdB w [] ao b) (hG : GLs w) : Calls Tryd.prog 23 #[.slice ao n cb] w (Post w [] (fun v L => v = .agg (cu8 (sumG constL initL b)).toArray ∧ L = [])) := by
  have hpm := pad_mod b
  refine enterM w [] 41 [] [.slice ao n cb] Tryd.func23 rfl rfl (by simp) (Hp.start (by simp) (by simp) (by simp)) ?_
  show JC _ _ _ [(0, .slice ao n cb)] _
  refine JC_seq ?_
  refine JC_region ?_
  refine JL_step (Step_alloc _ (cu8 (zr8 32)) Tryd.zeroValue25 (by kernel_rfl)) rfl ?_
  rintro v1 L1 ⟨nb1, hnb1, rfl, rfl⟩
  show JL _ _ _ _ ((2, Ptr nb1 0) :: _) [⟨nb1, cu8 (zr8 32), 25, (0, 0)⟩]
  refine JL_nil ?_
  refine JQ_then ?_
  refine JC_seq ?_
  refine JC_region ?_
  refine JL_val (.agg (cu32 initL).toArray) (Ev_load rfl (Ld_agg Tryd.isAgg31 Tryd.sizeOf31 (len_cu32 initL_len) (MemAt.seg (hG.2.mem (by simp)) (Seg.whole _) (by omega)))) rfl ?_
  refine JL_step (Step_alloc _ (cu32 (zr32 8)) Tryd.zeroValue31 (by kernel_rfl)) rfl ?_
  rintro v1 L1 ⟨nb2, hnb2, rfl, rfl⟩
  show JL _ _ _ _ ((3, Ptr nb2 0) :: _) [⟨nb1, cu8 (zr8 32), 25, (0, 0)⟩, ⟨nb2, cu32 (zr32 8), 31, (0, 0)⟩]
  refine JL_step (Step_store 1 nb2 0 8 (cu32 (zr32 8)) 31 (.agg (cu32 initL).toArray) (cu32 initL) (cu32 initL) rfl rfl rfl (by first | rfl | simp) Tryd.sizeOf31 (len_cu32 initL_len) (by first | exact one_u8 | exact one_u32 | exact one_u64 | (simp [cu8, cu32, cu64, Value.oneCell']; done)) (by simp [(zr32_len 8)]) (lay_whole (by simp [(zr32_len 8), initL_len]))) rfl ?_
  rintro v1 L1 ⟨rfl, rfl⟩
  show JL _ _ _ _ _ [⟨nb1, cu8 (zr8 32), 25, (0, 0)⟩, ⟨nb2, cu32 initL, 31, (0, 0)⟩]
  refine JL_nil ?_
  refine JQ_then ?_
  refine JC_seq ?_
  refine JC_seq ?_
  refine JC_region ?_
  refine JL_val _ (Ev_move rfl) rfl ?_
  refine JL_step (Step_callN 26 [.slice ao n cb] _ (Cl_func [.slice ao n cb] Tryd.call26 rfl) (fun w1 hw1 => pad_w ao n cb b w1 hb hcb (by omega) (hr.at (M' := []) hw1 (by simp)))) rfl ?_
  rintro v1 L1 ⟨_, ⟨nb3, sp1, cp1, rfl, rfl, hc1, hc2, hc3⟩, rfl⟩
  show JL _ _ _ _ ((10, Slc nb3 0 ((padL b).length) cp1) :: _) [⟨nb1, cu8 (zr8 32), 25, (0, 0)⟩, ⟨nb2, cu32 initL, 31, (0, 0)⟩, ⟨nb3, cu8 (padL b) ++ sp1, 5, (0, 0)⟩]
  refine JL_step (Step_callN 83 [Slc nb3 0 ((padL b).length) cp1, I64 (64:Int)] _ (Cl_func [Slc nb3 0 ((padL b).length) cp1, I64 (64:Int)] Tryd.call83 rfl) (fun w1 hw1 => chunk_c nb3 ((padL b).length) cp1 w1)) rfl ?_
  rintro v1 L1 ⟨_, ⟨nb4, nb5, rfl, rfl⟩, rfl⟩
  show JL _ _ _ _ ((11, .func (.func 113) #[] #[Ptr nb4 0, Ptr nb5 0]) :: _) [⟨nb1, cu8 (zr8 32), 25, (0, 0)⟩, ⟨nb2, cu32 initL, 31, (0, 0)⟩, ⟨nb3, cu8 (padL b) ++ sp1, 5, (0, 0)⟩, ⟨nb4, [Slc nb3 0 ((padL b).length) cp1], 22, (0, 0)⟩, ⟨nb5, [I64 (64:Int)], 3, (0, 0)⟩]
  refine JL_nil ?_
  refine JQ_then ?_
  refine JC_block ?_
  refine K_sub (F' := [(2, Ptr nb1 0), (3, Ptr nb2 0), (11, .func (.func 113) #[] #[Ptr nb4 0, Ptr nb5 0])]) (Sub.cons rfl (Sub.cons rfl (Sub.cons rfl (Sub.nil)))) ?_
  refine K_pick [0, 2, 3, 4, 1] (by decide) ?_
  show JC _ _ _ _ [⟨nb1, cu8 (zr8 32), 25, (0, 0)⟩, ⟨nb3, cu8 (padL b) ++ sp1, 5, (0, 0)⟩, ⟨nb4, [Slc nb3 0 ((padL b).length) cp1], 22, (0, 0)⟩, ⟨nb5, [I64 (64:Int)], 3, (0, 0)⟩, ⟨nb2, cu32 initL, 31, (0, 0)⟩]
  refine JC_range [⟨nb1, cu8 (zr8 32), 25, (0, 0)⟩, ⟨nb3, cu8 (padL b) ++ sp1, 5, (0, 0)⟩] [⟨nb4, [Slc nb3 0 ((padL b).length) cp1], 22, (0, 0)⟩, ⟨nb5, [I64 (64:Int)], 3, (0, 0)⟩] [⟨nb2, cu32 initL, 31, (0, 0)⟩] [] (fun k => 64*k < (padL b).length) (fun k => 64*k = (padL b).length) (fun k => Slc nb3 (64*k) 64 64) ((padL b).length / 64) (fun k L => k ≤ (padL b).length / 64 ∧ L = [⟨nb2, cu32 (stN constL initL (padL b) k), 31, (0, 0)⟩]) (fun k c L => False) rfl rfl rfl Tryd.call113 (List.Perm.refl _) rfl ⟨by omega, by rw [stN]⟩ (by simp) (fun w1 hw1 => chunk_it nb4 nb5 _ _ _ w1 (pad_mod b) hc2 hc3) ?_ ?_ ?_
  ·
    intro l rb k Sk W1 hgo hkB hSk hl0 hlM hA hB hle
    have hA0 := hA _ (List.mem_of_getElem? (i := 0) rfl)
    have hA1 := hA _ (List.mem_of_getElem? (i := 1) rfl)
    obtain ⟨hx1, rfl⟩ := hSk
    have hG2 := hG.round (o := rb) hB
    show JC _ _ _ _ [⟨nb2, cu32 (stN constL initL (padL b) k), 31, (0, 0)⟩]
    refine JC_region ?_
    refine JL_val _ (Ev_assign rfl) rfl ?_
    refine JL_nil ?_
    refine JQ_begin hl0 hlM ?_
    show JC _ _ _ _ [⟨nb2, cu32 (stN constL initL (padL b) k), 31, (0, 0)⟩]
    refine JC_block ?_
    have hl1 : (mid (padL b) (64*k) 64).length = 64 := mid_len (by rw [(rfl : (padL b).length = _)]; omega)
    refine JC_draw 41 3 [(0, .agg (cu32 (stN constL initL (padL b) k)).toArray), (1, Slc nb3 (64*k) 64 64), (2, Ptr nb3 (64*k)), (3, .agg (cu8 (mid (padL b) (64*k) 64)).toArray)] Tryd.mixed rfl (by decide +kernel) ?_
    have hl2 : (mid (padL b) (64*k) 64).length = 64 := mid_len (by rw [(rfl : (padL b).length = _)]; omega)
    refine DP_one ⟨[], [0, 1, 2, 3], [], [0, 1, 2, 3], [4]⟩ 4 _ rfl rfl (by decide +kernel) rfl ⟨⟨_, rfl, Qok_val rfl (Ev_load rfl (Ld_agg Tryd.isAgg31 Tryd.sizeOf31 (len_cu32 (stN_len initL_len k)) (MemAt.ent 0 rfl (Seg.whole _))))⟩, ⟨_, rfl, Qok_val rfl (Ev_move rfl)⟩, ⟨_, rfl, Qok_val rfl (Ev_s2ap 64 Tryd.underlying32 rfl (by omega))⟩, ⟨_, rfl, Qok_val rfl (Ev_load rfl (Ld_agg Tryd.isAgg32 Tryd.sizeOf32 (len_cu8 hl2) (MemAt.seg (MemAt.heap ((World.putObj_heap_other hA1.2.2).trans hA1.1) hA1.2.1) (Seg.left (segm_u8 (64*k) 64 (by rw [(rfl : (padL b).length = _)]; omega))) (by omega))))⟩, trivial⟩ rfl (Cok_step rfl (Step_callP 28 [.agg (cu32 (stN constL initL (padL b) k)).toArray, .agg (cu8 (mid (padL b) (64*k) 64)).toArray] (.agg (cu32 (comprL constL (stN constL initL (padL b) k) (mid (padL b) (64*k) 64))).toArray) (Cl_func [.agg (cu32 (stN constL initL (padL b) k)).toArray, .agg (cu8 (mid (padL b) (64*k) 64)).toArray] Tryd.call28 rfl) (fun w1 hw1 => compress_c (stN constL initL (padL b) k) (mid (padL b) (64*k) 64) w1 (stN_len initL_len k) hl1 (hG2.1.at hw1 hG2.2.1 hG2.2.2)))) ?_
    rintro v1 L1 ⟨rfl, rfl⟩
    refine ⟨[], ?_⟩
    show DP _ _ _ _ _ _ _ _ [⟨nb2, cu32 (stN constL initL (padL b) k), 31, (0, 0)⟩]
    refine DP_one ⟨[4], [0, 1, 2, 3], [0, 1, 2, 3], [], [5]⟩ 5 _ rfl rfl (by decide +kernel) rfl trivial rfl (Cok_step rfl (Step_store 0 nb2 0 8 (cu32 (stN constL initL (padL b) k)) 31 (.agg (cu32 (comprL constL (stN constL initL (padL b) k) (mid (padL b) (64*k) 64))).toArray) (cu32 (comprL constL (stN constL initL (padL b) k) (mid (padL b) (64*k) 64))) (cu32 (comprL constL (stN constL initL (padL b) k) (mid (padL b) (64*k) 64))) rfl rfl rfl (by first | rfl | simp) Tryd.sizeOf31 (len_cu32 (comprL_len (stN_len initL_len k))) (by first | exact one_u8 | exact one_u32 | exact one_u64 | (simp [cu8, cu32, cu64, Value.oneCell']; done)) (by simp [(stN_len initL_len k)]) (lay_whole (by simp [(stN_len initL_len k), (comprL_len (stN_len initL_len k))])))) ?_
    rintro v1 L1 ⟨rfl, rfl⟩
    refine ⟨[], ?_⟩
    show DP _ _ _ _ _ _ _ _ [⟨nb2, cu32 (comprL constL (stN constL initL (padL b) k) (mid (padL b) (64*k) 64)), 31, (0, 0)⟩]
    refine DP_end ⟨[4, 5], [0, 1, 2, 3], [0, 1, 2, 3], [], []⟩ rfl rfl (by decide +kernel) rfl trivial ?_
    refine K_sub (F' := [(2, Ptr nb1 0)]) (Sub.cons (by kernel_rfl) (Sub.nil)) ?_
    show JQ _ _ _ [(2, Ptr nb1 0)] _
    refine JQ_in_normal ?_
    refine JQ_bodyN ⟨by omega, by omega, by rw [stN]⟩
  ·
    intro D k L' W' hf hX hw' hD hDle
    obtain ⟨hx1, rfl⟩ := hX
    show JQ _ _ _ _ [⟨nb1, cu8 (zr8 32), 25, (0, 0)⟩, ⟨nb3, cu8 (padL b) ++ sp1, 5, (0, 0)⟩, ⟨nb2, cu32 (stN constL initL (padL b) k), 31, (0, 0)⟩]
    refine JQ_in_normal ?_
    refine JQ_then ?_
    refine JC_seq ?_
    refine JC_region ?_
    refine JL_step (Step_alloc _ (cu8 (zr8 32)) Tryd.zeroValue25 (by kernel_rfl)) rfl ?_
    rintro v1 L1 ⟨nb6, hnb6, rfl, rfl⟩
    show JL _ _ _ _ ((5, Ptr nb6 0) :: _) [⟨nb1, cu8 (zr8 32), 25, (0, 0)⟩, ⟨nb3, cu8 (padL b) ++ sp1, 5, (0, 0)⟩, ⟨nb2, cu32 (stN constL initL (padL b) k), 31, (0, 0)⟩, ⟨nb6, cu8 (zr8 32), 25, (0, 0)⟩]
    refine JL_nil ?_
    refine JQ_then ?_
    refine JC_seq ?_
    refine JC_seq ?_
    refine JC_region ?_
    refine JL_val (.agg (cu32 (stN constL initL (padL b) k)).toArray) (Ev_load rfl (Ld_agg Tryd.isAgg31 Tryd.sizeOf31 (len_cu32 (stN_len initL_len k)) (MemAt.ent 2 rfl (Seg.whole _)))) rfl ?_
    refine JL_val _ (Ev_move rfl) rfl ?_
    refine JL_nil ?_
    refine JQ_then ?_
    refine JC_block ?_
    refine K_mask [true, false, false, true] ?_
    show JC _ _ _ _ [⟨nb1, cu8 (zr8 32), 25, (0, 0)⟩, ⟨nb6, cu8 (zr8 32), 25, (0, 0)⟩]
    refine JC_loop (ι := Nat × List UInt8) (fun ⟨i, o⟩ => [(2, Ptr nb1 0), (5, Ptr nb6 0), (18, .agg (cu32 (stN constL initL (padL b) k)).toArray), (19, I64 ((i:Int)))]) (fun ⟨i, o⟩ => [⟨nb1, cu8 (zr8 32), 25, (0, 0)⟩, ⟨nb6, cu8 o, 25, (0, 0)⟩]) (fun ⟨i, o⟩ => i ≤ 8 ∧ o = outN (stN constL initL (padL b) k) i ∧ o.length = 32) (fun ⟨i, o⟩ => 8 - i) (0, zr8 32) ⟨by omega, by rw [outN], zr8_len 32⟩ (Sub.cons rfl (Sub.cons rfl (Sub.cons rfl (Sub.cons rfl (Sub.nil))))) rfl ?_
    rintro ⟨i, o⟩ ⟨hz1, hz2, ho⟩
    show JC _ _ _ [(2, Ptr nb1 0), (5, Ptr nb6 0), (18, .agg (cu32 (stN constL initL (padL b) k)).toArray), (19, I64 ((i:Int)))] [⟨nb1, cu8 (zr8 32), 25, (0, 0)⟩, ⟨nb6, cu8 o, 25, (0, 0)⟩]
    refine JC_seq ?_
    refine JC_region ?_
    refine JL_val (.bool (decide (((i:Int)) < (8:Int)))) (Ev_bini rfl rfl fun _ => bin_lss_i _ _) rfl ?_
    refine JL_nil ?_
    refine JQ_then ?_
    refine JC_seq ?_
    refine JC_cond (decide (((i:Int)) < (8:Int))) rfl (fun hb1 => ?_) (fun hb1 => ?_)
    ·
      have hp1 : ((i:Int)) < (8:Int) := of_decide_eq_true hb1
      refine JC_skip ?_
      refine JQ_then ?_
      refine JC_seq ?_
      refine JC_block ?_
      refine JC_seq ?_
      refine JC_region ?_
      refine JL_val _ (Ev_move rfl) rfl ?_
      refine JL_val (U32 (g32 (stN constL initL (padL b) k) i)) (Ev_index1 8 30 _ Tryd.underlying31 Tryd.isAgg30 Tryd.sizeOf30 rfl rfl (by omega) (by omega) (Seg.get1 (Seg.get (g32_get (i := i) (by rw [(stN_len initL_len k)]; omega))) (by omega))) rfl ?_
      refine JL_val _ (Ev_assign rfl) rfl ?_
      refine JL_val _ (Ev_assign rfl) rfl ?_
      refine JL_nil ?_
      refine JQ_then ?_
      refine JC_region ?_
      refine JL_val _ (Ev_move rfl) rfl ?_
      refine JL_val (I64 (4*(i:Int))) (Ev_bini rfl rfl fun _ => bin_mul_i _ _ (4*(i:Int)) (by omega) (by omega)) rfl ?_
      refine JL_val (Slc nb6 (4*i) (32 - 4*i) (32 - 4*i)) (Ev_sliceA 32 5 1 (4*i) 32 (4*i) (32 - 4*i) Tryd.underlying25 Tryd.sizeOf5 rfl (some_i64 (by omega)) rfl (by omega) (by omega) (by omega) (by omega) (by omega) (32 - 4*i) (by omega)) rfl ?_
      refine JL_val _ (Ev_move rfl) rfl ?_
      refine JL_val (U32 ((g32 (stN constL initL (padL b) k) i) >>> (24:UInt32))) (Ev_bini rfl rfl fun _ => bin_shr_u32 (g32 (stN constL initL (padL b) k) i) _ _ 24 (by decide) rfl) rfl ?_
      refine JL_val (U8 (((g32 (stN constL initL (padL b) k) i) >>> (24:UInt32)).toUInt8)) (Ev_conv _ _ rfl fun _ => conv_u32_u8 (by rw [Tryd.underlying30]; rfl) Tryd.underlying5 _) rfl ?_
      refine JL_val _ (Ev_move rfl) rfl ?_
      refine JL_val (U32 ((g32 (stN constL initL (padL b) k) i) >>> (16:UInt32))) (Ev_bini rfl rfl fun _ => bin_shr_u32 (g32 (stN constL initL (padL b) k) i) _ _ 16 (by decide) rfl) rfl ?_
      refine JL_val (U8 (((g32 (stN constL initL (padL b) k) i) >>> (16:UInt32)).toUInt8)) (Ev_conv _ _ rfl fun _ => conv_u32_u8 (by rw [Tryd.underlying30]; rfl) Tryd.underlying5 _) rfl ?_
      refine JL_val _ (Ev_move rfl) rfl ?_
      refine JL_val (U32 ((g32 (stN constL initL (padL b) k) i) >>> (8:UInt32))) (Ev_bini rfl rfl fun _ => bin_shr_u32 (g32 (stN constL initL (padL b) k) i) _ _ 8 (by decide) rfl) rfl ?_
      refine JL_val (U8 (((g32 (stN constL initL (padL b) k) i) >>> (8:UInt32)).toUInt8)) (Ev_conv _ _ rfl fun _ => conv_u32_u8 (by rw [Tryd.underlying30]; rfl) Tryd.underlying5 _) rfl ?_
      refine JL_val _ (Ev_move rfl) rfl ?_
      refine JL_val (U8 ((g32 (stN constL initL (padL b) k) i).toUInt8)) (Ev_conv _ _ rfl fun _ => conv_u32_u8 (by rw [Tryd.underlying30]; rfl) Tryd.underlying5 _) rfl ?_
      refine JL_step (Step_buildSlice 5 1 _ [(0, U8 (((g32 (stN constL initL (padL b) k) i) >>> (24:UInt32)).toUInt8)), (1, U8 (((g32 (stN constL initL (padL b) k) i) >>> (16:UInt32)).toUInt8)), (2, U8 (((g32 (stN constL initL (padL b) k) i) >>> (8:UInt32)).toUInt8)), (3, U8 ((g32 (stN constL initL (padL b) k) i).toUInt8))] (cu8 ([((g32 (stN constL initL (padL b) k) i) >>> (24:UInt32)).toUInt8, ((g32 (stN constL initL (padL b) k) i) >>> (16:UInt32)).toUInt8, ((g32 (stN constL initL (padL b) k) i) >>> (8:UInt32)).toUInt8, (g32 (stN constL initL (padL b) k) i).toUInt8])) Tryd.underlying22 Tryd.sizeOf5 Tryd.zeroValue5 rfl rfl rfl (by kernel_rfl)) rfl ?_
      rintro v1 L1 ⟨nb7, hnb7, rfl, rfl⟩
      show JL _ _ _ _ ((37, Slc nb7 0 4 4) :: _) [⟨nb1, cu8 (zr8 32), 25, (0, 0)⟩, ⟨nb6, cu8 o, 25, (0, 0)⟩, ⟨nb7, cu8 ([((g32 (stN constL initL (padL b) k) i) >>> (24:UInt32)).toUInt8, ((g32 (stN constL initL (padL b) k) i) >>> (16:UInt32)).toUInt8, ((g32 (stN constL initL (padL b) k) i) >>> (8:UInt32)).toUInt8, (g32 (stN constL initL (padL b) k) i).toUInt8]), 5, (0, 0)⟩]
      have hl3 : (spl o (4*i) ([((g32 (stN constL initL (padL b) k) i) >>> (24:UInt32)).toUInt8, ((g32 (stN constL initL (padL b) k) i) >>> (16:UInt32)).toUInt8, ((g32 (stN constL initL (padL b) k) i) >>> (8:UInt32)).toUInt8, (g32 (stN constL initL (padL b) k) i).toUInt8])).length = 32 := by rw [spl_len (by simp [ho]; omega)]; simp [ho]
      refine JL_step (Step_copy 22 22 5 1 nb6 (4*i) (32 - 4*i) (32 - 4*i) (cu8 o) 25 (some ⟨nb7, 0, none⟩) 4 4 4 (cu8 ([((g32 (stN constL initL (padL b) k) i) >>> (24:UInt32)).toUInt8, ((g32 (stN constL initL (padL b) k) i) >>> (16:UInt32)).toUInt8, ((g32 (stN constL initL (padL b) k) i) >>> (8:UInt32)).toUInt8, (g32 (stN constL initL (padL b) k) i).toUInt8])) (cu8 (spl o (4*i) ([((g32 (stN constL initL (padL b) k) i) >>> (24:UInt32)).toUInt8, ((g32 (stN constL initL (padL b) k) i) >>> (16:UInt32)).toUInt8, ((g32 (stN constL initL (padL b) k) i) >>> (8:UInt32)).toUInt8, (g32 (stN constL initL (padL b) k) i).toUInt8]))) Tryd.underlying22 Tryd.size1_5 rfl rfl rfl (Nat.min_eq_left (by omega)) (by simp) (SrcAt.mem (MemAt.ent 2 rfl (Seg.whole _))) (by simp [ho]; try omega) (by first | exact one_u8 | exact one_u32 | exact one_u64 | (simp [cu8, cu32, cu64, Value.oneCell']; done)) (laySpl8 _ _ _ (by simp [ho]; omega))) rfl ?_
      rintro v1 L1 ⟨rfl, rfl⟩
      show JL _ _ _ _ ((38, I64 (4:Int)) :: _) [⟨nb1, cu8 (zr8 32), 25, (0, 0)⟩, ⟨nb6, cu8 (spl o (4*i) ([((g32 (stN constL initL (padL b) k) i) >>> (24:UInt32)).toUInt8, ((g32 (stN constL initL (padL b) k) i) >>> (16:UInt32)).toUInt8, ((g32 (stN constL initL (padL b) k) i) >>> (8:UInt32)).toUInt8, (g32 (stN constL initL (padL b) k) i).toUInt8])), 25, (0, 0)⟩, ⟨nb7, cu8 ([((g32 (stN constL initL (padL b) k) i) >>> (24:UInt32)).toUInt8, ((g32 (stN constL initL (padL b) k) i) >>> (16:UInt32)).toUInt8, ((g32 (stN constL initL (padL b) k) i) >>> (8:UInt32)).toUInt8, (g32 (stN constL initL (padL b) k) i).toUInt8]), 5, (0, 0)⟩]
      refine JL_nil ?_
      refine JQ_in_normal ?_
      refine JQ_then ?_
      refine JC_region ?_
      refine JL_val (I64 ((i:Int) + 1)) (Ev_bini rfl rfl fun _ => bin_add_i _ _ ((i:Int) + 1) (by omega) (by omega)) rfl ?_
      refine JL_val _ (Ev_move rfl) rfl ?_
      refine JL_nil ?_
      refine JQ_thenK ?_
      refine K_mask [true, true, false] ?_
      show K _ _ [⟨nb1, cu8 (zr8 32), 25, (0, 0)⟩, ⟨nb6, cu8 (spl o (4*i) ([((g32 (stN constL initL (padL b) k) i) >>> (24:UInt32)).toUInt8, ((g32 (stN constL initL (padL b) k) i) >>> (16:UInt32)).toUInt8, ((g32 (stN constL initL (padL b) k) i) >>> (8:UInt32)).toUInt8, (g32 (stN constL initL (padL b) k) i).toUInt8])), 25, (0, 0)⟩] _
      refine K_next (i + 1, spl o (4*i) ([((g32 (stN constL initL (padL b) k) i) >>> (24:UInt32)).toUInt8, ((g32 (stN constL initL (padL b) k) i) >>> (16:UInt32)).toUInt8, ((g32 (stN constL initL (padL b) k) i) >>> (8:UInt32)).toUInt8, (g32 (stN constL initL (padL b) k) i).toUInt8])) ⟨by omega, by rw [outN, ← hz2], hl3⟩ (by first | (simp; omega) | simp) (Sub.cons rfl (Sub.cons rfl (Sub.cons rfl (Sub.cons rfl (Sub.nil))))) rfl
    ·
      have hp1 : ¬ (((i:Int)) < (8:Int)) := of_decide_eq_false hb1
      refine JC_exit ?_
      refine JQ_then_exit ?_
      refine JQ_then_exit ?_
      refine JQ_in_same ?_
      refine JQ_then ?_
      refine JC_seq ?_
      refine JC_region ?_
      refine JL_val (.agg (cu8 o).toArray) (Ev_load rfl (Ld_agg Tryd.isAgg25 Tryd.sizeOf25 (len_cu8 ho) (MemAt.ent 1 rfl (Seg.whole _)))) rfl ?_
      refine JL_step (Step_store 0 nb1 0 32 (cu8 (zr8 32)) 25 (.agg (cu8 o).toArray) (cu8 o) (cu8 o) rfl rfl rfl (by first | rfl | simp) Tryd.sizeOf25 (len_cu8 ho) (by first | exact one_u8 | exact one_u32 | exact one_u64 | (simp [cu8, cu32, cu64, Value.oneCell']; done)) (by simp [(zr8_len 32)]) (lay_whole (by simp [(zr8_len 32), ho]))) rfl ?_
      rintro v1 L1 ⟨rfl, rfl⟩
      show JL _ _ _ _ _ [⟨nb1, cu8 o, 25, (0, 0)⟩, ⟨nb6, cu8 o, 25, (0, 0)⟩]
      refine JL_nil ?_
      refine JQ_then ?_
      refine JC_ret ?_
      refine JQ_retM D (.agg (cu8 o).toArray) rfl hD rfl hw'.here (fun _ => (res1 Tryd.results23 (RV_cell rfl (Ld_agg Tryd.isAgg25 Tryd.sizeOf25 (len_cu8 ho) (MemAt.ent 0 rfl (Seg.whole _)))))) (fun w1 hw1 => ?_)
      have hw1 := hw'.fin hD hDle hw1 (.deferred none)
      have e1 : i = 8 := by omega
      subst e1
      have e2 : k = (padL b).length / 64 := by have : 64*k = (padL b).length := hf; omega
      refine ⟨_, [], rfl, ⟨?_, rfl⟩, hw1.sub (by simp) (by simp)⟩
      rw [sumG, ← outN_hash, hz2, e2]
  ·
    intro D k c L' W' hgo hX
    exact hX.elim

end Go.Proofs.YtncoifiafklkjaaDoor
namespace Go.Proofs.YtncoifiafklkjaaDoor
open Go Go.Sx
set_option linter.unusedVariables false
set_option linter.unusedSimpArgs false
set_option maxRecDepth 100000
attribute [local irreducible] mid zr8 zr32 numK valK
theorem hashO_c (wb gb n cap0 tot : Nat) (ev : Value) (o : List UInt8) (sp0 : List Value) (h : List UInt8) (w : World) (h0 : w.heap[wb]? = some (.cells [ev, Slc gb 0 n cap0].toArray 138 (0, 0))) (h1 : w.heap[gb]? = some (.cells (cu8 o ++ sp0).toArray 5 (0, 0))) (hne : wb ≠ gb) (ho : o.length = n) (hsp : sp0.length = cap0 - n) (hca : n ≤ cap0) (hcm : cap0 ≤ maxLen) (hn : n ≤ 1000000000) (hh : h.length = 32) (ht : n + 32 = tot) : Calls Tryd.prog 111 #[Ptr wb 0, .agg (cu8 h).toArray] w (Post w [wb, gb] (fun v L => v = Ptr wb 0 ∧ ∃ g sp cap, L = [⟨wb, [ev, Slc g 0 tot cap], 138, (0, 0)⟩, ⟨g, cu8 (o ++ h) ++ sp, 5, (0, 0)⟩] ∧ sp.length = cap - tot ∧ tot ≤ cap ∧ cap ≤ maxLen)) := by
  have hmx : maxLen = 9223372036854775807 := rfl
  refine enter w [wb, gb] 8 [⟨wb, [ev, Slc gb 0 n cap0], 138, (0, 0)⟩, ⟨gb, cu8 o ++ sp0, 5, (0, 0)⟩] [Ptr wb 0, .agg (cu8 h).toArray] Tryd.func111 rfl rfl (by simp) (Hp.start (by simp; exact ⟨h0, h1⟩) (by simp; exact hne) (by simp)) ?_
  show JC _ _ _ [(0, Ptr wb 0), (1, .agg (cu8 h).toArray)] _
  refine JC_seq ?_
  refine JC_region ?_
  refine JL_step (Step_box (.agg (cu8 h).toArray) (cu8 h) rfl (by first | rfl | simp)) rfl ?_
  rintro v1 L1 ⟨nb1, hnb1, rfl, rfl⟩
  show JL _ _ _ _ ((3, Ptr nb1 0) :: _) [⟨wb, [ev, Slc gb 0 n cap0], 138, (0, 0)⟩, ⟨gb, cu8 o ++ sp0, 5, (0, 0)⟩, ⟨nb1, cu8 h, 25, (0, 0)⟩]
  refine JL_val _ (Ev_assign rfl) rfl ?_
  refine JL_nil ?_
  refine JQ_then ?_
  refine JC_seq ?_
  refine JC_region ?_
  refine JL_val _ (Ev_move rfl) rfl ?_
  refine JL_val (Slc nb1 0 32 32) (Ev_sliceA 32 5 1 0 32 0 32 Tryd.underlying25 Tryd.sizeOf5 rfl rfl rfl (by omega) (by omega) (by omega) (by omega) (by omega) 32 (by omega)) rfl ?_
  refine JL_step (Step_call 106 _ [true, true, false] [wb, gb] _ (Cl_func [Ptr wb 0, Slc nb1 0 32 32] Tryd.call106 rfl) rfl (fun w1 hw1 => rawO_c wb gb n cap0 (n + 32) ev o sp0 (some ⟨nb1, 0, none⟩) 32 32 h w1 (hw1.ent _ (List.mem_of_getElem? (i := 0) rfl)) (hw1.ent _ (List.mem_of_getElem? (i := 1) rfl)) (hw1.ne (i := 0) (j := 1) rfl rfl (by decide)) ho hsp hca hcm (by omega) hh (by omega) (RdB.of hw1 (MemAt.ent 2 rfl (Seg.whole _)) (by intro _; simp only [List.mem_cons, List.not_mem_nil, or_false, not_or]; exact ⟨hw1.ne (i := 2) (j := 0) rfl rfl (by decide), hw1.ne (i := 2) (j := 1) rfl rfl (by decide)⟩)) (by omega))) rfl ?_
  rintro v1 L1 ⟨_, ⟨rfl, nb2, sp1, cp1, rfl, hc1, hc2, hc3⟩, rfl⟩
  show JL _ _ _ _ ((7, Ptr wb 0) :: _) [⟨nb1, cu8 h, 25, (0, 0)⟩, ⟨wb, [ev, Slc nb2 0 (n + 32) cp1], 138, (0, 0)⟩, ⟨nb2, cu8 (o ++ h) ++ sp1, 5, (0, 0)⟩]
  refine JL_val _ (Ev_assign rfl) rfl ?_
  refine JL_nil ?_
  refine JQ_then ?_
  refine JC_ret ?_
  refine K_mask [false, true, true] ?_
  show JQ _ _ _ _ [⟨wb, [ev, Slc nb2 0 (n + 32) cp1], 138, (0, 0)⟩, ⟨nb2, cu8 (o ++ h) ++ sp1, 5, (0, 0)⟩]
  refine JQ_ret (Ptr wb 0) (res1 Tryd.results111 (RV_tmp rfl)) fun w1 hw1 => ?_
  obtain rfl : tot = (n + 32) := by omega
  exact ⟨_, _, rfl, ⟨rfl, nb2, sp1, cp1, rfl, hc1, hc2, hc3⟩, hw1⟩

theorem doneE_c (wb e : Nat) (sv : Value) (w : World) (hw : RdA w wb 0 [errV 43 e, sv]) (he : e ≠ 0) : Calls Tryd.prog 98 #[Ptr wb 0] w (Post w [] (fun v L => v = .tuple #[.slice none 0 0, errV 43 e] ∧ L = [])) := by
  refine enter w [] 25 [] [Ptr wb 0] Tryd.func98 rfl rfl (by simp) (Hp.start (by simp) (by simp) (by simp)) ?_
  show JC _ _ _ [(0, Ptr wb 0)] _
  refine JC_seq ?_
  refine JC_region ?_
  refine JL_val _ (Ev_assign rfl) rfl ?_
  refine JL_val _ (Ev_assign rfl) rfl ?_
  refine JL_nil ?_
  refine JQ_then ?_
  refine JC_seq ?_
  refine JC_block ?_
  refine JC_seq ?_
  refine JC_region ?_
  refine JL_val _ (Ev_move rfl) rfl ?_
  refine JL_val (.bool false) (Ev_bin _ _ _ rfl rfl (fun _ => eqGuard_ptr ..) fun _ => eql_ptr_nil Tryd.underlying134) rfl ?_
  refine JL_val _ (Ev_assign rfl) rfl ?_
  refine JL_nil ?_
  refine JQ_then ?_
  refine JC_condF _ rfl rfl ?_
  refine JC_seq ?_
  refine JC_region ?_
  refine JL_val _ (Ev_move rfl) rfl ?_
  refine JL_val _ (Ev_nilCheck rfl) rfl ?_
  refine JL_val (Ptr wb 0) (Ev_fieldAddr 0 136 1 Tryd.underlying138 rfl Tryd.sizeOf136 rfl rfl) rfl ?_
  refine JL_val (Ptr wb 0) (Ev_fieldAddr 0 39 1 Tryd.underlying136 rfl Tryd.sizeOf39 rfl rfl) rfl ?_
  refine JL_val (errV 43 e) (Ev_load rfl (Ld_one Tryd.isAgg39 (MemAt.seg (hw.mem (by simp)) (Seg.head) (by omega)))) rfl ?_
  refine JL_val (.bool (!(decide (e = 0)))) (Ev_bin _ _ _ rfl rfl (fun _ => eqGuard_errV ..) fun _ => neq_errV Tryd.underlying39 _ _) rfl ?_
  refine JL_val _ (Ev_assign rfl) rfl ?_
  refine JL_nil ?_
  refine JQ_then ?_
  refine JC_condT _ rfl (by rw [show (decide (e = 0)) = false from (decide_eq_false he)]; rfl) ?_
  refine JC_seq ?_
  refine JC_draw 25 1 [(0, Ptr wb 0), (1, Ptr wb 0), (2, Ptr wb 0), (3, Ptr wb 0), (4, errV 43 e), (5, .slice none 0 0), (6, errV 43 e)] Tryd.mixed rfl (by decide +kernel) ?_
  refine DP_end ⟨[], [0, 1, 2, 3, 4, 5, 6], [], [0, 1, 2, 3, 4, 5, 6], []⟩ rfl rfl (by decide +kernel) rfl ⟨⟨_, rfl, Qok_val rfl (Ev_move rfl)⟩, ⟨_, rfl, Qok_val rfl (Ev_nilCheck rfl)⟩, ⟨_, rfl, Qok_val rfl (Ev_fieldAddr 0 136 1 Tryd.underlying138 rfl Tryd.sizeOf136 rfl rfl)⟩, ⟨_, rfl, Qok_val rfl (Ev_fieldAddr 0 39 1 Tryd.underlying136 rfl Tryd.sizeOf39 rfl rfl)⟩, ⟨_, rfl, Qok_val rfl (Ev_load rfl (Ld_one Tryd.isAgg39 (MemAt.seg (hw.mem (by simp)) (Seg.head) (by omega))))⟩, ⟨_, rfl, Qok_val rfl (Ev_assign rfl)⟩, ⟨_, rfl, Qok_val rfl (Ev_assign rfl)⟩, trivial⟩ ?_
  refine K_sub (F' := [(2, .slice none 0 0), (3, errV 43 e), (0, Ptr wb 0)]) (Sub.cons (by kernel_rfl) (Sub.cons (by kernel_rfl) (Sub.cons (by kernel_rfl) (Sub.nil)))) ?_
  show JQ _ _ _ [(2, .slice none 0 0), (3, errV 43 e), (0, Ptr wb 0)] _
  refine JQ_then ?_
  refine JC_ret ?_
  refine JQ_in_ret ?_
  refine JQ_then_ret ?_
  refine JQ_ret (.tuple #[.slice none 0 0, errV 43 e]) (res2 Tryd.results98 (RV_tmp rfl) (RV_tmp rfl)) fun w1 hw1 => ?_
  exact ⟨_, [], rfl, ⟨rfl, rfl⟩, hw1.sub (by simp) (by simp)⟩

theorem doneO_c (wb e gb n cap0 : Nat) (o : List UInt8) (w : World) (hw : RdA w wb 0 [errV 43 e, Slc gb 0 n cap0]) (he : e = 0) (ho : o.length = n) (hn : n ≤ 2000000000) (hr : RdB w [] (some ⟨gb, 0, none⟩) o) : Calls Tryd.prog 98 #[Ptr wb 0] w (Post w [] (fun v L => ∃ g sp cap, v = .tuple #[Slc g 0 n cap, .nilIface] ∧ L = [⟨g, cu8 o ++ sp, 5, (0, 0)⟩] ∧ sp.length = cap - n ∧ n ≤ cap ∧ cap ≤ maxLen)) := by
  refine enter w [] 25 [] [Ptr wb 0] Tryd.func98 rfl rfl (by simp) (Hp.start (by simp) (by simp) (by simp)) ?_
  show JC _ _ _ [(0, Ptr wb 0)] _
  refine JC_seq ?_
  refine JC_region ?_
  refine JL_val _ (Ev_assign rfl) rfl ?_
  refine JL_val _ (Ev_assign rfl) rfl ?_
  refine JL_nil ?_
  refine JQ_then ?_
  refine JC_seq ?_
  refine JC_block ?_
  refine JC_seq ?_
  refine JC_region ?_
  refine JL_val _ (Ev_move rfl) rfl ?_
  refine JL_val (.bool false) (Ev_bin _ _ _ rfl rfl (fun _ => eqGuard_ptr ..) fun _ => eql_ptr_nil Tryd.underlying134) rfl ?_
  refine JL_val _ (Ev_assign rfl) rfl ?_
  refine JL_nil ?_
  refine JQ_then ?_
  refine JC_condF _ rfl rfl ?_
  refine JC_seq ?_
  refine JC_region ?_
  refine JL_val _ (Ev_move rfl) rfl ?_
  refine JL_val _ (Ev_nilCheck rfl) rfl ?_
  refine JL_val (Ptr wb 0) (Ev_fieldAddr 0 136 1 Tryd.underlying138 rfl Tryd.sizeOf136 rfl rfl) rfl ?_
  refine JL_val (Ptr wb 0) (Ev_fieldAddr 0 39 1 Tryd.underlying136 rfl Tryd.sizeOf39 rfl rfl) rfl ?_
  refine JL_val (errV 43 e) (Ev_load rfl (Ld_one Tryd.isAgg39 (MemAt.seg (hw.mem (by simp)) (Seg.head) (by omega)))) rfl ?_
  refine JL_val (.bool (!(decide (e = 0)))) (Ev_bin _ _ _ rfl rfl (fun _ => eqGuard_errV ..) fun _ => neq_errV Tryd.underlying39 _ _) rfl ?_
  refine JL_val _ (Ev_assign rfl) rfl ?_
  refine JL_nil ?_
  refine JQ_then ?_
  refine JC_condF _ rfl (by rw [show (decide (e = 0)) = true from (decide_eq_true he)]; rfl) ?_
  refine JC_skip ?_
  refine JQ_in_normal ?_
  refine JQ_then ?_
  refine JC_seq ?_
  refine JC_region ?_
  refine JL_val _ (Ev_move rfl) rfl ?_
  refine JL_val _ (Ev_nilCheck rfl) rfl ?_
  refine JL_val (Ptr wb 1) (Ev_fieldAddr 1 22 1 Tryd.underlying138 rfl Tryd.sizeOf22 rfl rfl) rfl ?_
  refine JL_val (.slice (some ⟨gb, 0, none⟩) n cap0) (Ev_load rfl (Ld_one Tryd.isAgg22 (MemAt.seg (hw.mem (by simp)) (Seg.tail (Seg.head)) (by omega)))) rfl ?_
  refine JL_step (Step_callN 84 [.slice (some ⟨gb, 0, none⟩) n cap0] _ (Cl_func [.slice (some ⟨gb, 0, none⟩) n cap0] Tryd.call84 rfl) (fun w1 hw1 => sclone_c (some ⟨gb, 0, none⟩) n cap0 o w1 rfl ho (by omega) (hr.at (M' := []) hw1 (by simp)))) rfl ?_
  rintro v1 L1 ⟨_, ⟨nb1, sp1, cp1, rfl, rfl, hc1, hc2, hc3⟩, rfl⟩
  show JL _ _ _ _ ((24, Slc nb1 0 n cp1) :: _) [⟨nb1, cu8 o ++ sp1, 5, (0, 0)⟩]
  refine JL_val _ (Ev_assign rfl) rfl ?_
  refine JL_val _ (Ev_assign rfl) rfl ?_
  refine JL_nil ?_
  refine JQ_then ?_
  refine JC_ret ?_
  refine JQ_ret (.tuple #[Slc nb1 0 n cp1, .nilIface]) (res2 Tryd.results98 (RV_tmp rfl) (RV_tmp rfl)) fun w1 hw1 => ?_
  exact ⟨_, _, rfl, ⟨nb1, sp1, cp1, rfl, rfl, hc1, hc2, hc3⟩, hw1.sub (by simp) (by simp)⟩

end Go.Proofs.YtncoifiafklkjaaDoor
namespace Go.Proofs.YtncoifiafklkjaaDoor
open Go Go.Sx
set_option linter.unusedVariables false
def putL (e : UInt64) (d t : List UInt8) : List UInt8 := (numK 8 e 8 ++ d) ++ t
theorem putL_len {e : UInt64} {d t : List UInt8} (hd : d.length = 32) (ht : t.length = 16) : (putL e d t).length = 56 := by
  unfold putL; rw [List.length_append, List.length_append, numK_len, hd, ht]
def leafT (i e : UInt64) (d t : List UInt8) : List UInt8 := (numK 1 1 1 ++ numK 4 i 4) ++ putL e d t
theorem leafT_len {i e : UInt64} {d t : List UInt8} (hd : d.length = 32) (ht : t.length = 16) : (leafT i e d t).length = 61 := by
  unfold leafT; rw [List.length_append, List.length_append, numK_len, numK_len, putL_len hd ht]
def joinT (h : Nat) (l r : List UInt8) : List UInt8 := ((numK 1 2 1 ++ numK 1 (UInt64.ofNat h) 1) ++ l) ++ r
theorem joinT_len {h : Nat} {l r : List UInt8} (hl : l.length = 32) (hr : r.length = 32) : (joinT h l r).length = 66 := by
  unfold joinT; rw [List.length_append, List.length_append, List.length_append, numK_len, numK_len, hl, hr]
theorem numK_one (x : UInt64) : numK 1 x 1 = [x.toUInt8] := by
  unfold numK
  simp
theorem u8_of (h : Nat) : (UInt64.ofNat h).toUInt8 = UInt8.ofNat h := by
  apply UInt8.toNat_inj.1
  rw [UInt64.toNat_toUInt8, UInt64.toNat_ofNat', UInt8.toNat_ofNat']
  omega
theorem joinT_ref (h : Nat) (l r : List UInt8) : joinT h l r = ([2, UInt8.ofNat h] ++ l) ++ r := by
  unfold joinT; rw [numK_one, numK_one, u8_of]; rfl
def empL : Nat → List UInt8
  | 0 => sumG constL initL [0]
  | h + 1 => sumG constL initL (joinT (h + 1) (empL h) (empL h))
theorem empL_len : ∀ h, (empL h).length = 32
  | 0 => sumG_len _ _ _
  | h + 1 => sumG_len _ _ _
def empA : Nat → List UInt8
  | 0 => spl (zr8 1056) 0 (empL 0)
  | j + 1 => spl (empA j) (32 * j + 32) (empL (j + 1))
theorem empA_len : ∀ j, j ≤ 32 → (empA j).length = 1056
  | 0, _ => by
    unfold empA; rw [spl_len]
    · exact zr8_len 1056
    · rw [empL_len, zr8_len]; omega
  | j + 1, h => by
    have ih := empA_len j (by omega)
    unfold empA; rw [spl_len]
    · exact ih
    · rw [empL_len, ih]; omega
theorem mid_spl {l v : List UInt8} {o i n : Nat} (h : o + v.length ≤ l.length) (hi : i + n ≤ o ∨ o + v.length ≤ i) : mid (spl l o v) i n = mid l i n := by
  apply List.ext_getElem?
  intro j
  unfold mid
  rw [List.getElem?_take, List.getElem?_take]
  by_cases hj : j < n
  · rw [if_pos hj, if_pos hj, List.getElem?_drop, List.getElem?_drop, spl_get h, if_neg (by omega)]
  · rw [if_neg hj, if_neg hj]
theorem mid_spl_same {l v : List UInt8} {o n : Nat} (h : o + v.length ≤ l.length) (hn : v.length = n) : mid (spl l o v) o n = v := by
  apply List.ext_getElem?
  intro j
  unfold mid
  rw [List.getElem?_take]
  by_cases hj : j < n
  · rw [if_pos hj, List.getElem?_drop, spl_get h, if_pos (by omega)]
    congr 1; omega
  · rw [if_neg hj, List.getElem?_eq_none (by omega)]
theorem empA_get : ∀ j, j ≤ 32 → ∀ i, i ≤ j → mid (empA j) (32 * i) 32 = empL i
  | 0, _, i, hi => by
    obtain rfl : i = 0 := by omega
    unfold empA
    exact mid_spl_same (by rw [empL_len, zr8_len]; omega) (empL_len 0)
  | j + 1, h, i, hi => by
    have hl := empA_len j (by omega)
    unfold empA
    by_cases he : i = j + 1
    · subst he
      rw [show 32 * (j + 1) = 32 * j + 32 by omega]
      exact mid_spl_same (by rw [empL_len, hl]; omega) (empL_len _)
    · rw [mid_spl (by rw [empL_len, hl]; omega) (by left; omega)]
      exact empA_get j (by omega) i (by omega)
theorem empA_zero : empA 0 = spl (zr8 1056) 0 (sumG constL initL [0]) := rfl
theorem empA_step {q : Nat} (h : q ≤ 32) : spl (empA q) (32 * q + 32) (sumG constL initL (joinT (q + 1) (mid (empA q) (32 * q) 32) (mid (empA q) (32 * q) 32))) = empA (q + 1) := by
  rw [empA_get q h q (Nat.le_refl q)]; rfl
def kindN (z : List UInt8) : Nat :=
  if z.length = 1 ∧ (g8 z 0).toNat = 0 then 1 else if z.length = 61 ∧ (g8 z 0).toNat = 1 then 2 else if z.length = 66 ∧ (g8 z 0).toNat = 2 ∧ 1 ≤ (g8 z 1).toNat ∧ (g8 z 1).toNat ≤ 32 then 3 else 0
theorem kind_leaf {i e : UInt64} {d t : List UInt8} (hd : d.length = 32) (ht : t.length = 16) : kindN (leafT i e d t) = 2 := by
  have h0 : g8 (leafT i e d t) 0 = 1 := by
    unfold leafT
    rw [numK_one]
    rfl
  unfold kindN
  rw [leafT_len hd ht, h0, if_neg (by omega), if_pos ⟨rfl, rfl⟩]
theorem kind_join {h : Nat} {l r : List UInt8} (hl : l.length = 32) (hr : r.length = 32) (h1 : 1 ≤ h) (h2 : h ≤ 32) : kindN (joinT h l r) = 3 := by
  have h0 : g8 (joinT h l r) 0 = 2 := by
    rw [joinT_ref]; rfl
  have h3 : (g8 (joinT h l r) 1).toNat = h := by
    rw [joinT_ref]
    show (UInt8.ofNat h).toNat = h
    rw [UInt8.toNat_ofNat']; omega
  unfold kindN
  rw [joinT_len hl hr, h0, h3, if_neg (by omega), if_neg (by omega), if_pos ⟨rfl, rfl, h1, h2⟩]
theorem shr4n {i : UInt64} (h : (4294967295:UInt64) < i) : i >>> UInt64.ofNat (8*4) ≠ 0 := by
  intro h0
  have h1 := congrArg UInt64.toNat h0
  rw [shr_divK _ 4 (by omega)] at h1
  have h2 := UInt64.lt_iff_toNat_lt.1 h
  have h3 : (4294967295:UInt64).toNat = 4294967295 := rfl
  have h4 : (0:UInt64).toNat = 0 := rfl
  rw [h3] at h2; rw [h4] at h1
  omega
theorem shr4z {i : UInt64} (h : ¬ (4294967295:UInt64) < i) : 4 < 8 → i >>> UInt64.ofNat (8*4) = 0 := fun _ => by
  apply UInt64.toNat_inj.1
  rw [shr_divK _ 4 (by omega)]
  have h2 := Nat.le_of_not_lt fun q => h (UInt64.lt_iff_toNat_lt.2 q)
  have h3 : (4294967295:UInt64).toNat = 4294967295 := rfl
  have h4 : (0:UInt64).toNat = 0 := rfl
  rw [h3] at h2; rw [h4]
  omega
theorem lt4 {i : UInt64} (h : ¬ (4294967295:UInt64) < i) : i.toNat / 256 ^ 4 = 0 := by
  have h2 := Nat.le_of_not_lt fun q => h (UInt64.lt_iff_toNat_lt.2 q)
  have h3 : (4294967295:UInt64).toNat = 4294967295 := rfl
  rw [h3] at h2
  omega
theorem numK_inj {k : Nat} {x y : UInt64} (hk : k ≤ 8) (hx : x.toNat / 256 ^ k = 0) (hy : y.toNat / 256 ^ k = 0) (h : numK k x k = numK k y k) : x = y := by
  rw [← valK_back k x hk hx, ← valK_back k y hk hy, h]
theorem numK8_inj {x y : UInt64} (h : numK 8 x 8 = numK 8 y 8) : x = y :=
  numK_inj (by omega) (Nat.div_eq_of_lt x.toNat_lt) (Nat.div_eq_of_lt y.toNat_lt) h
theorem putL_inj {e e' : UInt64} {d d' t t' : List UInt8} (hd : d.length = 32) (hd' : d'.length = 32) (h : putL e d t = putL e' d' t') : e = e' ∧ d = d' ∧ t = t' := by
  unfold putL at h
  obtain ⟨h1, h2⟩ := List.append_inj h (by rw [List.length_append, List.length_append, numK_len, numK_len, hd, hd'])
  obtain ⟨h3, h4⟩ := List.append_inj h1 (by rw [numK_len, numK_len])
  exact ⟨numK8_inj h3, h4, h2⟩
theorem leafT_inj {i j e e' : UInt64} {d d' t t' : List UInt8} (hi : ¬ (4294967295:UInt64) < i) (hj : ¬ (4294967295:UInt64) < j) (hd : d.length = 32) (hd' : d'.length = 32) (h : leafT i e d t = leafT j e' d' t') : i = j ∧ e = e' ∧ d = d' ∧ t = t' := by
  unfold leafT at h
  obtain ⟨h1, h2⟩ := List.append_inj h (by rw [List.length_append, List.length_append, numK_len, numK_len, numK_len])
  obtain ⟨h3, h4⟩ := List.append_inj h1 rfl
  exact ⟨numK_inj (by omega) (lt4 hi) (lt4 hj) h4, putL_inj hd hd' h2⟩
theorem leafT_same {i e e' : UInt64} {d d' t t' : List UInt8} (hi : ¬ (4294967295:UInt64) < i) (hd : d.length = 32) (hd' : d'.length = 32) : decide (leafT i e d t = leafT i e' d' t') = decide (e = e' ∧ d = d' ∧ t = t') :=
  decide_eq_decide.2 ⟨fun h => (leafT_inj hi hi hd hd' h).2, fun h => by rw [h.1, h.2.1, h.2.2]⟩
theorem joinT_inj {a b : Nat} {l l' r r' : List UInt8} (ha : a ≤ 32) (hb : b ≤ 32) (hl : l.length = 32) (hl' : l'.length = 32) (h : joinT a l r = joinT b l' r') : a = b ∧ l = l' ∧ r = r' := by
  rw [joinT_ref, joinT_ref] at h
  obtain ⟨h1, h2⟩ := List.append_inj h (by rw [List.length_append, List.length_append, hl, hl']; rfl)
  obtain ⟨h3, h4⟩ := List.append_inj h1 rfl
  have h5 : UInt8.ofNat a = UInt8.ofNat b := by simpa using h3
  have h6 := congrArg UInt8.toNat h5
  rw [UInt8.toNat_ofNat', UInt8.toNat_ofNat'] at h6
  exact ⟨by omega, h4, h2⟩
theorem joinT_same {a : Nat} {l r : List UInt8} (ha : a ≤ 32) (hl : l.length = 32) (hr : r.length = 32) : decide (joinT a l r = joinT a r l) = decide (l = r) :=
  decide_eq_decide.2 ⟨fun h => (joinT_inj ha ha hl hr h).2.1, fun h => by rw [h]⟩
theorem leaf_join {i e : UInt64} {d t l r : List UInt8} {h : Nat} (hd : d.length = 32) (ht : t.length = 16) (hl : l.length = 32) (hr : r.length = 32) : leafT i e d t ≠ joinT h l r := fun q => by
  have := congrArg List.length q
  rw [leafT_len hd ht, joinT_len hl hr] at this
  omega
theorem alive8 : g8 (empL 0) 0 = 110 ∧ g8 (empL 0) 1 = 52 ∧ g8 (empL 0) 2 = 11 ∧ g8 (empL 0) 3 = 156 := by decide +kernel
theorem shr8 {p : Nat} (h : p ≤ 255) : UInt64.ofNat p >>> UInt64.ofNat (8*1) = 0 := by
  apply UInt64.toNat_inj.1
  rw [shr_divK _ 1 (by omega), UInt64.toNat_ofNat']
  show p % 2 ^ 64 / 256 ^ 1 = 0
  omega
end Go.Proofs.YtncoifiafklkjaaDoor
namespace Go.Sx
open Go Go.RowKit
open Go.ChangeShapes Go.WideShapes
set_option linter.unusedVariables false
set_option linter.unusedSimpArgs false
section
variable {H : Type} {enc : TypeId × Value → H} {P : Program} {w : World} {base : Nat} {spare : Nat → Bool} {held : Bool} {sz : Bool}
def TD (enc : TypeId × Value → H) (P : Program) (w : World) (base : Nat) (spare : Nat → Bool) (held sz : Bool) (t : TypeId) (cs : List Value) : Prop :=
  ∃ fuel d ps, DataW.trod enc P w base spare held fuel t cs = some (d, ps) ∧ (sz = true → (d.weights P t).all (· ≤ reachBytes) = true)
theorem TD.of {t : TypeId} {v : Value} {d : DataW H} {ps : List MemPlace} (h : DataW.Trod enc P w base spare held t v d ps) (hw : sz = true → (d.weights P t).all (· ≤ reachBytes) = true) : TD enc P w base spare held sz t v.cells.toList := by
  obtain ⟨fuel, hf⟩ := h
  exact ⟨fuel, d, ps, hf, hw⟩
theorem TD.ofN {t : TypeId} {v : Value} {d : DataW H} {ps : List MemPlace} (h : DataW.Trod enc P w base spare held t v d ps) : TD enc P w base spare held false t v.cells.toList := TD.of h (fun h => by cases h)
theorem wEach_get {p : Nat → Bool} : ∀ (ts : List TypeId) (ds : List (DataW H)), (DataW.weightsEach P ts ds).all p = true → ∀ (i : Nat) (t : TypeId) (d : DataW H), ts[i]? = some t → ds[i]? = some d → (d.weights P t).all p = true
  | [], _, _, i, t, d, h, _ => by simp at h
  | t0 :: ts, [], _, i, t, d, _, h => by simp at h
  | t0 :: ts, d0 :: ds, h, i, t, d, ht, hd => by
    rw [DataW.weightsEach, List.all_append, Bool.and_eq_true] at h
    cases i with
    | zero => simp at ht hd; subst ht; subst hd; exact h.1
    | succ i => exact wEach_get ts ds h.2 i t d (by simpa using ht) (by simpa using hd)
theorem wAll_get {p : Nat → Bool} {e : TypeId} : ∀ (ds : List (DataW H)), (DataW.weightsAll P e ds).all p = true → ∀ (i : Nat) (d : DataW H), ds[i]? = some d → (d.weights P e).all p = true
  | [], _, i, d, h => by simp at h
  | d0 :: ds, h, i, d, hd => by
    rw [DataW.weightsAll, List.all_append, Bool.and_eq_true] at h
    cases i with
    | zero => simp at hd; subst hd; exact h.1
    | succ i => exact wAll_get ds h.2 i d (by simpa using hd)
variable {t : TypeId} {cs : List Value}
theorem TD.alen {n e : Nat} (ht : P.underlying t = some (.array n e)) (h : TD enc P w base spare held sz t cs) : cs.length = P.cellsOf t := by
  obtain ⟨fuel, d, ps, h, hw⟩ := h
  obtain ⟨xs, m, _, hx, hl, hlen, hf⟩ := DataW.trod_array ht h
  exact hl
theorem TD.field {fs : Array Field} (i o ft s : Nat) (ht : P.underlying t = some (.struct fs)) (hi : (fs[i]?).map (fun f => (f.offset, f.type)) = some (o, ft)) (hs : P.cellsOf ft = s) (h : TD enc P w base spare held sz t cs) :
    TD enc P w base spare held sz ft ((cs.drop o).take s) := by
  obtain ⟨fuel, d, ps, h, hw⟩ := h
  obtain ⟨xs, n, _, hx, hl, hlen, hf⟩ := DataW.trod_struct ht h
  obtain ⟨f, hfi, hfo⟩ := Option.map_eq_some_iff.1 hi
  simp only [Prod.mk.injEq] at hfo
  obtain ⟨rfl, rfl⟩ := hfo
  subst hs
  have hlt : i < xs.length := by rw [hlen]; exact (Array.getElem?_eq_some_iff.1 hfi).1
  have hk := hf i f hfi
  rw [List.getElem?_eq_getElem hlt] at hk
  refine ⟨n, _, _, hk, fun hz => ?_⟩
  have hw := hw hz
  simp only [Prod.mk.injEq] at hx
  rw [hx.1, DataW.weights, ht] at hw
  exact wEach_get _ _ hw i f.type _ (by simp [hfi]) (by simp [hlt])
theorem TD.elem {n e : Nat} (i o s : Nat) (ht : P.underlying t = some (.array n e)) (hi : i < n) (hs : P.cellsOf e = s) (ho : o = i * s) (h : TD enc P w base spare held sz t cs) :
    TD enc P w base spare held sz e ((cs.drop o).take s) := by
  obtain ⟨fuel, d, ps, h, hw⟩ := h
  obtain ⟨xs, m, _, hx, hl, hlen, hf⟩ := DataW.trod_array ht h
  subst ho; subst hs
  have hlt : i < xs.length := by rw [hlen]; exact hi
  have hk := hf i hi
  rw [List.getElem?_eq_getElem hlt] at hk
  refine ⟨m, _, _, hk, fun hz => ?_⟩
  have hw := hw hz
  simp only [Prod.mk.injEq] at hx
  rw [hx.1, DataW.weights, ht] at hw
  exact wAll_get _ hw i _ (by simp [hlt])
theorem TD.u8 (ht : P.underlying t = some (.int .u8)) (h : TD enc P w base spare held sz t cs) : ∃ a : UInt8, cs = [U8 a] := by
  obtain ⟨fuel, d, ps, h, hw⟩ := h
  obtain ⟨n, rfl, _, hn⟩ := DataW.trod_int ht h
  obtain ⟨u, rfl⟩ := wf_u8 hn
  exact ⟨u, rfl⟩
theorem TD.u32 (ht : P.underlying t = some (.int .u32)) (h : TD enc P w base spare held sz t cs) : ∃ a : UInt32, cs = [U32 a] := by
  obtain ⟨fuel, d, ps, h, hw⟩ := h
  obtain ⟨n, rfl, _, hn⟩ := DataW.trod_int ht h
  obtain ⟨u, rfl⟩ := wf_u32 hn
  exact ⟨u, rfl⟩
theorem TD.u64 (ht : P.underlying t = some (.int .u64)) (h : TD enc P w base spare held sz t cs) : ∃ a : UInt64, cs = [U64 a] := by
  obtain ⟨fuel, d, ps, h, hw⟩ := h
  obtain ⟨n, rfl, _, hn⟩ := DataW.trod_int ht h
  obtain ⟨u, rfl⟩ := wf_u64 hn
  exact ⟨u, rfl⟩
theorem TD.i64 (ht : P.underlying t = some (.int .i64)) (h : TD enc P w base spare held sz t cs) : ∃ a : Int, cs = [I64 a] ∧ (-9223372036854775808 ≤ a ∧ a ≤ 9223372036854775807) := by
  obtain ⟨fuel, d, ps, h, hw⟩ := h
  obtain ⟨n, rfl, _, hn⟩ := DataW.trod_int ht h
  exact ⟨n, rfl, bounds_i64 hn⟩
theorem TD.bool (ht : P.underlying t = some .bool) (h : TD enc P w base spare held sz t cs) : ∃ a : Bool, cs = [.bool a] := by
  obtain ⟨fuel, d, ps, h, hw⟩ := h
  obtain ⟨b, rfl, _⟩ := DataW.trod_bool ht h
  exact ⟨b, rfl⟩
theorem TD.arr8 {n e : Nat} (ht : P.underlying t = some (.array n e)) (he : P.underlying e = some (.int .u8)) (hc : P.cellsOf e = 1) (hT : P.cellsOf t = n) (h : TD enc P w base spare held sz t cs) : ∃ l : List UInt8, cs = cu8 l ∧ l.length = n := by
  have hl := TD.alen ht h
  obtain ⟨l, rfl⟩ := all_u8 cs (fun i hi => by
    obtain ⟨u, hu⟩ := TD.u8 he (TD.elem i i 1 ht (by omega) hc (by omega) h)
    refine ⟨u, ?_⟩
    have h0 : ((cs.drop i).take 1)[0]? = some (U8 u) := by rw [hu]; rfl
    rw [List.getElem?_take, if_pos (by omega), List.getElem?_drop] at h0
    simpa using h0)
  exact ⟨l, rfl, by rw [← hT, ← hl]; simp⟩
theorem cat0 {a : List Value} {s : Nat} (h : (cs.drop 0).take s = a) : cs.take s = a := h
theorem cat_step {a b : List Value} {o s o' : Nat} (h : cs.take o = a) (h1 : (cs.drop o).take s = b) (ho : o' = o + s) : cs.take o' = a ++ b := by
  subst ho; rw [List.take_add, h, h1]
theorem cat_end {a : List Value} {o : Nat} (h : cs.take o = a) (hl : cs.length = o) : cs = a := by
  rw [← h, ← hl, List.take_length]
theorem agg_ofA {v : Value} {cs : List Value} {r : Reach} {b0 n e : Nat} (ht : P.underlying t = some (.array n e)) (hval : Value.okWide P w r b0 t v) (h : v.cells.toList = cs) : v = .agg cs.toArray := by
  simp only [Value.okWide, ht] at hval
  obtain ⟨xs, rfl, _⟩ := hval
  have : (Value.agg xs).cells = xs := rfl
  rw [this] at h
  rw [← h]
end
end Go.Sx
namespace Go.Sx
open Go Go.RowKit
set_option linter.unusedVariables false
set_option linter.unusedSimpArgs false
theorem foldl_lay (off : Nat) : ∀ (c : List Value) (k : Nat) (pre z post : List Value), z.length = c.length → pre.length = off + k →
    (c.zipIdx k).foldl (fun (cs : Array Value) (x : Value × Nat) => cs.setIfInBounds (off + x.2) x.1) (pre ++ (z ++ post)).toArray = ((pre ++ c) ++ post).toArray
  | [], k, pre, z, post, hz, _ => by
    have : z = [] := by simpa using hz
    subst this; simp
  | x :: c, k, pre, [], post, hz, _ => by simp at hz
  | x :: c, k, pre, y :: z, post, hz, hp => by
    rw [List.zipIdx_cons, List.foldl_cons]
    have e : (pre ++ (y :: z ++ post)).toArray.setIfInBounds (off + k) x = ((pre ++ [x]) ++ (z ++ post)).toArray := by
      rw [← hp]
      apply Array.toList_inj.1
      simp
    show (c.zipIdx (k + 1)).foldl _ ((pre ++ (y :: z ++ post)).toArray.setIfInBounds (off + k) x) = _
    rw [e, foldl_lay off c (k + 1) (pre ++ [x]) z post (by simpa using hz) (by simp; omega)]
    simp
theorem fill_step {place : Nat → Option (Nat × Nat)} {i : Nat} {v : Value} {rest : List (Nat × Value)} (pre z post c : List Value) (hc : v.cells = c.toArray) (hp : place i = some (pre.length, z.length)) (hl : c.length = z.length) :
    Instr.fill place (pre ++ (z ++ post)).toArray ((i, v) :: rest) = Instr.fill place ((pre ++ c) ++ post).toArray rest := by
  rw [Instr.fill, hp]
  have h1 : v.cells.size = z.length := by rw [hc]; simpa using hl
  have h2 : ¬ (pre.length + v.cells.size > (pre ++ (z ++ post)).toArray.size) := by rw [h1]; simp
  simp only [h1, ne_eq, not_true, decide_false, Bool.false_or, decide_eq_true_eq]
  rw [if_neg (by rw [h1] at h2; exact h2)]
  have := foldl_lay pre.length c 0 pre z post hl.symm (by simp)
  rw [← this, hc]
  congr 1
  rw [← Array.foldl_toList]
  simp
end Go.Sx
namespace Go.Sx
open Go Go.RowKit
set_option linter.unusedVariables false
set_option linter.unusedSimpArgs false
section
variable {P : Program}
def PartV (P : Program) (t : TypeId) (cs : List Value) (off : Nat) (u : Value) : Prop := ∀ w, (part t cs.toArray off).run P w = .ok u w
theorem PartV.one {t : TypeId} {cs : List Value} {off : Nat} {v : Value} (hA : ∀ w, (isAgg t).run P w = .ok false w) (h : Seg cs off [v]) : PartV P t cs off v := fun w => by
  have h0 : cs[off]? = some v := by simpa using h 0 v rfl
  simp [part, hA w, h0]
theorem PartV.agg {t : TypeId} {cs vs : List Value} {off n : Nat} (hA : ∀ w, (isAgg t).run P w = .ok true w) (hS : ∀ w, (sizeOf t).run P w = .ok n w) (h : (cs.drop off).take n = vs) : PartV P t cs off (.agg vs.toArray) := fun w => by
  simp [part, hA w, hS w, ← h]
def EqV (P : Program) (d : Nat) (t : TypeId) (u v : Value) (b : Bool) : Prop := ∀ w, (Op.equalIn d t u v).run P w = .ok b w
theorem EqV.u64 {d : Nat} {t : TypeId} (he : P.underlying t = some (.int .u64)) (a b : UInt64) : EqV P (d + 1) t (U64 a) (U64 b) (decide (a = b)) := fun w => by
  have pe := run_equalIn_int (P := P) w d t .u64 .u64 a.toNat b.toNat he
  have e1 : ((a.toNat : Int) == (b.toNat : Int)) = decide (a = b) := by rw [Bool.eq_iff_iff]; simp [← UInt64.toNat_inj]; omega
  rw [e1] at pe
  simpa using pe
theorem EqV.u8 {d : Nat} {t : TypeId} (he : P.underlying t = some (.int .u8)) (a b : UInt8) : EqV P (d + 1) t (U8 a) (U8 b) (decide (a = b)) := fun w => by
  have pe := run_equalIn_int (P := P) w d t .u8 .u8 a.toNat b.toNat he
  have e1 : ((a.toNat : Int) == (b.toNat : Int)) = decide (a = b) := by rw [Bool.eq_iff_iff]; simp [← UInt8.toNat_inj]; omega
  rw [e1] at pe
  simpa using pe
theorem EqV.i64 {d : Nat} {t : TypeId} (he : P.underlying t = some (.int .i64)) (a b : Int) : EqV P (d + 1) t (I64 a) (I64 b) (decide (a = b)) := fun w => by
  have pe := run_equalIn_int (P := P) w d t .i64 .i64 a b he
  have e1 : (a == b) = decide (a = b) := rfl
  rw [e1] at pe
  simpa using pe
theorem EqV.bool {d : Nat} {t : TypeId} (he : P.underlying t = some .bool) (a b : Bool) : EqV P (d + 1) t (.bool a) (.bool b) (a == b) := fun w => by
  simp [Op.equalIn, run_underlying he]
theorem EqV.arr8 {d : Nat} {T e : TypeId} {n : Nat} (hu : P.underlying T = some (.array n e)) (he : P.underlying e = some (.int .u8)) (hA : ∀ w, (isAgg e).run P w = .ok false w) (hc : P.cellsOf e = 1) (hi : (P.info? e).isSome = true) {a b : List UInt8} (ha : a.length = n) (hb : b.length = n) :
    EqV P (d + 2) T (.agg (cu8 a).toArray) (.agg (cu8 b).toArray) (decide (a = b)) := fun w => equalIn_arr8 d hu he hA hc hi ha hb
inductive EqRs (P : Program) (d : Nat) (xs ys : List Value) : List (TypeId × Nat) → Bool → Prop
  | last (t o : Nat) (u v : Value) (b : Bool) : PartV P t xs o u → PartV P t ys o v → EqV P d t u v b → EqRs P d xs ys [(t, o)] b
  | cons (t o : Nat) (u v : Value) (b : Bool) (r : List (TypeId × Nat)) (c : Bool) : PartV P t xs o u → PartV P t ys o v → EqV P d t u v b → EqRs P d xs ys r c → EqRs P d xs ys ((t, o) :: r) (b && c)
theorem EqRs.run {d : Nat} {xs ys : List Value} {r : List (TypeId × Nat)} {b : Bool} (h : EqRs P d xs ys r b) : ∀ (fs : List Field), fs.map (fun f => (decide (f.name ≠ "_"), f.type, f.offset)) = r.map (fun x => (true, x.1, x.2)) →
    ∀ w, (Op.eqFields d xs.toArray ys.toArray fs).run P w = .ok b w := by
  induction h with
  | last t o u v b hx hy he =>
    intro fs hf w
    obtain ⟨f, rfl⟩ : ∃ f, fs = [f] := by
      cases fs with
      | nil => simp at hf
      | cons f r => cases r with
        | nil => exact ⟨f, rfl⟩
        | cons g r => simp at hf
    · simp only [List.map_cons, List.map_nil, List.cons.injEq, Prod.mk.injEq, and_true, decide_eq_true_eq] at hf
      obtain ⟨h1, h2, h3⟩ := hf
      rw [Op.eqFields, if_pos h1, h2, h3]
      simp only [Sem.run_bind, hx w, hy w, he w, Result.andThen_ok, Op.eqFields]
      cases b <;> simp
  | cons t o u v b r c hx hy he hr ih =>
    intro fs hf w
    cases fs with
    | nil => simp at hf
    | cons f fs =>
      simp only [List.map_cons, List.cons.injEq, Prod.mk.injEq, decide_eq_true_eq] at hf
      obtain ⟨⟨h1, h2, h3⟩, h4⟩ := hf
      rw [Op.eqFields, if_pos h1, h2, h3]
      simp only [Sem.run_bind, hx w, hy w, he w, Result.andThen_ok]
      cases b with
      | false => simp
      | true => simpa using ih fs h4 w
theorem EqV.struct {d : Nat} {t : TypeId} {xs ys : List Value} {r : List (TypeId × Nat)} {b : Bool} (hu : P.underlying t = some (.struct (P.fieldsOf t))) (hp : P.stoodInHeld t = false)
    (hr : (P.fieldsOf t).toList.map (fun f => (decide (f.name ≠ "_"), f.type, f.offset)) = r.map (fun x => (true, x.1, x.2))) (h : EqRs P d xs ys r b) : EqV P (d + 1) t (.agg xs.toArray) (.agg ys.toArray) b := fun w => by
  rw [run_equalIn_struct w d t _ _ hu hp]
  exact h.run _ hr w
theorem eql_struct {t : TypeId} {x y : Array Value} {b : Bool} (p : Prop) [Decidable p] (h : EqV P 10000 t (.agg x) (.agg y) b) (hb : b = decide p) : ∀ w, (binOp .eql t (.agg x) (.agg y)).run P w = .ok (.bool (decide p)) w := fun w => by
  subst hb
  exact eql_of (by simp [binOp]) (h w)
theorem dt_dt {cs : List Value} {a n b m o : Nat} (hb : b + m ≤ n) (ho : o = a + b) : ((((cs.drop a).take n).drop b).take m) = (cs.drop o).take m := by
  subst ho
  rw [List.drop_take, List.take_take, List.drop_drop, Nat.min_eq_left (by omega)]
theorem TD.sub {H : Type} {enc : TypeId × Value → H} {w : World} {base : Nat} {spare : Nat → Bool} {held sz : Bool} {t : TypeId} {cs : List Value} {a n b m o : Nat} (h : TD enc P w base spare held sz t ((((cs.drop a).take n).drop b).take m)) (hb : b + m ≤ n) (ho : o = a + b) :
    TD enc P w base spare held sz t ((cs.drop o).take m) := by rw [← dt_dt hb ho]; exact h
theorem Seg.split {cs p q vs : List Value} {off : Nat} (h : cs = p ++ (vs ++ q)) (hn : p.length = off) : Seg cs off vs := Seg.sub (p := p) (q := q) (o := 0) hn (by omega) (by rw [h, List.append_assoc]; exact Seg.whole _)
theorem run_build_array {w : World} {T e n s : Nat} {z : Value} {pv : Array (Nat × Value)} {cs : List Value} (hz : ∀ w, (zeroValue T).run P w = .ok z w) (hu : P.underlying T = some (.array n e)) (hS : ∀ w, (sizeOf e).run P w = .ok s w)
    (hf : Instr.fill (fun i => some (i * s, s)) z.cells pv.toList = some cs.toArray) : (Instr.build T pv).run P w = .ok (.agg cs.toArray) w := by
  simp only [Instr.build, Sem.run_bind, hz, Result.andThen_ok, run_underlying hu, hS, hf, Sem.run_pure]
theorem fill_first {s n : Nat} {l : List UInt8} (hl : l.length = s) (hn : s ≤ n) : Instr.fill (fun i => some (i * s, s)) (cu8 (zr8 n)).toArray [(0, .agg (cu8 l).toArray)] = some (cu8 (spl (zr8 n) 0 l)).toArray := by
  have e : zr8 n = zr8 s ++ zr8 (n - s) := by
    unfold zr8; rw [List.replicate_append_replicate]; congr 1; omega
  have h := fill_step (place := fun i => some (i * s, s)) (i := 0) (v := .agg (cu8 l).toArray) (rest := []) [] (cu8 (zr8 s)) (cu8 (zr8 (n - s))) (cu8 l) rfl (by simp [cu8, zr8]) (by simp [cu8, zr8, hl])
  have h2 : spl (zr8 n) 0 l = l ++ zr8 (n - s) := by
    unfold spl; rw [hl, e]; simp [zr8]
  rw [h2, cu8_app, e, cu8_app]
  exact h
end
section
variable {C : Cx} {F : Frm} {L : List Ent}
end
end Go.Sx
namespace Go.Proofs.YtncoifiafklkjaaDoor
open Go Go.Sx
set_option linter.unusedVariables false
set_option linter.unusedSimpArgs false
set_option maxRecDepth 100000
attribute [local irreducible] mid zr8 zr32 numK valK rotr wordL spreadL comprL cpN adN spN constL initL padL stN outN sumG putL leafT joinT empL empA kindN
theorem put7_c (e : UInt64) (d t : List UInt8) (w : World) (hd : d.length = 32) (ht : t.length = 16) : Calls Tryd.prog 67 #[.agg (List.toArray (α := Value) ([U64 e] ++ cu8 d ++ cu8 t))] w (Post w [] (fun v L => ∃ g sp cap, v = Slc g 0 56 cap ∧ L = [⟨g, cu8 (putL e d t) ++ sp, 5, (0, 0)⟩] ∧ sp.length = cap - 56 ∧ 56 ≤ cap ∧ cap ≤ maxLen)) := by
  have hmx : maxLen = 9223372036854775807 := rfl
  refine enter (P := Tryd.prog) (f := 67) (fn := Tryd.f67) w [] 25 [] [.agg (List.toArray (α := Value) ([U64 e] ++ cu8 d ++ cu8 t))] Tryd.func67 rfl rfl (by simp) (Hp.start (by simp) (by simp) (by simp)) ?_
  show JC _ _ _ [(0, .agg (List.toArray (α := Value) ([U64 e] ++ cu8 d ++ cu8 t)))] _
  refine JC_seq ?_
  refine JC_region ?_
  refine JL_step (Step_box (.agg (List.toArray (α := Value) ([U64 e] ++ cu8 d ++ cu8 t))) ([U64 e] ++ cu8 d ++ cu8 t) rfl (by first | rfl | simp)) rfl ?_
  rintro v1 L1 ⟨nb1, hnb1, rfl, rfl⟩
  show JL _ _ _ _ ((1, Ptr nb1 0) :: _) [⟨nb1, [U64 e] ++ cu8 d ++ cu8 t, 76, (0, 0)⟩]
  refine JL_val _ (Ev_assign rfl) rfl ?_
  refine JL_nil ?_
  refine JQ_then ?_
  refine JC_seq ?_
  refine JC_region ?_
  refine JL_val (.agg (List.toArray (α := Value) ([.nilIface, .slice none 0 0]))) (Ev_build [] _ rfl (fun _ => by kernel_rfl)) rfl ?_
  refine JL_step (Step_box (.agg (List.toArray (α := Value) ([.nilIface, .slice none 0 0]))) ([.nilIface, .slice none 0 0]) rfl (by first | rfl | simp)) rfl ?_
  rintro v1 L1 ⟨nb2, hnb2, rfl, rfl⟩
  show JL _ _ _ _ ((7, Ptr nb2 0) :: _) [⟨nb1, [U64 e] ++ cu8 d ++ cu8 t, 76, (0, 0)⟩, ⟨nb2, [.nilIface, .slice none 0 0], 138, (0, 0)⟩]
  refine JL_val _ (Ev_assign rfl) rfl ?_
  refine JL_nil ?_
  refine JQ_then ?_
  refine JC_seq ?_
  refine JC_draw 25 5 [(0, Ptr nb2 0), (1, Ptr nb1 0), (2, U64 e), (4, Ptr nb1 1), (5, Slc nb1 1 32 32), (7, Ptr nb1 33), (8, Slc nb1 33 16 16)] Tryd.mixed rfl (by decide +kernel) ?_
  refine DP_one ⟨[], [0, 1, 2, 4, 5, 7, 8], [], [0, 1, 2, 4, 5, 7, 8], [3]⟩ 3 _ rfl rfl (by decide +kernel) rfl ⟨⟨_, rfl, Qok_val rfl (Ev_move rfl)⟩, ⟨_, rfl, Qok_val rfl (Ev_fieldAddr 0 58 1 Tryd.underlying76 rfl Tryd.sizeOf58 rfl rfl)⟩, ⟨_, rfl, Qok_val rfl (Ev_load rfl (Ld_one Tryd.isAgg58 (MemAt.ent 0 rfl (Seg.left (Seg.left (Seg.head))))))⟩, ⟨_, rfl, Qok_val rfl (Ev_fieldAddr 1 74 32 Tryd.underlying76 rfl Tryd.sizeOf74 rfl rfl)⟩, ⟨_, rfl, Qok_val rfl (Ev_sliceA 32 5 1 0 32 1 32 Tryd.underlying74 Tryd.sizeOf5 rfl rfl rfl (by omega) (by omega) (by omega) (by omega) (by omega) 32 (by omega))⟩, ⟨_, rfl, Qok_val rfl (Ev_fieldAddr 33 54 16 Tryd.underlying76 rfl Tryd.sizeOf54 rfl rfl)⟩, ⟨_, rfl, Qok_val rfl (Ev_sliceA 16 5 1 0 16 33 16 Tryd.underlying54 Tryd.sizeOf5 rfl rfl rfl (by omega) (by omega) (by omega) (by omega) (by omega) 16 (by omega))⟩, trivial⟩ rfl (Cok_step rfl (Step_call 97 _ [false, true] [nb2] _ (Cl_func [Ptr nb2 0, U64 e, I64 (8:Int)] Tryd.call97 rfl) rfl (fun w1 hw1 => numN_c nb2 8 .nilIface e 8 w1 (hw1.ent _ (List.mem_of_getElem? (i := 1) rfl)) (by unfold Szd; omega) (fun h => absurd h (by omega)) (by omega)))) ?_
  rintro v1 L1 ⟨_, ⟨rfl, nb3, sp1, cp1, rfl, hc1, hc2, hc3⟩, rfl⟩
  refine ⟨[], ?_⟩
  show DP _ _ _ _ _ _ _ _ [⟨nb1, [U64 e] ++ cu8 d ++ cu8 t, 76, (0, 0)⟩, ⟨nb2, [.nilIface, Slc nb3 0 8 cp1], 138, (0, 0)⟩, ⟨nb3, cu8 (numK 8 e 8) ++ sp1, 5, (0, 0)⟩]
  refine DP_one ⟨[3], [0, 1, 2, 4, 5, 7, 8], [0, 1, 2], [4, 5, 7, 8], [6]⟩ 6 _ rfl rfl (by decide +kernel) rfl ⟨⟨_, rfl, Qok_val rfl (Ev_fieldAddr 1 74 32 Tryd.underlying76 rfl Tryd.sizeOf74 rfl rfl)⟩, ⟨_, rfl, Qok_val rfl (Ev_sliceA 32 5 1 0 32 1 32 Tryd.underlying74 Tryd.sizeOf5 rfl rfl rfl (by omega) (by omega) (by omega) (by omega) (by omega) 32 (by omega))⟩, ⟨_, rfl, Qok_val rfl (Ev_fieldAddr 33 54 16 Tryd.underlying76 rfl Tryd.sizeOf54 rfl rfl)⟩, ⟨_, rfl, Qok_val rfl (Ev_sliceA 16 5 1 0 16 33 16 Tryd.underlying54 Tryd.sizeOf5 rfl rfl rfl (by omega) (by omega) (by omega) (by omega) (by omega) 16 (by omega))⟩, trivial⟩ rfl (Cok_step rfl (Step_call 106 _ [false, true, true] [nb2, nb3] _ (Cl_func [Ptr nb2 0, Slc nb1 1 32 32] Tryd.call106 rfl) rfl (fun w1 hw1 => rawO_c nb2 nb3 8 cp1 40 .nilIface (numK 8 e 8) sp1 (some ⟨nb1, 1, none⟩) 32 32 d w1 (hw1.ent _ (List.mem_of_getElem? (i := 1) rfl)) (hw1.ent _ (List.mem_of_getElem? (i := 2) rfl)) (hw1.ne (i := 1) (j := 2) rfl rfl (by decide)) (show (numK 8 e 8).length = 8 from (numK_len _ _ _)) hc1 hc2 hc3 (by omega) hd (by omega) (RdB.of hw1 (MemAt.ent 0 rfl (Seg.left (Seg.right 1 0 rfl rfl (Seg.whole _)))) (by intro _; simp only [List.mem_cons, List.not_mem_nil, or_false, not_or]; exact ⟨hw1.ne (i := 0) (j := 1) rfl rfl (by decide), hw1.ne (i := 0) (j := 2) rfl rfl (by decide)⟩)) (by omega)))) ?_
  rintro v1 L1 ⟨_, ⟨rfl, nb4, sp2, cp2, rfl, hc4, hc5, hc6⟩, rfl⟩
  refine ⟨[], ?_⟩
  show DP _ _ _ _ _ _ _ _ [⟨nb1, [U64 e] ++ cu8 d ++ cu8 t, 76, (0, 0)⟩, ⟨nb2, [.nilIface, Slc nb4 0 40 cp2], 138, (0, 0)⟩, ⟨nb4, cu8 ((numK 8 e 8) ++ d) ++ sp2, 5, (0, 0)⟩]
  refine DP_one ⟨[3, 6], [0, 1, 2, 4, 5, 7, 8], [0, 1, 2, 4, 5], [7, 8], [9]⟩ 9 _ rfl rfl (by decide +kernel) rfl ⟨⟨_, rfl, Qok_val rfl (Ev_fieldAddr 33 54 16 Tryd.underlying76 rfl Tryd.sizeOf54 rfl rfl)⟩, ⟨_, rfl, Qok_val rfl (Ev_sliceA 16 5 1 0 16 33 16 Tryd.underlying54 Tryd.sizeOf5 rfl rfl rfl (by omega) (by omega) (by omega) (by omega) (by omega) 16 (by omega))⟩, trivial⟩ rfl (Cok_step rfl (Step_call 106 _ [false, true, true] [nb2, nb4] _ (Cl_func [Ptr nb2 0, Slc nb1 33 16 16] Tryd.call106 rfl) rfl (fun w1 hw1 => rawO_c nb2 nb4 40 cp2 56 .nilIface ((numK 8 e 8) ++ d) sp2 (some ⟨nb1, 33, none⟩) 16 16 t w1 (hw1.ent _ (List.mem_of_getElem? (i := 1) rfl)) (hw1.ent _ (List.mem_of_getElem? (i := 2) rfl)) (hw1.ne (i := 1) (j := 2) rfl rfl (by decide)) (show ((numK 8 e 8) ++ d).length = 40 from (by rw [List.length_append, (show (numK 8 e 8).length = 8 from (numK_len _ _ _)), hd] <;> omega)) hc4 hc5 hc6 (by omega) ht (by omega) (RdB.of hw1 (MemAt.ent 0 rfl (Seg.right 33 0 (by simp [hd]) rfl (Seg.whole _))) (by intro _; simp only [List.mem_cons, List.not_mem_nil, or_false, not_or]; exact ⟨hw1.ne (i := 0) (j := 1) rfl rfl (by decide), hw1.ne (i := 0) (j := 2) rfl rfl (by decide)⟩)) (by omega)))) ?_
  rintro v1 L1 ⟨_, ⟨rfl, nb5, sp3, cp3, rfl, hc7, hc8, hc9⟩, rfl⟩
  refine ⟨[], ?_⟩
  show DP _ _ _ _ _ _ _ _ [⟨nb1, [U64 e] ++ cu8 d ++ cu8 t, 76, (0, 0)⟩, ⟨nb2, [.nilIface, Slc nb5 0 56 cp3], 138, (0, 0)⟩, ⟨nb5, cu8 (((numK 8 e 8) ++ d) ++ t) ++ sp3, 5, (0, 0)⟩]
  refine DP_one ⟨[3, 6, 9], [0, 1, 2, 4, 5, 7, 8], [0, 1, 2, 4, 5, 7, 8], [], [10]⟩ 10 _ rfl rfl (by decide +kernel) rfl trivial rfl (Cok_step rfl (Step_callN 98 [Ptr nb2 0] _ (Cl_func [Ptr nb2 0] Tryd.call98 rfl) (fun w1 hw1 => doneO_c nb2 0 nb5 56 cp3 (((numK 8 e 8) ++ d) ++ t) w1 (RdA.of hw1 (MemAt.ent 1 rfl (Seg.whole _)) (by simp)) rfl (show (((numK 8 e 8) ++ d) ++ t).length = 56 from (by rw [List.length_append, (show ((numK 8 e 8) ++ d).length = 40 from (by rw [List.length_append, (show (numK 8 e 8).length = 8 from (numK_len _ _ _)), hd] <;> omega)), ht] <;> omega)) (by omega) (RdB.of hw1 (MemAt.ent 2 rfl (Seg.left (Seg.whole _))) (by simp))))) ?_
  rintro v1 L1 ⟨_, ⟨nb6, sp4, cp4, rfl, rfl, hc10, hc11, hc12⟩, rfl⟩
  refine ⟨[(11, .tuple #[Slc nb6 0 56 cp4, .nilIface]), (12, Slc nb6 0 56 cp4), (13, .nilIface), (14, Slc nb6 0 56 cp4), (15, .nilIface)], ?_⟩
  show DP _ _ _ _ _ _ _ _ [⟨nb1, [U64 e] ++ cu8 d ++ cu8 t, 76, (0, 0)⟩, ⟨nb2, [.nilIface, Slc nb5 0 56 cp3], 138, (0, 0)⟩, ⟨nb5, cu8 (((numK 8 e 8) ++ d) ++ t) ++ sp3, 5, (0, 0)⟩, ⟨nb6, cu8 (((numK 8 e 8) ++ d) ++ t) ++ sp4, 5, (0, 0)⟩]
  refine DP_end ⟨[3, 6, 9, 10], [0, 1, 2, 4, 5, 7, 8, 11, 12, 13, 14, 15], [0, 1, 2, 4, 5, 7, 8], [11, 12, 13, 14, 15], []⟩ rfl rfl (by decide +kernel) rfl ⟨⟨_, rfl, Qok_val rfl (Ev_move rfl)⟩, ⟨_, rfl, Qok_val rfl (Ev_extract rfl rfl)⟩, ⟨_, rfl, Qok_val rfl (Ev_extract rfl rfl)⟩, ⟨_, rfl, Qok_val rfl (Ev_assign rfl)⟩, ⟨_, rfl, Qok_val rfl (Ev_assign rfl)⟩, trivial⟩ ?_
  refine K_sub (F' := [(4, Slc nb6 0 56 cp4), (5, .nilIface), (2, .slice none 0 0)]) (Sub.cons (by kernel_rfl) (Sub.cons (by kernel_rfl) (Sub.cons (by kernel_rfl) (Sub.nil)))) ?_
  show JQ _ _ _ [(4, Slc nb6 0 56 cp4), (5, .nilIface), (2, .slice none 0 0)] _
  refine JQ_then ?_
  refine JC_seq ?_
  refine JC_seq ?_
  refine JC_region ?_
  refine JL_val _ (Ev_move rfl) rfl ?_
  refine JL_val (.bool false) (Ev_bin _ _ _ rfl rfl (fun _ => eqGuard_nn ..) fun _ => neq_if_nil_nil Tryd.underlying39) rfl ?_
  refine JL_nil ?_
  refine JQ_then ?_
  refine JC_condF _ rfl rfl ?_
  refine JC_skip ?_
  refine JQ_then ?_
  refine JC_seq ?_
  refine JC_region ?_
  refine JL_val _ (Ev_move rfl) rfl ?_
  refine JL_val _ (Ev_assign rfl) rfl ?_
  refine JL_nil ?_
  refine JQ_then ?_
  refine JC_ret ?_
  refine K_mask [false, false, false, true] ?_
  show JQ _ _ _ _ [⟨nb6, cu8 (((numK 8 e 8) ++ d) ++ t) ++ sp4, 5, (0, 0)⟩]
  refine JQ_ret (Slc nb6 0 56 cp4) (res1 Tryd.results67 (RV_tmp rfl)) fun w1 hw1 => ?_
  have hq : ((numK 8 e 8) ++ d) ++ t = putL e d t := by rw [putL]
  rw [hq] at hw1
  exact ⟨_, _, rfl, ⟨nb6, sp4, cp4, rfl, rfl, hc10, hc11, hc12⟩, hw1.sub (by simp) (by simp)⟩

theorem leafText_c (i : UInt64) (e : UInt64) (d t : List UInt8)  (w : World) (hd : d.length = 32) (ht : t.length = 16) (hx : 4 < 8 → i >>> UInt64.ofNat (8*4) = 0)  : Calls Tryd.prog 79 #[U64 i, .agg (List.toArray (α := Value) ([U64 e] ++ cu8 d ++ cu8 t))] w (Post w [] (fun v L => ∃ g sp cap, v = .tuple #[Slc g 0 61 cap, .nilIface] ∧ L = [⟨g, cu8 (leafT i e d t) ++ sp, 5, (0, 0)⟩] ∧ sp.length = cap - 61 ∧ 61 ≤ cap ∧ cap ≤ maxLen)) := by
  have hmx : maxLen = 9223372036854775807 := rfl
  refine enter (P := Tryd.prog) (f := 79) (fn := Tryd.f79) w [] 19 [] [U64 i, .agg (List.toArray (α := Value) ([U64 e] ++ cu8 d ++ cu8 t))] Tryd.func79 rfl rfl (by simp) (Hp.start (by simp) (by simp) (by simp)) ?_
  show JC _ _ _ [(0, U64 i), (1, .agg (List.toArray (α := Value) ([U64 e] ++ cu8 d ++ cu8 t)))] _
  refine JC_seq ?_
  refine JC_region ?_
  refine JL_step (Step_box (.agg (List.toArray (α := Value) ([U64 e] ++ cu8 d ++ cu8 t))) ([U64 e] ++ cu8 d ++ cu8 t) rfl (by first | rfl | simp)) rfl ?_
  rintro v1 L1 ⟨nb1, hnb1, rfl, rfl⟩
  show JL _ _ _ _ ((3, Ptr nb1 0) :: _) [⟨nb1, [U64 e] ++ cu8 d ++ cu8 t, 76, (0, 0)⟩]
  refine JL_val _ (Ev_assign rfl) rfl ?_
  refine JL_val _ (Ev_assign rfl) rfl ?_
  refine JL_nil ?_
  refine JQ_then ?_
  refine JC_seq ?_
  refine JC_region ?_
  refine JL_val (.agg (List.toArray (α := Value) ([.nilIface, .slice none 0 0]))) (Ev_build [] _ rfl (fun _ => by kernel_rfl)) rfl ?_
  refine JL_step (Step_box (.agg (List.toArray (α := Value) ([.nilIface, .slice none 0 0]))) ([.nilIface, .slice none 0 0]) rfl (by first | rfl | simp)) rfl ?_
  rintro v1 L1 ⟨nb2, hnb2, rfl, rfl⟩
  show JL _ _ _ _ ((8, Ptr nb2 0) :: _) [⟨nb1, [U64 e] ++ cu8 d ++ cu8 t, 76, (0, 0)⟩, ⟨nb2, [.nilIface, .slice none 0 0], 138, (0, 0)⟩]
  refine JL_val _ (Ev_assign rfl) rfl ?_
  refine JL_nil ?_
  refine JQ_then ?_
  refine JC_seq ?_
  refine JC_draw 19 6 [(0, Ptr nb2 0), (2, U64 i), (4, .agg (List.toArray (α := Value) ([U64 e] ++ cu8 d ++ cu8 t)))] Tryd.mixed rfl (by decide +kernel) ?_
  refine DP_one ⟨[], [0, 2, 4], [], [0, 2, 4], [1]⟩ 1 _ rfl rfl (by decide +kernel) rfl ⟨⟨_, rfl, Qok_val rfl (Ev_move rfl)⟩, ⟨_, rfl, Qok_val rfl (Ev_move rfl)⟩, ⟨_, rfl, Qok_val rfl (Ev_load rfl (Ld_agg Tryd.isAgg76 Tryd.sizeOf76 (by simp [hd, ht]) (MemAt.ent 0 rfl (Seg.whole _))))⟩, trivial⟩ rfl (Cok_step rfl (Step_call 97 _ [false, true] [nb2] _ (Cl_func [Ptr nb2 0, U64 (1:UInt64), I64 (1:Int)] Tryd.call97 rfl) rfl (fun w1 hw1 => numN_c nb2 1 .nilIface (1:UInt64) 1 w1 (hw1.ent _ (List.mem_of_getElem? (i := 1) rfl)) (by unfold Szd; omega) (fun _ => by decide) (by omega)))) ?_
  rintro v1 L1 ⟨_, ⟨rfl, nb3, sp1, cp1, rfl, hc1, hc2, hc3⟩, rfl⟩
  refine ⟨[], ?_⟩
  show DP _ _ _ _ _ _ _ _ [⟨nb1, [U64 e] ++ cu8 d ++ cu8 t, 76, (0, 0)⟩, ⟨nb2, [.nilIface, Slc nb3 0 1 cp1], 138, (0, 0)⟩, ⟨nb3, cu8 (numK 1 (1:UInt64) 1) ++ sp1, 5, (0, 0)⟩]
  refine DP_one ⟨[1], [0, 2, 4], [0], [2, 4], [3]⟩ 3 _ rfl rfl (by decide +kernel) rfl ⟨⟨_, rfl, Qok_val rfl (Ev_move rfl)⟩, ⟨_, rfl, Qok_val rfl (Ev_load rfl (Ld_agg Tryd.isAgg76 Tryd.sizeOf76 (by simp [hd, ht]) (MemAt.ent 0 rfl (Seg.whole _))))⟩, trivial⟩ rfl (Cok_step rfl (Step_call 97 _ [false, true, true] [nb2, nb3] _ (Cl_func [Ptr nb2 0, U64 i, I64 (4:Int)] Tryd.call97 rfl) rfl (fun w1 hw1 => numO_c nb2 nb3 1 cp1 5 .nilIface (numK 1 (1:UInt64) 1) sp1 i 4 w1 (hw1.ent _ (List.mem_of_getElem? (i := 1) rfl)) (hw1.ent _ (List.mem_of_getElem? (i := 2) rfl)) (hw1.ne (i := 1) (j := 2) rfl rfl (by decide)) (show (numK 1 (1:UInt64) 1).length = 1 from (numK_len _ _ _)) hc1 hc2 hc3 (by omega) (by unfold Szd; omega) hx (by omega)))) ?_
  rintro v1 L1 ⟨_, ⟨rfl, nb4, sp2, cp2, rfl, hc4, hc5, hc6⟩, rfl⟩
  refine ⟨[], ?_⟩
  show DP _ _ _ _ _ _ _ _ [⟨nb1, [U64 e] ++ cu8 d ++ cu8 t, 76, (0, 0)⟩, ⟨nb2, [.nilIface, Slc nb4 0 5 cp2], 138, (0, 0)⟩, ⟨nb4, cu8 ((numK 1 (1:UInt64) 1) ++ numK 4 i 4) ++ sp2, 5, (0, 0)⟩]
  refine DP_one ⟨[1, 3], [0, 2, 4], [0, 2], [4], [5]⟩ 5 _ rfl rfl (by decide +kernel) rfl ⟨⟨_, rfl, Qok_val rfl (Ev_load rfl (Ld_agg Tryd.isAgg76 Tryd.sizeOf76 (by simp [hd, ht]) (MemAt.ent 0 rfl (Seg.whole _))))⟩, trivial⟩ rfl (Cok_step rfl (Step_callN 67 [.agg (List.toArray (α := Value) ([U64 e] ++ cu8 d ++ cu8 t))] _ (Cl_func [.agg (List.toArray (α := Value) ([U64 e] ++ cu8 d ++ cu8 t))] Tryd.call67 rfl) (fun w1 hw1 => put7_c e d t w1 hd ht))) ?_
  rintro v1 L1 ⟨_, ⟨nb5, sp3, cp3, rfl, rfl, hc7, hc8, hc9⟩, rfl⟩
  refine ⟨[], ?_⟩
  show DP _ _ _ _ _ _ _ _ [⟨nb1, [U64 e] ++ cu8 d ++ cu8 t, 76, (0, 0)⟩, ⟨nb2, [.nilIface, Slc nb4 0 5 cp2], 138, (0, 0)⟩, ⟨nb4, cu8 ((numK 1 (1:UInt64) 1) ++ numK 4 i 4) ++ sp2, 5, (0, 0)⟩, ⟨nb5, cu8 (putL e d t) ++ sp3, 5, (0, 0)⟩]
  refine DP_one ⟨[1, 3, 5], [0, 2, 4], [0, 2, 4], [], [6]⟩ 6 _ rfl rfl (by decide +kernel) rfl trivial rfl (Cok_step rfl (Step_call 106 _ [false, true, true, false] [nb2, nb4] _ (Cl_func [Ptr nb2 0, Slc nb5 0 56 cp3] Tryd.call106 rfl) rfl (fun w1 hw1 => rawO_c nb2 nb4 5 cp2 61 .nilIface ((numK 1 (1:UInt64) 1) ++ numK 4 i 4) sp2 (some ⟨nb5, 0, none⟩) 56 cp3 (putL e d t) w1 (hw1.ent _ (List.mem_of_getElem? (i := 1) rfl)) (hw1.ent _ (List.mem_of_getElem? (i := 2) rfl)) (hw1.ne (i := 1) (j := 2) rfl rfl (by decide)) (show ((numK 1 (1:UInt64) 1) ++ numK 4 i 4).length = 5 from (by rw [List.length_append, (show (numK 1 (1:UInt64) 1).length = 1 from (numK_len _ _ _)), numK_len] <;> omega)) hc4 hc5 hc6 (by omega) (show (putL e d t).length = 56 from (putL_len hd ht)) (by omega) (RdB.of hw1 (MemAt.ent 3 rfl (Seg.left (Seg.whole _))) (by intro _; simp only [List.mem_cons, List.not_mem_nil, or_false, not_or]; exact ⟨hw1.ne (i := 3) (j := 1) rfl rfl (by decide), hw1.ne (i := 3) (j := 2) rfl rfl (by decide)⟩)) (by omega)))) ?_
  rintro v1 L1 ⟨_, ⟨rfl, nb6, sp4, cp4, rfl, hc10, hc11, hc12⟩, rfl⟩
  refine ⟨[], ?_⟩
  show DP _ _ _ _ _ _ _ _ [⟨nb1, [U64 e] ++ cu8 d ++ cu8 t, 76, (0, 0)⟩, ⟨nb5, cu8 (putL e d t) ++ sp3, 5, (0, 0)⟩, ⟨nb2, [.nilIface, Slc nb6 0 61 cp4], 138, (0, 0)⟩, ⟨nb6, cu8 (((numK 1 (1:UInt64) 1) ++ numK 4 i 4) ++ (putL e d t)) ++ sp4, 5, (0, 0)⟩]
  refine DP_one ⟨[1, 3, 5, 6], [0, 2, 4], [0, 2, 4], [], [7]⟩ 7 _ rfl rfl (by decide +kernel) rfl trivial rfl (Cok_step rfl (Step_callN 98 [Ptr nb2 0] _ (Cl_func [Ptr nb2 0] Tryd.call98 rfl) (fun w1 hw1 => doneO_c nb2 0 nb6 61 cp4 (((numK 1 (1:UInt64) 1) ++ numK 4 i 4) ++ (putL e d t)) w1 (RdA.of hw1 (MemAt.ent 2 rfl (Seg.whole _)) (by simp)) rfl (show (((numK 1 (1:UInt64) 1) ++ numK 4 i 4) ++ (putL e d t)).length = 61 from (by rw [List.length_append, (show ((numK 1 (1:UInt64) 1) ++ numK 4 i 4).length = 5 from (by rw [List.length_append, (show (numK 1 (1:UInt64) 1).length = 1 from (numK_len _ _ _)), numK_len] <;> omega)), (show (putL e d t).length = 56 from (putL_len hd ht))] <;> omega)) (by omega) (RdB.of hw1 (MemAt.ent 3 rfl (Seg.left (Seg.whole _))) (by simp))))) ?_
  rintro v1 L1 ⟨_, ⟨nb7, sp5, cp5, rfl, rfl, hc13, hc14, hc15⟩, rfl⟩
  refine ⟨[(8, Slc nb7 0 61 cp5), (9, .nilIface), (10, Slc nb7 0 61 cp5), (11, .nilIface)], ?_⟩
  show DP _ _ _ _ _ _ _ _ [⟨nb1, [U64 e] ++ cu8 d ++ cu8 t, 76, (0, 0)⟩, ⟨nb5, cu8 (putL e d t) ++ sp3, 5, (0, 0)⟩, ⟨nb2, [.nilIface, Slc nb6 0 61 cp4], 138, (0, 0)⟩, ⟨nb6, cu8 (((numK 1 (1:UInt64) 1) ++ numK 4 i 4) ++ (putL e d t)) ++ sp4, 5, (0, 0)⟩, ⟨nb7, cu8 (((numK 1 (1:UInt64) 1) ++ numK 4 i 4) ++ (putL e d t)) ++ sp5, 5, (0, 0)⟩]
  refine DP_end ⟨[1, 3, 5, 6, 7], [0, 2, 4, 8, 9, 10, 11], [0, 2, 4], [8, 9, 10, 11], []⟩ rfl rfl (by decide +kernel) rfl ⟨⟨_, rfl, Qok_val rfl (Ev_extract rfl rfl)⟩, ⟨_, rfl, Qok_val rfl (Ev_extract rfl rfl)⟩, ⟨_, rfl, Qok_val rfl (Ev_assign rfl)⟩, ⟨_, rfl, Qok_val rfl (Ev_assign rfl)⟩, trivial⟩ ?_
  refine K_sub (F' := [(4, Slc nb7 0 61 cp5), (5, .nilIface)]) (Sub.cons (by kernel_rfl) (Sub.cons (by kernel_rfl) (Sub.nil))) ?_
  show JQ _ _ _ [(4, Slc nb7 0 61 cp5), (5, .nilIface)] _
  refine JQ_then ?_
  refine JC_ret ?_
  refine K_mask [false, false, false, false, true] ?_
  show JQ _ _ _ _ [⟨nb7, cu8 (((numK 1 (1:UInt64) 1) ++ numK 4 i 4) ++ (putL e d t)) ++ sp5, 5, (0, 0)⟩]
  refine JQ_ret (.tuple #[Slc nb7 0 61 cp5, .nilIface]) (res2 Tryd.results79 (RV_tmp rfl) (RV_tmp rfl)) fun w1 hw1 => ?_
  have hq : ((numK 1 (1:UInt64) 1) ++ numK 4 i 4) ++ (putL e d t) = leafT i e d t := by rw [leafT]
  rw [hq] at hw1
  exact ⟨_, _, rfl, ⟨nb7, sp5, cp5, rfl, rfl, hc13, hc14, hc15⟩, hw1.sub (by simp) (by simp)⟩

theorem leafTextB_c (i : UInt64) (e : UInt64) (d t : List UInt8)  (w : World) (hd : d.length = 32) (ht : t.length = 16) (hx : i >>> UInt64.ofNat (8*4) ≠ 0)  : Calls Tryd.prog 79 #[U64 i, .agg (List.toArray (α := Value) ([U64 e] ++ cu8 d ++ cu8 t))] w (Post w [] (fun v L => v = .tuple #[.slice none 0 0, .iface 43 (I64 1)] ∧ L = [])) := by
  have hmx : maxLen = 9223372036854775807 := rfl
  refine enter (P := Tryd.prog) (f := 79) (fn := Tryd.f79) w [] 19 [] [U64 i, .agg (List.toArray (α := Value) ([U64 e] ++ cu8 d ++ cu8 t))] Tryd.func79 rfl rfl (by simp) (Hp.start (by simp) (by simp) (by simp)) ?_
  show JC _ _ _ [(0, U64 i), (1, .agg (List.toArray (α := Value) ([U64 e] ++ cu8 d ++ cu8 t)))] _
  refine JC_seq ?_
  refine JC_region ?_
  refine JL_step (Step_box (.agg (List.toArray (α := Value) ([U64 e] ++ cu8 d ++ cu8 t))) ([U64 e] ++ cu8 d ++ cu8 t) rfl (by first | rfl | simp)) rfl ?_
  rintro v1 L1 ⟨nb1, hnb1, rfl, rfl⟩
  show JL _ _ _ _ ((3, Ptr nb1 0) :: _) [⟨nb1, [U64 e] ++ cu8 d ++ cu8 t, 76, (0, 0)⟩]
  refine JL_val _ (Ev_assign rfl) rfl ?_
  refine JL_val _ (Ev_assign rfl) rfl ?_
  refine JL_nil ?_
  refine JQ_then ?_
  refine JC_seq ?_
  refine JC_region ?_
  refine JL_val (.agg (List.toArray (α := Value) ([.nilIface, .slice none 0 0]))) (Ev_build [] _ rfl (fun _ => by kernel_rfl)) rfl ?_
  refine JL_step (Step_box (.agg (List.toArray (α := Value) ([.nilIface, .slice none 0 0]))) ([.nilIface, .slice none 0 0]) rfl (by first | rfl | simp)) rfl ?_
  rintro v1 L1 ⟨nb2, hnb2, rfl, rfl⟩
  show JL _ _ _ _ ((8, Ptr nb2 0) :: _) [⟨nb1, [U64 e] ++ cu8 d ++ cu8 t, 76, (0, 0)⟩, ⟨nb2, [.nilIface, .slice none 0 0], 138, (0, 0)⟩]
  refine JL_val _ (Ev_assign rfl) rfl ?_
  refine JL_nil ?_
  refine JQ_then ?_
  refine JC_seq ?_
  refine JC_draw 19 6 [(0, Ptr nb2 0), (2, U64 i), (4, .agg (List.toArray (α := Value) ([U64 e] ++ cu8 d ++ cu8 t)))] Tryd.mixed rfl (by decide +kernel) ?_
  refine DP_one ⟨[], [0, 2, 4], [], [0, 2, 4], [1]⟩ 1 _ rfl rfl (by decide +kernel) rfl ⟨⟨_, rfl, Qok_val rfl (Ev_move rfl)⟩, ⟨_, rfl, Qok_val rfl (Ev_move rfl)⟩, ⟨_, rfl, Qok_val rfl (Ev_load rfl (Ld_agg Tryd.isAgg76 Tryd.sizeOf76 (by simp [hd, ht]) (MemAt.ent 0 rfl (Seg.whole _))))⟩, trivial⟩ rfl (Cok_step rfl (Step_call 97 _ [false, true] [nb2] _ (Cl_func [Ptr nb2 0, U64 (1:UInt64), I64 (1:Int)] Tryd.call97 rfl) rfl (fun w1 hw1 => numN_c nb2 1 .nilIface (1:UInt64) 1 w1 (hw1.ent _ (List.mem_of_getElem? (i := 1) rfl)) (by unfold Szd; omega) (fun _ => by decide) (by omega)))) ?_
  rintro v1 L1 ⟨_, ⟨rfl, nb3, sp1, cp1, rfl, hc1, hc2, hc3⟩, rfl⟩
  refine ⟨[], ?_⟩
  show DP _ _ _ _ _ _ _ _ [⟨nb1, [U64 e] ++ cu8 d ++ cu8 t, 76, (0, 0)⟩, ⟨nb2, [.nilIface, Slc nb3 0 1 cp1], 138, (0, 0)⟩, ⟨nb3, cu8 (numK 1 (1:UInt64) 1) ++ sp1, 5, (0, 0)⟩]
  refine DP_one ⟨[1], [0, 2, 4], [0], [2, 4], [3]⟩ 3 _ rfl rfl (by decide +kernel) rfl ⟨⟨_, rfl, Qok_val rfl (Ev_move rfl)⟩, ⟨_, rfl, Qok_val rfl (Ev_load rfl (Ld_agg Tryd.isAgg76 Tryd.sizeOf76 (by simp [hd, ht]) (MemAt.ent 0 rfl (Seg.whole _))))⟩, trivial⟩ rfl (Cok_step rfl (Step_callW 97 [Ptr nb2 0, U64 i, I64 (4:Int)] 1 ⟨nb2, [.nilIface, Slc nb3 0 1 cp1], 138, (0, 0)⟩ _ (fun v e' l' => v = Ptr nb2 0 ∧ e' = ⟨nb2, [errV 43 (erN 0 1), Slc nb3 0 1 cp1], 138, (0, 0)⟩ ∧ l' = []) (Cl_func [Ptr nb2 0, U64 i, I64 (4:Int)] Tryd.call97 rfl) rfl (by rintro v l ⟨rfl, rfl⟩; exact ⟨_, _, rfl, rfl, rfl, rfl, rfl⟩) (fun w1 hw1 => numB2_c nb2 0 (Slc nb3 0 1 cp1) i 4 w1 (hw1.ent _ (List.mem_of_getElem? (i := 1) rfl)) (by unfold Szd; omega) (by decide) hx))) ?_
  rintro v1 L1 ⟨_, _, ⟨rfl, rfl, rfl⟩, rfl⟩
  refine ⟨[], ?_⟩
  show DP _ _ _ _ _ _ _ _ [⟨nb1, [U64 e] ++ cu8 d ++ cu8 t, 76, (0, 0)⟩, ⟨nb2, [errV 43 (erN 0 1), Slc nb3 0 1 cp1], 138, (0, 0)⟩, ⟨nb3, cu8 (numK 1 (1:UInt64) 1) ++ sp1, 5, (0, 0)⟩]
  refine DP_one ⟨[1, 3], [0, 2, 4], [0, 2], [4], [5]⟩ 5 _ rfl rfl (by decide +kernel) rfl ⟨⟨_, rfl, Qok_val rfl (Ev_load rfl (Ld_agg Tryd.isAgg76 Tryd.sizeOf76 (by simp [hd, ht]) (MemAt.ent 0 rfl (Seg.whole _))))⟩, trivial⟩ rfl (Cok_step rfl (Step_callN 67 [.agg (List.toArray (α := Value) ([U64 e] ++ cu8 d ++ cu8 t))] _ (Cl_func [.agg (List.toArray (α := Value) ([U64 e] ++ cu8 d ++ cu8 t))] Tryd.call67 rfl) (fun w1 hw1 => put7_c e d t w1 hd ht))) ?_
  rintro v1 L1 ⟨_, ⟨nb4, sp2, cp2, rfl, rfl, hc4, hc5, hc6⟩, rfl⟩
  refine ⟨[], ?_⟩
  show DP _ _ _ _ _ _ _ _ [⟨nb1, [U64 e] ++ cu8 d ++ cu8 t, 76, (0, 0)⟩, ⟨nb2, [errV 43 (erN 0 1), Slc nb3 0 1 cp1], 138, (0, 0)⟩, ⟨nb3, cu8 (numK 1 (1:UInt64) 1) ++ sp1, 5, (0, 0)⟩, ⟨nb4, cu8 (putL e d t) ++ sp2, 5, (0, 0)⟩]
  refine DP_one ⟨[1, 3, 5], [0, 2, 4], [0, 2, 4], [], [6]⟩ 6 _ rfl rfl (by decide +kernel) rfl trivial rfl (Cok_step rfl (Step_call 106 _ [false, true, true, false] [nb2, nb3] _ (Cl_func [Ptr nb2 0, Slc nb4 0 56 cp2] Tryd.call106 rfl) rfl (fun w1 hw1 => rawO_c nb2 nb3 1 cp1 57 (errV 43 (erN 0 1)) (numK 1 (1:UInt64) 1) sp1 (some ⟨nb4, 0, none⟩) 56 cp2 (putL e d t) w1 (hw1.ent _ (List.mem_of_getElem? (i := 1) rfl)) (hw1.ent _ (List.mem_of_getElem? (i := 2) rfl)) (hw1.ne (i := 1) (j := 2) rfl rfl (by decide)) (show (numK 1 (1:UInt64) 1).length = 1 from (numK_len _ _ _)) hc1 hc2 hc3 (by omega) (show (putL e d t).length = 56 from (putL_len hd ht)) (by omega) (RdB.of hw1 (MemAt.ent 3 rfl (Seg.left (Seg.whole _))) (by intro _; simp only [List.mem_cons, List.not_mem_nil, or_false, not_or]; exact ⟨hw1.ne (i := 3) (j := 1) rfl rfl (by decide), hw1.ne (i := 3) (j := 2) rfl rfl (by decide)⟩)) (by omega)))) ?_
  rintro v1 L1 ⟨_, ⟨rfl, nb5, sp3, cp3, rfl, hc7, hc8, hc9⟩, rfl⟩
  refine ⟨[], ?_⟩
  show DP _ _ _ _ _ _ _ _ [⟨nb1, [U64 e] ++ cu8 d ++ cu8 t, 76, (0, 0)⟩, ⟨nb4, cu8 (putL e d t) ++ sp2, 5, (0, 0)⟩, ⟨nb2, [errV 43 (erN 0 1), Slc nb5 0 57 cp3], 138, (0, 0)⟩, ⟨nb5, cu8 ((numK 1 (1:UInt64) 1) ++ (putL e d t)) ++ sp3, 5, (0, 0)⟩]
  refine DP_one ⟨[1, 3, 5, 6], [0, 2, 4], [0, 2, 4], [], [7]⟩ 7 _ rfl rfl (by decide +kernel) rfl trivial rfl (Cok_step rfl (Step_callP 98 [Ptr nb2 0] (.tuple #[.slice none 0 0, errV 43 (erN 0 1)]) (Cl_func [Ptr nb2 0] Tryd.call98 rfl) (fun w1 hw1 => doneE_c nb2 (erN 0 1) (Slc nb5 0 57 cp3) w1 (RdA.of hw1 (MemAt.ent 2 rfl (Seg.whole _)) (by simp)) (by decide)))) ?_
  rintro v1 L1 ⟨rfl, rfl⟩
  refine ⟨[(8, .slice none 0 0), (9, errV 43 (erN 0 1)), (10, .slice none 0 0), (11, errV 43 (erN 0 1))], ?_⟩
  show DP _ _ _ _ _ _ _ _ [⟨nb1, [U64 e] ++ cu8 d ++ cu8 t, 76, (0, 0)⟩, ⟨nb4, cu8 (putL e d t) ++ sp2, 5, (0, 0)⟩, ⟨nb2, [errV 43 (erN 0 1), Slc nb5 0 57 cp3], 138, (0, 0)⟩, ⟨nb5, cu8 ((numK 1 (1:UInt64) 1) ++ (putL e d t)) ++ sp3, 5, (0, 0)⟩]
  refine DP_end ⟨[1, 3, 5, 6, 7], [0, 2, 4, 8, 9, 10, 11], [0, 2, 4], [8, 9, 10, 11], []⟩ rfl rfl (by decide +kernel) rfl ⟨⟨_, rfl, Qok_val rfl (Ev_extract rfl rfl)⟩, ⟨_, rfl, Qok_val rfl (Ev_extract rfl rfl)⟩, ⟨_, rfl, Qok_val rfl (Ev_assign rfl)⟩, ⟨_, rfl, Qok_val rfl (Ev_assign rfl)⟩, trivial⟩ ?_
  refine K_sub (F' := [(4, .slice none 0 0), (5, errV 43 (erN 0 1))]) (Sub.cons (by kernel_rfl) (Sub.cons (by kernel_rfl) (Sub.nil))) ?_
  show JQ _ _ _ [(4, .slice none 0 0), (5, errV 43 (erN 0 1))] _
  refine JQ_then ?_
  refine JC_ret ?_
  refine K_mask [false, false, false, false] ?_
  show JQ _ _ _ _ []
  refine JQ_ret (.tuple #[.slice none 0 0, errV 43 (erN 0 1)]) (res2 Tryd.results79 (RV_tmp rfl) (RV_tmp rfl)) fun w1 hw1 => ?_
  exact ⟨_, [], rfl, ⟨rfl, rfl⟩, hw1.sub (by simp) (by simp)⟩

theorem joinTextB_c (h : Int) (l r : List UInt8) (w : World) (hl : l.length = 32) (hr : r.length = 32) (hh : h < 1 ∨ 32 < h) : Calls Tryd.prog 71 #[I64 (h), .agg (cu8 l).toArray, .agg (cu8 r).toArray] w (Post w [] (fun v L => v = .tuple #[.slice none 0 0, .iface 43 (I64 1)] ∧ L = [])) := by
  refine enter w [] 30 [] [I64 (h), .agg (cu8 l).toArray, .agg (cu8 r).toArray] Tryd.func71 rfl rfl (by simp) (Hp.start (by simp) (by simp) (by simp)) ?_
  show JC _ _ _ [(0, I64 (h)), (1, .agg (cu8 l).toArray), (2, .agg (cu8 r).toArray)] _
  refine JC_seq ?_
  refine JC_region ?_
  refine JL_step (Step_box (.agg (cu8 l).toArray) (cu8 l) rfl (by first | rfl | simp)) rfl ?_
  rintro v1 L1 ⟨nb1, hnb1, rfl, rfl⟩
  show JL _ _ _ _ ((4, Ptr nb1 0) :: _) [⟨nb1, cu8 l, 25, (0, 0)⟩]
  refine JL_step (Step_box (.agg (cu8 r).toArray) (cu8 r) rfl (by first | rfl | simp)) rfl ?_
  rintro v1 L1 ⟨nb2, hnb2, rfl, rfl⟩
  show JL _ _ _ _ ((5, Ptr nb2 0) :: _) [⟨nb1, cu8 l, 25, (0, 0)⟩, ⟨nb2, cu8 r, 25, (0, 0)⟩]
  refine JL_val _ (Ev_assign rfl) rfl ?_
  refine JL_val _ (Ev_assign rfl) rfl ?_
  refine JL_nil ?_
  refine JQ_then ?_
  refine JC_seq ?_
  refine JC_seq ?_
  refine JC_region ?_
  refine JL_val _ (Ev_move rfl) rfl ?_
  refine JL_val (.bool (decide ((h) < (1:Int)))) (Ev_bini rfl rfl fun _ => bin_lss_i _ _) rfl ?_
  refine JL_val _ (Ev_move rfl) rfl ?_
  rcases Bool.eq_false_or_eq_true (decide ((h) < (1:Int))) with hb1 | hb1
  ·
    have hp1 : (h) < (1:Int) := of_decide_eq_true hb1
    refine JL_gskip 2 11 false _ rfl rfl hb1 rfl ?_
    refine JL_gskip 2 11 false _ rfl rfl hb1 rfl ?_
    refine JL_val _ (Ev_pickT _ rfl hb1 rfl) rfl ?_
    refine JL_nil ?_
    refine JQ_then ?_
    refine JC_condT _ rfl rfl ?_
    refine JC_seq ?_
    refine JC_region ?_
    refine JL_val (.iface 43 (I64 (1:Int))) (Ev_iface Tryd.underlying43 rfl rfl) rfl ?_
    refine JL_val _ (Ev_assign rfl) rfl ?_
    refine JL_val _ (Ev_assign rfl) rfl ?_
    refine JL_nil ?_
    refine JQ_then ?_
    refine JC_ret ?_
    refine JQ_then_ret ?_
    refine K_mask [false, false] ?_
    show JQ _ _ _ _ []
    refine JQ_ret (.tuple #[.slice none 0 0, .iface 43 (I64 (1:Int))]) (res2 Tryd.results71 (RV_tmp rfl) (RV_tmp rfl)) fun w1 hw1 => ?_
    exact ⟨_, [], rfl, ⟨rfl, rfl⟩, hw1.sub (by simp) (by simp)⟩
  ·
    have hp1 : ¬ ((h) < (1:Int)) := of_decide_eq_false hb1
    refine JL_gval 2 11 false _ _ rfl rfl hb1 (Ev_move rfl) rfl ?_
    refine JL_gval 2 11 false _ (.bool (decide ((32:Int) < (h)))) rfl rfl hb1 (Ev_bini rfl rfl fun _ => bin_gtr_i _ _) rfl ?_
    refine JL_val _ (Ev_pickF _ rfl hb1 rfl) rfl ?_
    refine JL_nil ?_
    refine JQ_then ?_
    refine JC_cond (decide ((32:Int) < (h))) rfl (fun hb2 => ?_) (fun hb2 => ?_)
    ·
      have hp2 : (32:Int) < (h) := of_decide_eq_true hb2
      refine JC_seq ?_
      refine JC_region ?_
      refine JL_val (.iface 43 (I64 (1:Int))) (Ev_iface Tryd.underlying43 rfl rfl) rfl ?_
      refine JL_val _ (Ev_assign rfl) rfl ?_
      refine JL_val _ (Ev_assign rfl) rfl ?_
      refine JL_nil ?_
      refine JQ_then ?_
      refine JC_ret ?_
      refine JQ_then_ret ?_
      refine K_mask [false, false] ?_
      show JQ _ _ _ _ []
      refine JQ_ret (.tuple #[.slice none 0 0, .iface 43 (I64 (1:Int))]) (res2 Tryd.results71 (RV_tmp rfl) (RV_tmp rfl)) fun w1 hw1 => ?_
      exact ⟨_, [], rfl, ⟨rfl, rfl⟩, hw1.sub (by simp) (by simp)⟩
    ·
      have hp2 : ¬ ((32:Int) < (h)) := of_decide_eq_false hb2
      exfalso; omega

theorem joinText_c (h : Nat) (l r : List UInt8) (w : World) (hl : l.length = 32) (hr : r.length = 32) (h1 : 1 ≤ h) (h2 : h ≤ 32) : Calls Tryd.prog 71 #[I64 ((h:Int)), .agg (cu8 l).toArray, .agg (cu8 r).toArray] w (Post w [] (fun v L => ∃ g sp cap, v = .tuple #[Slc g 0 66 cap, .nilIface] ∧ L = [⟨g, cu8 (joinT h l r) ++ sp, 5, (0, 0)⟩] ∧ sp.length = cap - 66 ∧ 66 ≤ cap ∧ cap ≤ maxLen)) := by
  have hmx : maxLen = 9223372036854775807 := rfl
  refine enter w [] 30 [] [I64 ((h:Int)), .agg (cu8 l).toArray, .agg (cu8 r).toArray] Tryd.func71 rfl rfl (by simp) (Hp.start (by simp) (by simp) (by simp)) ?_
  show JC _ _ _ [(0, I64 ((h:Int))), (1, .agg (cu8 l).toArray), (2, .agg (cu8 r).toArray)] _
  refine JC_seq ?_
  refine JC_region ?_
  refine JL_step (Step_box (.agg (cu8 l).toArray) (cu8 l) rfl (by first | rfl | simp)) rfl ?_
  rintro v1 L1 ⟨nb1, hnb1, rfl, rfl⟩
  show JL _ _ _ _ ((4, Ptr nb1 0) :: _) [⟨nb1, cu8 l, 25, (0, 0)⟩]
  refine JL_step (Step_box (.agg (cu8 r).toArray) (cu8 r) rfl (by first | rfl | simp)) rfl ?_
  rintro v1 L1 ⟨nb2, hnb2, rfl, rfl⟩
  show JL _ _ _ _ ((5, Ptr nb2 0) :: _) [⟨nb1, cu8 l, 25, (0, 0)⟩, ⟨nb2, cu8 r, 25, (0, 0)⟩]
  refine JL_val _ (Ev_assign rfl) rfl ?_
  refine JL_val _ (Ev_assign rfl) rfl ?_
  refine JL_nil ?_
  refine JQ_then ?_
  refine JC_seq ?_
  refine JC_seq ?_
  refine JC_region ?_
  refine JL_val _ (Ev_move rfl) rfl ?_
  refine JL_val (.bool (decide (((h:Int)) < (1:Int)))) (Ev_bini rfl rfl fun _ => bin_lss_i _ _) rfl ?_
  refine JL_val _ (Ev_move rfl) rfl ?_
  refine JL_gval 2 11 false _ _ rfl rfl (decide_eq_false (by omega)) (Ev_move rfl) rfl ?_
  refine JL_gval 2 11 false _ (.bool (decide ((32:Int) < ((h:Int))))) rfl rfl (decide_eq_false (by omega)) (Ev_bini rfl rfl fun _ => bin_gtr_i _ _) rfl ?_
  refine JL_val _ (Ev_pickF _ rfl (decide_eq_false (by omega)) rfl) rfl ?_
  refine JL_nil ?_
  refine JQ_then ?_
  refine JC_condF _ rfl (decide_eq_false (by omega)) ?_
  refine JC_skip ?_
  refine JQ_then ?_
  refine JC_seq ?_
  refine JC_region ?_
  refine JL_val (.agg (List.toArray (α := Value) ([.nilIface, .slice none 0 0]))) (Ev_build [] _ rfl (fun _ => by kernel_rfl)) rfl ?_
  refine JL_step (Step_box (.agg (List.toArray (α := Value) ([.nilIface, .slice none 0 0]))) ([.nilIface, .slice none 0 0]) rfl (by first | rfl | simp)) rfl ?_
  rintro v1 L1 ⟨nb3, hnb3, rfl, rfl⟩
  show JL _ _ _ _ ((17, Ptr nb3 0) :: _) [⟨nb1, cu8 l, 25, (0, 0)⟩, ⟨nb2, cu8 r, 25, (0, 0)⟩, ⟨nb3, [.nilIface, .slice none 0 0], 138, (0, 0)⟩]
  refine JL_val _ (Ev_assign rfl) rfl ?_
  refine JL_nil ?_
  refine JQ_then ?_
  refine JC_seq ?_
  refine JC_draw 30 6 [(0, Ptr nb3 0), (2, I64 ((h:Int))), (3, U64 (UInt64.ofNat h)), (5, .agg (cu8 l).toArray), (7, .agg (cu8 r).toArray)] Tryd.mixed rfl (by decide +kernel) ?_
  refine DP_one ⟨[], [0, 2, 3, 5, 7], [], [0, 2, 3, 5, 7], [1]⟩ 1 _ rfl rfl (by decide +kernel) rfl ⟨⟨_, rfl, Qok_val rfl (Ev_move rfl)⟩, ⟨_, rfl, Qok_val rfl (Ev_move rfl)⟩, ⟨_, rfl, Qok_val rfl (Ev_conv _ _ rfl fun _ => conv_i64_u64 (by rw [Tryd.underlying3]; rfl) Tryd.underlying58 h _ (by omega))⟩, ⟨_, rfl, Qok_val rfl (Ev_load rfl (Ld_agg Tryd.isAgg25 Tryd.sizeOf25 (len_cu8 hl) (MemAt.ent 0 rfl (Seg.whole _))))⟩, ⟨_, rfl, Qok_val rfl (Ev_load rfl (Ld_agg Tryd.isAgg25 Tryd.sizeOf25 (len_cu8 hr) (MemAt.ent 1 rfl (Seg.whole _))))⟩, trivial⟩ rfl (Cok_step rfl (Step_call 97 _ [false, false, true] [nb3] _ (Cl_func [Ptr nb3 0, U64 (2:UInt64), I64 (1:Int)] Tryd.call97 rfl) rfl (fun w1 hw1 => numN_c nb3 1 .nilIface (2:UInt64) 1 w1 (hw1.ent _ (List.mem_of_getElem? (i := 2) rfl)) (by unfold Szd; omega) (fun _ => by decide) (by omega)))) ?_
  rintro v1 L1 ⟨_, ⟨rfl, nb4, sp1, cp1, rfl, hc1, hc2, hc3⟩, rfl⟩
  refine ⟨[], ?_⟩
  show DP _ _ _ _ _ _ _ _ [⟨nb1, cu8 l, 25, (0, 0)⟩, ⟨nb2, cu8 r, 25, (0, 0)⟩, ⟨nb3, [.nilIface, Slc nb4 0 1 cp1], 138, (0, 0)⟩, ⟨nb4, cu8 (numK 1 (2:UInt64) 1) ++ sp1, 5, (0, 0)⟩]
  refine DP_one ⟨[1], [0, 2, 3, 5, 7], [0], [2, 3, 5, 7], [4]⟩ 4 _ rfl rfl (by decide +kernel) rfl ⟨⟨_, rfl, Qok_val rfl (Ev_move rfl)⟩, ⟨_, rfl, Qok_val rfl (Ev_conv _ _ rfl fun _ => conv_i64_u64 (by rw [Tryd.underlying3]; rfl) Tryd.underlying58 h _ (by omega))⟩, ⟨_, rfl, Qok_val rfl (Ev_load rfl (Ld_agg Tryd.isAgg25 Tryd.sizeOf25 (len_cu8 hl) (MemAt.ent 0 rfl (Seg.whole _))))⟩, ⟨_, rfl, Qok_val rfl (Ev_load rfl (Ld_agg Tryd.isAgg25 Tryd.sizeOf25 (len_cu8 hr) (MemAt.ent 1 rfl (Seg.whole _))))⟩, trivial⟩ rfl (Cok_step rfl (Step_call 97 _ [false, false, true, true] [nb3, nb4] _ (Cl_func [Ptr nb3 0, U64 (UInt64.ofNat h), I64 (1:Int)] Tryd.call97 rfl) rfl (fun w1 hw1 => numO_c nb3 nb4 1 cp1 2 .nilIface (numK 1 (2:UInt64) 1) sp1 (UInt64.ofNat h) 1 w1 (hw1.ent _ (List.mem_of_getElem? (i := 2) rfl)) (hw1.ent _ (List.mem_of_getElem? (i := 3) rfl)) (hw1.ne (i := 2) (j := 3) rfl rfl (by decide)) (show (numK 1 (2:UInt64) 1).length = 1 from (numK_len _ _ _)) hc1 hc2 hc3 (by omega) (by unfold Szd; omega) (fun _ => shr8 (by omega)) (by omega)))) ?_
  rintro v1 L1 ⟨_, ⟨rfl, nb5, sp2, cp2, rfl, hc4, hc5, hc6⟩, rfl⟩
  refine ⟨[], ?_⟩
  show DP _ _ _ _ _ _ _ _ [⟨nb1, cu8 l, 25, (0, 0)⟩, ⟨nb2, cu8 r, 25, (0, 0)⟩, ⟨nb3, [.nilIface, Slc nb5 0 2 cp2], 138, (0, 0)⟩, ⟨nb5, cu8 ((numK 1 (2:UInt64) 1) ++ numK 1 (UInt64.ofNat h) 1) ++ sp2, 5, (0, 0)⟩]
  refine DP_one ⟨[1, 4], [0, 2, 3, 5, 7], [0, 2, 3], [5, 7], [6]⟩ 6 _ rfl rfl (by decide +kernel) rfl ⟨⟨_, rfl, Qok_val rfl (Ev_load rfl (Ld_agg Tryd.isAgg25 Tryd.sizeOf25 (len_cu8 hl) (MemAt.ent 0 rfl (Seg.whole _))))⟩, ⟨_, rfl, Qok_val rfl (Ev_load rfl (Ld_agg Tryd.isAgg25 Tryd.sizeOf25 (len_cu8 hr) (MemAt.ent 1 rfl (Seg.whole _))))⟩, trivial⟩ rfl (Cok_step rfl (Step_call 111 _ [false, false, true, true] [nb3, nb5] _ (Cl_func [Ptr nb3 0, .agg (cu8 l).toArray] Tryd.call111 rfl) rfl (fun w1 hw1 => hashO_c nb3 nb5 2 cp2 34 .nilIface ((numK 1 (2:UInt64) 1) ++ numK 1 (UInt64.ofNat h) 1) sp2 l w1 (hw1.ent _ (List.mem_of_getElem? (i := 2) rfl)) (hw1.ent _ (List.mem_of_getElem? (i := 3) rfl)) (hw1.ne (i := 2) (j := 3) rfl rfl (by decide)) (show ((numK 1 (2:UInt64) 1) ++ numK 1 (UInt64.ofNat h) 1).length = 2 from (by rw [List.length_append, (show (numK 1 (2:UInt64) 1).length = 1 from (numK_len _ _ _)), numK_len] <;> omega)) hc4 hc5 hc6 (by omega) hl (by omega)))) ?_
  rintro v1 L1 ⟨_, ⟨rfl, nb6, sp3, cp3, rfl, hc7, hc8, hc9⟩, rfl⟩
  refine ⟨[], ?_⟩
  show DP _ _ _ _ _ _ _ _ [⟨nb1, cu8 l, 25, (0, 0)⟩, ⟨nb2, cu8 r, 25, (0, 0)⟩, ⟨nb3, [.nilIface, Slc nb6 0 34 cp3], 138, (0, 0)⟩, ⟨nb6, cu8 (((numK 1 (2:UInt64) 1) ++ numK 1 (UInt64.ofNat h) 1) ++ l) ++ sp3, 5, (0, 0)⟩]
  refine DP_one ⟨[1, 4, 6], [0, 2, 3, 5, 7], [0, 2, 3, 5], [7], [8]⟩ 8 _ rfl rfl (by decide +kernel) rfl ⟨⟨_, rfl, Qok_val rfl (Ev_load rfl (Ld_agg Tryd.isAgg25 Tryd.sizeOf25 (len_cu8 hr) (MemAt.ent 1 rfl (Seg.whole _))))⟩, trivial⟩ rfl (Cok_step rfl (Step_call 111 _ [false, false, true, true] [nb3, nb6] _ (Cl_func [Ptr nb3 0, .agg (cu8 r).toArray] Tryd.call111 rfl) rfl (fun w1 hw1 => hashO_c nb3 nb6 34 cp3 66 .nilIface (((numK 1 (2:UInt64) 1) ++ numK 1 (UInt64.ofNat h) 1) ++ l) sp3 r w1 (hw1.ent _ (List.mem_of_getElem? (i := 2) rfl)) (hw1.ent _ (List.mem_of_getElem? (i := 3) rfl)) (hw1.ne (i := 2) (j := 3) rfl rfl (by decide)) (show (((numK 1 (2:UInt64) 1) ++ numK 1 (UInt64.ofNat h) 1) ++ l).length = 34 from (by rw [List.length_append, (show ((numK 1 (2:UInt64) 1) ++ numK 1 (UInt64.ofNat h) 1).length = 2 from (by rw [List.length_append, (show (numK 1 (2:UInt64) 1).length = 1 from (numK_len _ _ _)), numK_len] <;> omega)), hl] <;> omega)) hc7 hc8 hc9 (by omega) hr (by omega)))) ?_
  rintro v1 L1 ⟨_, ⟨rfl, nb7, sp4, cp4, rfl, hc10, hc11, hc12⟩, rfl⟩
  refine ⟨[], ?_⟩
  show DP _ _ _ _ _ _ _ _ [⟨nb1, cu8 l, 25, (0, 0)⟩, ⟨nb2, cu8 r, 25, (0, 0)⟩, ⟨nb3, [.nilIface, Slc nb7 0 66 cp4], 138, (0, 0)⟩, ⟨nb7, cu8 ((((numK 1 (2:UInt64) 1) ++ numK 1 (UInt64.ofNat h) 1) ++ l) ++ r) ++ sp4, 5, (0, 0)⟩]
  refine DP_one ⟨[1, 4, 6, 8], [0, 2, 3, 5, 7], [0, 2, 3, 5, 7], [], [9]⟩ 9 _ rfl rfl (by decide +kernel) rfl trivial rfl (Cok_step rfl (Step_callN 98 [Ptr nb3 0] _ (Cl_func [Ptr nb3 0] Tryd.call98 rfl) (fun w1 hw1 => doneO_c nb3 0 nb7 66 cp4 ((((numK 1 (2:UInt64) 1) ++ numK 1 (UInt64.ofNat h) 1) ++ l) ++ r) w1 (RdA.of hw1 (MemAt.ent 2 rfl (Seg.whole _)) (by simp)) rfl (show ((((numK 1 (2:UInt64) 1) ++ numK 1 (UInt64.ofNat h) 1) ++ l) ++ r).length = 66 from (by rw [List.length_append, (show (((numK 1 (2:UInt64) 1) ++ numK 1 (UInt64.ofNat h) 1) ++ l).length = 34 from (by rw [List.length_append, (show ((numK 1 (2:UInt64) 1) ++ numK 1 (UInt64.ofNat h) 1).length = 2 from (by rw [List.length_append, (show (numK 1 (2:UInt64) 1).length = 1 from (numK_len _ _ _)), numK_len] <;> omega)), hl] <;> omega)), hr] <;> omega)) (by omega) (RdB.of hw1 (MemAt.ent 3 rfl (Seg.left (Seg.whole _))) (by simp))))) ?_
  rintro v1 L1 ⟨_, ⟨nb8, sp5, cp5, rfl, rfl, hc13, hc14, hc15⟩, rfl⟩
  refine ⟨[(10, Slc nb8 0 66 cp5), (11, .nilIface), (12, Slc nb8 0 66 cp5), (13, .nilIface)], ?_⟩
  show DP _ _ _ _ _ _ _ _ [⟨nb1, cu8 l, 25, (0, 0)⟩, ⟨nb2, cu8 r, 25, (0, 0)⟩, ⟨nb3, [.nilIface, Slc nb7 0 66 cp4], 138, (0, 0)⟩, ⟨nb7, cu8 ((((numK 1 (2:UInt64) 1) ++ numK 1 (UInt64.ofNat h) 1) ++ l) ++ r) ++ sp4, 5, (0, 0)⟩, ⟨nb8, cu8 ((((numK 1 (2:UInt64) 1) ++ numK 1 (UInt64.ofNat h) 1) ++ l) ++ r) ++ sp5, 5, (0, 0)⟩]
  refine DP_end ⟨[1, 4, 6, 8, 9], [0, 2, 3, 5, 7, 10, 11, 12, 13], [0, 2, 3, 5, 7], [10, 11, 12, 13], []⟩ rfl rfl (by decide +kernel) rfl ⟨⟨_, rfl, Qok_val rfl (Ev_extract rfl rfl)⟩, ⟨_, rfl, Qok_val rfl (Ev_extract rfl rfl)⟩, ⟨_, rfl, Qok_val rfl (Ev_assign rfl)⟩, ⟨_, rfl, Qok_val rfl (Ev_assign rfl)⟩, trivial⟩ ?_
  refine K_sub (F' := [(6, Slc nb8 0 66 cp5), (7, .nilIface)]) (Sub.cons (by kernel_rfl) (Sub.cons (by kernel_rfl) (Sub.nil))) ?_
  show JQ _ _ _ [(6, Slc nb8 0 66 cp5), (7, .nilIface)] _
  refine JQ_then ?_
  refine JC_ret ?_
  refine K_mask [false, false, false, false, true] ?_
  show JQ _ _ _ _ [⟨nb8, cu8 ((((numK 1 (2:UInt64) 1) ++ numK 1 (UInt64.ofNat h) 1) ++ l) ++ r) ++ sp5, 5, (0, 0)⟩]
  refine JQ_ret (.tuple #[Slc nb8 0 66 cp5, .nilIface]) (res2 Tryd.results71 (RV_tmp rfl) (RV_tmp rfl)) fun w1 hw1 => ?_
  have hq : (((numK 1 (2:UInt64) 1) ++ numK 1 (UInt64.ofNat h) 1) ++ l) ++ r = joinT h l r := by rw [joinT]
  rw [hq] at hw1
  exact ⟨_, _, rfl, ⟨nb8, sp5, cp5, rfl, rfl, hc13, hc14, hc15⟩, hw1.sub (by simp) (by simp)⟩

theorem hashed_c (az : Option Addr) (n cz : Nat) (z : List UInt8) (w : World) (ha : az.isNone = false) (hz : z.length = n) (hn : n ≤ 1000000) (hr : RdB w [] az z) (hG : GLs w) : Calls Tryd.prog 110 #[.slice az n cz, .nilIface] w (Post w [] (fun v L => v = .tuple #[.agg (cu8 (sumG constL initL z)).toArray, .nilIface] ∧ L = [])) := by
  have hmx : maxLen = 9223372036854775807 := rfl
  refine enter w [] 12 [] [.slice az n cz, .nilIface] Tryd.func110 rfl rfl (by simp) (Hp.start (by simp) (by simp) (by simp)) ?_
  show JC _ _ _ [(0, .slice az n cz), (1, .nilIface)] _
  refine JC_seq ?_
  refine JC_region ?_
  refine JL_step (Step_alloc _ (cu8 (zr8 32)) Tryd.zeroValue25 (by kernel_rfl)) rfl ?_
  rintro v1 L1 ⟨nb1, hnb1, rfl, rfl⟩
  show JL _ _ _ _ ((4, Ptr nb1 0) :: _) [⟨nb1, cu8 (zr8 32), 25, (0, 0)⟩]
  refine JL_val _ (Ev_assign rfl) rfl ?_
  refine JL_nil ?_
  refine JQ_then ?_
  refine JC_seq ?_
  refine JC_seq ?_
  refine JC_region ?_
  refine JL_val _ (Ev_move rfl) rfl ?_
  refine JL_val (.bool false) (Ev_bin _ _ _ rfl rfl (fun _ => eqGuard_nn ..) fun _ => neq_if_nil_nil Tryd.underlying39) rfl ?_
  refine JL_nil ?_
  refine JQ_then ?_
  refine JC_condF _ rfl rfl ?_
  refine JC_skip ?_
  refine JQ_then ?_
  refine JC_seq ?_
  refine JC_region ?_
  refine JL_val _ (Ev_move rfl) rfl ?_
  refine JL_step (Step_callP 23 [.slice az n cz] (.agg (cu8 (sumG constL initL z)).toArray) (Cl_func [.slice az n cz] Tryd.call23 rfl) (fun w1 hw1 => sum_c az n cz z w1 hz (fun h => by rw [h] at ha; cases ha) (by omega) (hr.at (M' := []) hw1 (by simp)) (hG.at hw1))) rfl ?_
  rintro v1 L1 ⟨rfl, rfl⟩
  show JL _ _ _ _ ((11, .agg (cu8 (sumG constL initL z)).toArray) :: _) [⟨nb1, cu8 (zr8 32), 25, (0, 0)⟩]
  refine JL_step (Step_store 0 nb1 0 32 (cu8 (zr8 32)) 25 (.agg (cu8 (sumG constL initL z)).toArray) (cu8 (sumG constL initL z)) (cu8 (sumG constL initL z)) rfl rfl rfl (by first | rfl | simp) Tryd.sizeOf25 (len_cu8 (sumG_len _ _ _)) (by first | exact one_u8 | exact one_u32 | exact one_u64 | (simp [cu8, cu32, cu64, Value.oneCell']; done)) (by simp [(zr8_len 32)]) (lay_whole (by simp [(zr8_len 32), (sumG_len _ _ _)]))) rfl ?_
  rintro v1 L1 ⟨rfl, rfl⟩
  show JL _ _ _ _ _ [⟨nb1, cu8 (sumG constL initL z), 25, (0, 0)⟩]
  refine JL_val _ (Ev_assign rfl) rfl ?_
  refine JL_nil ?_
  refine JQ_then ?_
  refine JC_ret ?_
  refine JQ_ret (.tuple #[.agg (cu8 (sumG constL initL z)).toArray, .nilIface]) (res2 Tryd.results110 (RV_cell rfl (Ld_agg Tryd.isAgg25 Tryd.sizeOf25 (len_cu8 (sumG_len _ _ _)) (MemAt.ent 0 rfl (Seg.whole _)))) (RV_tmp rfl)) fun w1 hw1 => ?_
  exact ⟨_, [], rfl, ⟨rfl, rfl⟩, hw1.sub (by simp) (by simp)⟩

theorem join_n_c (h : Nat) (l r : List UInt8) (w : World) (hl : l.length = 32) (hr : r.length = 32) (h1 : 1 ≤ h) (h2 : h ≤ 32) (hG : GLs w) : Calls Tryd.prog 70 #[I64 ((h:Int)), .agg (cu8 l).toArray, .agg (cu8 r).toArray] w (Post w [] (fun v L => v = .tuple #[.agg (cu8 (sumG constL initL (joinT h l r))).toArray, .nilIface] ∧ L = [])) := by
  refine enter w [] 17 [] [I64 ((h:Int)), .agg (cu8 l).toArray, .agg (cu8 r).toArray] Tryd.func70 rfl rfl (by simp) (Hp.start (by simp) (by simp) (by simp)) ?_
  show JC _ _ _ [(0, I64 ((h:Int))), (1, .agg (cu8 l).toArray), (2, .agg (cu8 r).toArray)] _
  refine JC_seq ?_
  refine JC_region ?_
  refine JL_step (Step_box (.agg (cu8 l).toArray) (cu8 l) rfl (by first | rfl | simp)) rfl ?_
  rintro v1 L1 ⟨nb1, hnb1, rfl, rfl⟩
  show JL _ _ _ _ ((4, Ptr nb1 0) :: _) [⟨nb1, cu8 l, 25, (0, 0)⟩]
  refine JL_step (Step_box (.agg (cu8 r).toArray) (cu8 r) rfl (by first | rfl | simp)) rfl ?_
  rintro v1 L1 ⟨nb2, hnb2, rfl, rfl⟩
  show JL _ _ _ _ ((5, Ptr nb2 0) :: _) [⟨nb1, cu8 l, 25, (0, 0)⟩, ⟨nb2, cu8 r, 25, (0, 0)⟩]
  refine JL_step (Step_alloc _ (cu8 (zr8 32)) Tryd.zeroValue25 (by kernel_rfl)) rfl ?_
  rintro v1 L1 ⟨nb3, hnb3, rfl, rfl⟩
  show JL _ _ _ _ ((6, Ptr nb3 0) :: _) [⟨nb1, cu8 l, 25, (0, 0)⟩, ⟨nb2, cu8 r, 25, (0, 0)⟩, ⟨nb3, cu8 (zr8 32), 25, (0, 0)⟩]
  refine JL_val _ (Ev_assign rfl) rfl ?_
  refine JL_nil ?_
  refine JQ_then ?_
  refine JC_seq ?_
  refine JC_region ?_
  refine JL_val _ (Ev_move rfl) rfl ?_
  refine JL_val (.agg (cu8 l).toArray) (Ev_load rfl (Ld_agg Tryd.isAgg25 Tryd.sizeOf25 (len_cu8 hl) (MemAt.ent 0 rfl (Seg.whole _)))) rfl ?_
  refine JL_val (.agg (cu8 r).toArray) (Ev_load rfl (Ld_agg Tryd.isAgg25 Tryd.sizeOf25 (len_cu8 hr) (MemAt.ent 1 rfl (Seg.whole _)))) rfl ?_
  refine JL_step (Step_callN 71 [I64 ((h:Int)), .agg (cu8 l).toArray, .agg (cu8 r).toArray] _ (Cl_func [I64 ((h:Int)), .agg (cu8 l).toArray, .agg (cu8 r).toArray] Tryd.call71 rfl) (fun w1 hw1 => joinText_c h l r w1 hl hr (by omega) (by omega))) rfl ?_
  rintro v1 L1 ⟨_, ⟨nb4, sp1, cp1, rfl, rfl, hc1, hc2, hc3⟩, rfl⟩
  show JL _ _ _ _ ((11, .tuple #[Slc nb4 0 66 cp1, .nilIface]) :: _) [⟨nb1, cu8 l, 25, (0, 0)⟩, ⟨nb2, cu8 r, 25, (0, 0)⟩, ⟨nb3, cu8 (zr8 32), 25, (0, 0)⟩, ⟨nb4, cu8 (joinT h l r) ++ sp1, 5, (0, 0)⟩]
  refine JL_val _ (Ev_extract rfl rfl) rfl ?_
  refine JL_val _ (Ev_extract rfl rfl) rfl ?_
  refine JL_step (Step_callP 110 [Slc nb4 0 66 cp1, .nilIface] (.tuple #[.agg (cu8 (sumG constL initL (joinT h l r))).toArray, .nilIface]) (Cl_func [Slc nb4 0 66 cp1, .nilIface] Tryd.call110 rfl) (fun w1 hw1 => hashed_c (some ⟨nb4, 0, none⟩) 66 cp1 (joinT h l r) w1 rfl (show (joinT h l r).length = 66 from (joinT_len hl hr)) (by omega) (RdB.of hw1 (MemAt.ent 3 rfl (Seg.left (Seg.whole _))) (by simp)) (hG.at hw1))) rfl ?_
  rintro v1 L1 ⟨rfl, rfl⟩
  show JL _ _ _ _ ((14, .tuple #[.agg (cu8 (sumG constL initL (joinT h l r))).toArray, .nilIface]) :: _) [⟨nb1, cu8 l, 25, (0, 0)⟩, ⟨nb2, cu8 r, 25, (0, 0)⟩, ⟨nb3, cu8 (zr8 32), 25, (0, 0)⟩, ⟨nb4, cu8 (joinT h l r) ++ sp1, 5, (0, 0)⟩]
  refine JL_val _ (Ev_extract rfl rfl) rfl ?_
  refine JL_val _ (Ev_extract rfl rfl) rfl ?_
  refine JL_step (Step_store 2 nb3 0 32 (cu8 (zr8 32)) 25 (.agg (cu8 (sumG constL initL (joinT h l r))).toArray) (cu8 (sumG constL initL (joinT h l r))) (cu8 (sumG constL initL (joinT h l r))) rfl rfl rfl (by first | rfl | simp) Tryd.sizeOf25 (len_cu8 (sumG_len _ _ _)) (by first | exact one_u8 | exact one_u32 | exact one_u64 | (simp [cu8, cu32, cu64, Value.oneCell']; done)) (by simp [(zr8_len 32)]) (lay_whole (by simp [(zr8_len 32), (sumG_len _ _ _)]))) rfl ?_
  rintro v1 L1 ⟨rfl, rfl⟩
  show JL _ _ _ _ _ [⟨nb1, cu8 l, 25, (0, 0)⟩, ⟨nb2, cu8 r, 25, (0, 0)⟩, ⟨nb3, cu8 (sumG constL initL (joinT h l r)), 25, (0, 0)⟩, ⟨nb4, cu8 (joinT h l r) ++ sp1, 5, (0, 0)⟩]
  refine JL_val _ (Ev_assign rfl) rfl ?_
  refine JL_nil ?_
  refine JQ_then ?_
  refine JC_ret ?_
  refine K_mask [false, false, true, false] ?_
  show JQ _ _ _ _ [⟨nb3, cu8 (sumG constL initL (joinT h l r)), 25, (0, 0)⟩]
  refine JQ_ret (.tuple #[.agg (cu8 (sumG constL initL (joinT h l r))).toArray, .nilIface]) (res2 Tryd.results70 (RV_cell rfl (Ld_agg Tryd.isAgg25 Tryd.sizeOf25 (len_cu8 (sumG_len _ _ _)) (MemAt.ent 0 rfl (Seg.whole _)))) (RV_tmp rfl)) fun w1 hw1 => ?_
  exact ⟨_, [], rfl, ⟨rfl, rfl⟩, hw1.sub (by simp) (by simp)⟩

end Go.Proofs.YtncoifiafklkjaaDoor
