import Derived.Test.YtncoifiafklkjaaDoorPkApart2
namespace Go.Proofs.YtncoifiafklkjaaDoor
open Go Go.Sx
set_option linter.unusedVariables false
set_option linter.unusedSimpArgs false
set_option maxRecDepth 100000
attribute [local irreducible] mid zr8 zr32 numK valK rotr wordL spreadL comprL cpN adN spN constL initL padL stN outN sumG putL leafT joinT empL empA kindN
theorem empties_c  (w : World) (hG : GLs w) : Calls Tryd.prog 77 #[] w (Post w [] (fun v L => v = .agg (cu8 (empA 32)).toArray ∧ L = [])) := by
  refine enter w [] 31 [] [] Tryd.func77 rfl rfl (by simp) (Hp.start (by simp) (by simp) (by simp)) ?_
  show JC _ _ _ [] _
  refine JC_seq ?_
  refine JC_region ?_
  refine JL_step (Step_alloc _ (cu8 (zr8 1056)) Tryd.zeroValue111 (by kernel_rfl)) rfl ?_
  rintro v1 L1 ⟨nb1, hnb1, rfl, rfl⟩
  show JL _ _ _ _ ((0, Ptr nb1 0) :: _) [⟨nb1, cu8 (zr8 1056), 111, (0, 0)⟩]
  refine JL_nil ?_
  refine JQ_then ?_
  refine JC_seq ?_
  refine JC_region ?_
  refine JL_step (Step_buildSlice 5 1 _ [(0, U8 (0:UInt8))] (cu8 ([(0:UInt8)])) Tryd.underlying22 Tryd.sizeOf5 Tryd.zeroValue5 rfl rfl rfl (by kernel_rfl)) rfl ?_
  rintro v1 L1 ⟨nb2, hnb2, rfl, rfl⟩
  show JL _ _ _ _ ((5, Slc nb2 0 1 1) :: _) [⟨nb1, cu8 (zr8 1056), 111, (0, 0)⟩, ⟨nb2, cu8 ([(0:UInt8)]), 5, (0, 0)⟩]
  refine JL_step (Step_callP 23 [Slc nb2 0 1 1] (.agg (cu8 (sumG constL initL ([(0:UInt8)]))).toArray) (Cl_func [Slc nb2 0 1 1] Tryd.call23 rfl) (fun w1 hw1 => sum_c (some ⟨nb2, 0, none⟩) 1 1 ([(0:UInt8)]) w1 rfl (fun h => by cases h) (by omega) (RdB.of hw1 (MemAt.ent 1 rfl (Seg.whole _)) (by simp)) (hG.at hw1))) rfl ?_
  rintro v1 L1 ⟨rfl, rfl⟩
  show JL _ _ _ _ ((6, .agg (cu8 (sumG constL initL ([(0:UInt8)]))).toArray) :: _) [⟨nb1, cu8 (zr8 1056), 111, (0, 0)⟩, ⟨nb2, cu8 ([(0:UInt8)]), 5, (0, 0)⟩]
  have hl1 : (spl (zr8 1056) 0 (sumG constL initL ([(0:UInt8)]))).length = 1056 := (spl_len (by rw [zr8_len, show (sumG constL initL ([(0:UInt8)])).length = 32 from (sumG_len _ _ _)]; omega)).trans (zr8_len 1056)
  refine JL_val (.agg (cu8 (spl (zr8 1056) 0 (sumG constL initL ([(0:UInt8)])))).toArray) (Ev_build [(0, .agg (cu8 (sumG constL initL ([(0:UInt8)]))).toArray)] _ rfl (fun _ => run_build_array (z := .agg (cu8 (zr8 1056)).toArray) (fun _ => by kernel_rfl) Tryd.underlying111 Tryd.sizeOf25 (fill_first (sumG_len _ _ _) (by decide)))) rfl ?_
  refine JL_step (Step_alloc _ (cu8 (zr8 1056)) Tryd.zeroValue111 (by kernel_rfl)) rfl ?_
  rintro v1 L1 ⟨nb3, hnb3, rfl, rfl⟩
  show JL _ _ _ _ ((1, Ptr nb3 0) :: _) [⟨nb1, cu8 (zr8 1056), 111, (0, 0)⟩, ⟨nb2, cu8 ([(0:UInt8)]), 5, (0, 0)⟩, ⟨nb3, cu8 (zr8 1056), 111, (0, 0)⟩]
  refine JL_step (Step_store 2 nb3 0 1056 (cu8 (zr8 1056)) 111 (.agg (cu8 (spl (zr8 1056) 0 (sumG constL initL ([(0:UInt8)])))).toArray) (cu8 (spl (zr8 1056) 0 (sumG constL initL ([(0:UInt8)])))) (cu8 (spl (zr8 1056) 0 (sumG constL initL ([(0:UInt8)])))) rfl rfl rfl (by first | rfl | simp) Tryd.sizeOf111 (len_cu8 hl1) (by first | exact one_u8 | exact one_u32 | exact one_u64 | (simp [cu8, cu32, cu64, Value.oneCell']; done)) (by simp [(zr8_len 1056)]) (lay_whole (by simp [(zr8_len 1056), hl1]))) rfl ?_
  rintro v1 L1 ⟨rfl, rfl⟩
  show JL _ _ _ _ _ [⟨nb1, cu8 (zr8 1056), 111, (0, 0)⟩, ⟨nb2, cu8 ([(0:UInt8)]), 5, (0, 0)⟩, ⟨nb3, cu8 (spl (zr8 1056) 0 (sumG constL initL ([(0:UInt8)]))), 111, (0, 0)⟩]
  refine JL_nil ?_
  refine JQ_then ?_
  refine JC_seq ?_
  refine JC_seq ?_
  refine JC_region ?_
  refine JL_val _ (Ev_assign rfl) rfl ?_
  refine JL_nil ?_
  refine JQ_then ?_
  refine JC_block ?_
  refine K_mask [true, false, true] ?_
  show JC _ _ _ _ [⟨nb1, cu8 (zr8 1056), 111, (0, 0)⟩, ⟨nb3, cu8 (spl (zr8 1056) 0 (sumG constL initL ([(0:UInt8)]))), 111, (0, 0)⟩]
  refine JC_loop (ι := Nat × List UInt8) (fun ⟨q, A⟩ => [(0, Ptr nb1 0), (1, Ptr nb3 0), (2, I64 ((q:Int) + 1))]) (fun ⟨q, A⟩ => [⟨nb1, cu8 (zr8 1056), 111, (0, 0)⟩, ⟨nb3, cu8 A, 111, (0, 0)⟩]) (fun ⟨q, A⟩ => q ≤ 32 ∧ A = empA q ∧ A.length = 1056) (fun ⟨q, A⟩ => 32 - q) (0, spl (zr8 1056) 0 (sumG constL initL ([(0:UInt8)]))) ⟨by omega, by rw [empA_zero], hl1⟩ (Sub.cons rfl (Sub.cons rfl (Sub.cons rfl (Sub.nil)))) rfl ?_
  rintro ⟨q, A⟩ ⟨hx1, hx2, hA⟩
  show JC _ _ _ [(0, Ptr nb1 0), (1, Ptr nb3 0), (2, I64 ((q:Int) + 1))] [⟨nb1, cu8 (zr8 1056), 111, (0, 0)⟩, ⟨nb3, cu8 A, 111, (0, 0)⟩]
  refine JC_seq ?_
  refine JC_seq ?_
  refine JC_region ?_
  refine JL_val _ (Ev_move rfl) rfl ?_
  refine JL_val (.bool (decide (((q:Int) + 1) < (33:Int)))) (Ev_bini rfl rfl fun _ => bin_lss_i _ _) rfl ?_
  refine JL_nil ?_
  refine JQ_then ?_
  refine JC_cond (decide (((q:Int) + 1) < (33:Int))) rfl (fun hb1 => ?_) (fun hb1 => ?_)
  ·
    have hp1 : ((q:Int) + 1) < (33:Int) := of_decide_eq_true hb1
    refine JC_skip ?_
    refine JQ_then ?_
    refine JC_seq ?_
    refine JC_block ?_
    refine JC_seq ?_
    have hl2 : (mid A (32*q) 32).length = 32 := mid_len (by rw [hA]; omega)
    have hl3 : (mid A (32*q) 32).length = 32 := mid_len (by rw [hA]; omega)
    refine JC_draw 31 4 [(0, I64 ((q:Int) + 1)), (1, I64 ((q:Int) + 1)), (2, I64 ((q:Int))), (3, Ptr nb3 (32*q)), (4, .agg (cu8 (mid A (32*q) 32)).toArray), (5, I64 ((q:Int) + 1)), (6, I64 ((q:Int))), (7, Ptr nb3 (32*q)), (8, .agg (cu8 (mid A (32*q) 32)).toArray)] Tryd.mixed rfl (by decide +kernel) ?_
    have hl4 : (mid A (32*q) 32).length = 32 := mid_len (by rw [hA]; omega)
    have hl5 : (mid A (32*q) 32).length = 32 := mid_len (by rw [hA]; omega)
    refine DP_two ⟨[], [0, 1, 2, 3, 4, 5, 6, 7, 8], [], [0, 1, 2, 3, 4, 5, 6, 7, 8], [9, 13]⟩ 9 13 _ _ rfl rfl (by decide +kernel) rfl ⟨⟨_, rfl, Qok_val rfl (Ev_move rfl)⟩, ⟨_, rfl, Qok_val rfl (Ev_move rfl)⟩, ⟨_, rfl, Qok_val rfl (Ev_bini rfl rfl fun _ => bin_sub_i _ _ ((q:Int)) (by omega) (by omega))⟩, ⟨_, rfl, Qok_val rfl (Ev_indexArr 33 25 32 (32*q) Tryd.underlying111 Tryd.sizeOf25 rfl rfl (by omega) (by omega) (by omega))⟩, ⟨_, rfl, Qok_val rfl (Ev_load rfl (Ld_agg Tryd.isAgg25 Tryd.sizeOf25 (len_cu8 hl4) (MemAt.ent 1 rfl (segm_u8 (32*q) 32 (by rw [hA]; omega)))))⟩, ⟨_, rfl, Qok_val rfl (Ev_move rfl)⟩, ⟨_, rfl, Qok_val rfl (Ev_bini rfl rfl fun _ => bin_sub_i _ _ ((q:Int)) (by omega) (by omega))⟩, ⟨_, rfl, Qok_val rfl (Ev_indexArr 33 25 32 (32*q) Tryd.underlying111 Tryd.sizeOf25 rfl rfl (by omega) (by omega) (by omega))⟩, ⟨_, rfl, Qok_val rfl (Ev_load rfl (Ld_agg Tryd.isAgg25 Tryd.sizeOf25 (len_cu8 hl5) (MemAt.ent 1 rfl (segm_u8 (32*q) 32 (by rw [hA]; omega)))))⟩, trivial⟩ rfl rfl (Cok_step rfl (Step_callP 70 [I64 ((q:Int) + 1), .agg (cu8 (mid A (32*q) 32)).toArray, .agg (cu8 (mid A (32*q) 32)).toArray] (.tuple #[.agg (cu8 (sumG constL initL (joinT (q + 1) (mid A (32*q) 32) (mid A (32*q) 32)))).toArray, .nilIface]) (Cl_func [I64 ((q:Int) + 1), .agg (cu8 (mid A (32*q) 32)).toArray, .agg (cu8 (mid A (32*q) 32)).toArray] Tryd.call70 rfl) (fun w1 hw1 => join_n_c (q + 1) (mid A (32*q) 32) (mid A (32*q) 32) w1 hl2 hl3 (by omega) (by omega) (hG.at hw1)))) (Cok_step rfl (Step_alloc _ (cu8 (zr8 32)) Tryd.zeroValue25 (by kernel_rfl))) ?_ ?_
    ·
      rintro v1 L1 ⟨rfl, rfl⟩
      refine ⟨[(10, .tuple #[.agg (cu8 (sumG constL initL (joinT (q + 1) (mid A (32*q) 32) (mid A (32*q) 32)))).toArray, .nilIface]), (11, .agg (cu8 (sumG constL initL (joinT (q + 1) (mid A (32*q) 32) (mid A (32*q) 32)))).toArray), (12, .nilIface)], ?_⟩
      show DP _ _ _ _ _ _ _ _ [⟨nb1, cu8 (zr8 1056), 111, (0, 0)⟩, ⟨nb3, cu8 A, 111, (0, 0)⟩]
      refine DP_one ⟨[9], [0, 1, 2, 3, 4, 5, 6, 7, 8, 10, 11, 12], [0, 1, 2, 3, 4, 5, 6, 7, 8], [10, 11, 12], [13]⟩ 13 _ rfl rfl (by decide +kernel) rfl ⟨⟨_, rfl, Qok_val rfl (Ev_move rfl)⟩, ⟨_, rfl, Qok_val rfl (Ev_extract rfl rfl)⟩, ⟨_, rfl, Qok_val rfl (Ev_extract rfl rfl)⟩, trivial⟩ rfl (Cok_step rfl (Step_alloc _ (cu8 (zr8 32)) Tryd.zeroValue25 (by kernel_rfl))) ?_
      rintro v1 L1 ⟨nb5, hnb5, rfl, rfl⟩
      refine ⟨[], ?_⟩
      show DP _ _ _ _ _ _ _ _ [⟨nb1, cu8 (zr8 1056), 111, (0, 0)⟩, ⟨nb3, cu8 A, 111, (0, 0)⟩, ⟨nb5, cu8 (zr8 32), 25, (0, 0)⟩]
      refine DP_one ⟨[9, 13], [0, 1, 2, 3, 4, 5, 6, 7, 8, 10, 11, 12], [0, 1, 2, 3, 4, 5, 6, 7, 8], [10, 11, 12], [14]⟩ 14 _ rfl rfl (by decide +kernel) rfl ⟨⟨_, rfl, Qok_val rfl (Ev_move rfl)⟩, ⟨_, rfl, Qok_val rfl (Ev_extract rfl rfl)⟩, ⟨_, rfl, Qok_val rfl (Ev_extract rfl rfl)⟩, trivial⟩ rfl (Cok_step rfl (Step_store 2 nb5 0 32 (cu8 (zr8 32)) 25 (.agg (cu8 (sumG constL initL (joinT (q + 1) (mid A (32*q) 32) (mid A (32*q) 32)))).toArray) (cu8 (sumG constL initL (joinT (q + 1) (mid A (32*q) 32) (mid A (32*q) 32)))) (cu8 (sumG constL initL (joinT (q + 1) (mid A (32*q) 32) (mid A (32*q) 32)))) rfl rfl rfl (by first | rfl | simp) Tryd.sizeOf25 (len_cu8 (sumG_len _ _ _)) (by first | exact one_u8 | exact one_u32 | exact one_u64 | (simp [cu8, cu32, cu64, Value.oneCell']; done)) (by simp [(zr8_len 32)]) (lay_whole (by simp [(zr8_len 32), (sumG_len _ _ _)])))) ?_
      rintro v1 L1 ⟨rfl, rfl⟩
      refine ⟨[(15, .nilIface)], ?_⟩
      show DP _ _ _ _ _ _ _ _ [⟨nb1, cu8 (zr8 1056), 111, (0, 0)⟩, ⟨nb3, cu8 A, 111, (0, 0)⟩, ⟨nb5, cu8 (sumG constL initL (joinT (q + 1) (mid A (32*q) 32) (mid A (32*q) 32))), 25, (0, 0)⟩]
      refine DP_end ⟨[9, 13, 14], [0, 1, 2, 3, 4, 5, 6, 7, 8, 10, 11, 12, 15], [0, 1, 2, 3, 4, 5, 6, 7, 8, 10, 11], [12, 15], []⟩ rfl rfl (by decide +kernel) rfl ⟨⟨_, rfl, Qok_val rfl (Ev_extract rfl rfl)⟩, ⟨_, rfl, Qok_val rfl (Ev_assign rfl)⟩, trivial⟩ ?_
      refine K_sub (F' := [(13, I64 ((q:Int) + 1)), (14, I64 ((q:Int) + 1)), (15, I64 ((q:Int))), (16, Ptr nb3 (32*q)), (17, .agg (cu8 (mid A (32*q) 32)).toArray), (18, I64 ((q:Int) + 1)), (19, I64 ((q:Int))), (20, Ptr nb3 (32*q)), (21, .agg (cu8 (mid A (32*q) 32)).toArray), (22, .tuple #[.agg (cu8 (sumG constL initL (joinT (q + 1) (mid A (32*q) 32) (mid A (32*q) 32)))).toArray, .nilIface]), (12, .tuple #[.agg (cu8 (sumG constL initL (joinT (q + 1) (mid A (32*q) 32) (mid A (32*q) 32)))).toArray, .nilIface]), (23, .agg (cu8 (sumG constL initL (joinT (q + 1) (mid A (32*q) 32) (mid A (32*q) 32)))).toArray), (24, .nilIface), (3, Ptr nb5 0), (4, .nilIface), (0, Ptr nb1 0), (1, Ptr nb3 0), (2, I64 ((q:Int) + 1)), (8, I64 ((q:Int) + 1)), (9, .bool (decide (((q:Int) + 1) < (33:Int))))]) (Sub.cons (by kernel_rfl) (Sub.cons (by kernel_rfl) (Sub.cons (by kernel_rfl) (Sub.cons (by kernel_rfl) (Sub.cons (by kernel_rfl) (Sub.cons (by kernel_rfl) (Sub.cons (by kernel_rfl) (Sub.cons (by kernel_rfl) (Sub.cons (by kernel_rfl) (Sub.cons (by kernel_rfl) (Sub.cons (by kernel_rfl) (Sub.cons (by kernel_rfl) (Sub.cons (by kernel_rfl) (Sub.cons (by kernel_rfl) (Sub.cons (by kernel_rfl) (Sub.cons (by kernel_rfl) (Sub.cons (by kernel_rfl) (Sub.cons (by kernel_rfl) (Sub.cons (by kernel_rfl) (Sub.cons (by kernel_rfl) (Sub.nil))))))))))))))))))))) ?_
      show JQ _ _ _ [(13, I64 ((q:Int) + 1)), (14, I64 ((q:Int) + 1)), (15, I64 ((q:Int))), (16, Ptr nb3 (32*q)), (17, .agg (cu8 (mid A (32*q) 32)).toArray), (18, I64 ((q:Int) + 1)), (19, I64 ((q:Int))), (20, Ptr nb3 (32*q)), (21, .agg (cu8 (mid A (32*q) 32)).toArray), (22, .tuple #[.agg (cu8 (sumG constL initL (joinT (q + 1) (mid A (32*q) 32) (mid A (32*q) 32)))).toArray, .nilIface]), (12, .tuple #[.agg (cu8 (sumG constL initL (joinT (q + 1) (mid A (32*q) 32) (mid A (32*q) 32)))).toArray, .nilIface]), (23, .agg (cu8 (sumG constL initL (joinT (q + 1) (mid A (32*q) 32) (mid A (32*q) 32)))).toArray), (24, .nilIface), (3, Ptr nb5 0), (4, .nilIface), (0, Ptr nb1 0), (1, Ptr nb3 0), (2, I64 ((q:Int) + 1)), (8, I64 ((q:Int) + 1)), (9, .bool (decide (((q:Int) + 1) < (33:Int))))] _
      refine JQ_then ?_
      refine JC_seq ?_
      refine JC_seq ?_
      refine JC_region ?_
      refine JL_val _ (Ev_move rfl) rfl ?_
      refine JL_val (.bool false) (Ev_bin _ _ _ rfl rfl (fun _ => eqGuard_nn ..) fun _ => neq_if_nil_nil Tryd.underlying39) rfl ?_
      refine JL_nil ?_
      refine JQ_then ?_
      refine JC_condF _ rfl rfl ?_
      refine JC_skip ?_
      refine JQ_then ?_
      refine JC_region ?_
      refine JL_val _ (Ev_move rfl) rfl ?_
      refine JL_val (.agg (cu8 (sumG constL initL (joinT (q + 1) (mid A (32*q) 32) (mid A (32*q) 32)))).toArray) (Ev_load rfl (Ld_agg Tryd.isAgg25 Tryd.sizeOf25 (len_cu8 (sumG_len _ _ _)) (MemAt.ent 2 rfl (Seg.whole _)))) rfl ?_
      refine JL_val (Ptr nb3 (32*q + 32)) (Ev_indexArr 33 25 32 (32*q + 32) Tryd.underlying111 Tryd.sizeOf25 rfl rfl (by omega) (by omega) (by omega)) rfl ?_
      have hl6 : (spl A (32*q + 32) (sumG constL initL (joinT (q + 1) (mid A (32*q) 32) (mid A (32*q) 32)))).length = 1056 := by rw [spl_len (by simp [hA, (sumG_len _ _ _)]; omega)]; simp [hA, (sumG_len _ _ _)]
      refine JL_step (Step_store 1 nb3 (32*q + 32) 32 (cu8 A) 111 (.agg (cu8 (sumG constL initL (joinT (q + 1) (mid A (32*q) 32) (mid A (32*q) 32)))).toArray) (cu8 (sumG constL initL (joinT (q + 1) (mid A (32*q) 32) (mid A (32*q) 32)))) (cu8 (spl A (32*q + 32) (sumG constL initL (joinT (q + 1) (mid A (32*q) 32) (mid A (32*q) 32))))) rfl rfl rfl (by first | rfl | simp) Tryd.sizeOf25 (len_cu8 (sumG_len _ _ _)) (by first | exact one_u8 | exact one_u32 | exact one_u64 | (simp [cu8, cu32, cu64, Value.oneCell']; done)) (by simp [hA]; try omega) (laySpl8 _ _ _ (by simp [hA, (sumG_len _ _ _)]; omega))) rfl ?_
      rintro v1 L1 ⟨rfl, rfl⟩
      show JL _ _ _ _ _ [⟨nb1, cu8 (zr8 1056), 111, (0, 0)⟩, ⟨nb3, cu8 (spl A (32*q + 32) (sumG constL initL (joinT (q + 1) (mid A (32*q) 32) (mid A (32*q) 32)))), 111, (0, 0)⟩, ⟨nb5, cu8 (sumG constL initL (joinT (q + 1) (mid A (32*q) 32) (mid A (32*q) 32))), 25, (0, 0)⟩]
      refine JL_nil ?_
      refine JQ_in_normal ?_
      refine JQ_then ?_
      refine JC_region ?_
      refine JL_val _ (Ev_move rfl) rfl ?_
      refine JL_val (I64 ((q:Int) + 2)) (Ev_bini rfl rfl fun _ => bin_add_i _ _ ((q:Int) + 2) (by omega) (by omega)) rfl ?_
      refine JL_val _ (Ev_assign rfl) rfl ?_
      refine JL_nil ?_
      refine JQ_thenK ?_
      refine K_mask [true, true, false] ?_
      show K _ _ [⟨nb1, cu8 (zr8 1056), 111, (0, 0)⟩, ⟨nb3, cu8 (spl A (32*q + 32) (sumG constL initL (joinT (q + 1) (mid A (32*q) 32) (mid A (32*q) 32)))), 111, (0, 0)⟩] _
      refine K_next (q + 1, spl A (32*q + 32) (sumG constL initL (joinT (q + 1) (mid A (32*q) 32) (mid A (32*q) 32)))) ⟨by omega, by rw [hx2]; exact empA_step (by omega), hl6⟩ (by first | (simp; omega) | simp | (dsimp only; omega) | omega) (Sub.cons rfl (Sub.cons rfl (Sub.cons (some_i64 (by omega)) (Sub.nil)))) rfl
    ·
      rintro v1 L1 ⟨nb4, hnb4, rfl, rfl⟩
      refine ⟨[], ?_⟩
      show DP _ _ _ _ _ _ _ _ [⟨nb1, cu8 (zr8 1056), 111, (0, 0)⟩, ⟨nb3, cu8 A, 111, (0, 0)⟩, ⟨nb4, cu8 (zr8 32), 25, (0, 0)⟩]
      have hl7 : (mid A (32*q) 32).length = 32 := mid_len (by rw [hA]; omega)
      have hl8 : (mid A (32*q) 32).length = 32 := mid_len (by rw [hA]; omega)
      refine DP_one ⟨[13], [0, 1, 2, 3, 4, 5, 6, 7, 8], [], [0, 1, 2, 3, 4, 5, 6, 7, 8], [9]⟩ 9 _ rfl rfl (by decide +kernel) rfl ⟨⟨_, rfl, Qok_val rfl (Ev_move rfl)⟩, ⟨_, rfl, Qok_val rfl (Ev_move rfl)⟩, ⟨_, rfl, Qok_val rfl (Ev_bini rfl rfl fun _ => bin_sub_i _ _ ((q:Int)) (by omega) (by omega))⟩, ⟨_, rfl, Qok_val rfl (Ev_indexArr 33 25 32 (32*q) Tryd.underlying111 Tryd.sizeOf25 rfl rfl (by omega) (by omega) (by omega))⟩, ⟨_, rfl, Qok_val rfl (Ev_load rfl (Ld_agg Tryd.isAgg25 Tryd.sizeOf25 (len_cu8 hl7) (MemAt.ent 1 rfl (segm_u8 (32*q) 32 (by rw [hA]; omega)))))⟩, ⟨_, rfl, Qok_val rfl (Ev_move rfl)⟩, ⟨_, rfl, Qok_val rfl (Ev_bini rfl rfl fun _ => bin_sub_i _ _ ((q:Int)) (by omega) (by omega))⟩, ⟨_, rfl, Qok_val rfl (Ev_indexArr 33 25 32 (32*q) Tryd.underlying111 Tryd.sizeOf25 rfl rfl (by omega) (by omega) (by omega))⟩, ⟨_, rfl, Qok_val rfl (Ev_load rfl (Ld_agg Tryd.isAgg25 Tryd.sizeOf25 (len_cu8 hl8) (MemAt.ent 1 rfl (segm_u8 (32*q) 32 (by rw [hA]; omega)))))⟩, trivial⟩ rfl (Cok_step rfl (Step_callP 70 [I64 ((q:Int) + 1), .agg (cu8 (mid A (32*q) 32)).toArray, .agg (cu8 (mid A (32*q) 32)).toArray] (.tuple #[.agg (cu8 (sumG constL initL (joinT (q + 1) (mid A (32*q) 32) (mid A (32*q) 32)))).toArray, .nilIface]) (Cl_func [I64 ((q:Int) + 1), .agg (cu8 (mid A (32*q) 32)).toArray, .agg (cu8 (mid A (32*q) 32)).toArray] Tryd.call70 rfl) (fun w1 hw1 => join_n_c (q + 1) (mid A (32*q) 32) (mid A (32*q) 32) w1 hl2 hl3 (by omega) (by omega) (hG.at hw1)))) ?_
      rintro v1 L1 ⟨rfl, rfl⟩
      refine ⟨[(10, .tuple #[.agg (cu8 (sumG constL initL (joinT (q + 1) (mid A (32*q) 32) (mid A (32*q) 32)))).toArray, .nilIface]), (11, .agg (cu8 (sumG constL initL (joinT (q + 1) (mid A (32*q) 32) (mid A (32*q) 32)))).toArray), (12, .nilIface)], ?_⟩
      show DP _ _ _ _ _ _ _ _ [⟨nb1, cu8 (zr8 1056), 111, (0, 0)⟩, ⟨nb3, cu8 A, 111, (0, 0)⟩, ⟨nb4, cu8 (zr8 32), 25, (0, 0)⟩]
      refine DP_one ⟨[13, 9], [0, 1, 2, 3, 4, 5, 6, 7, 8, 10, 11, 12], [0, 1, 2, 3, 4, 5, 6, 7, 8], [10, 11, 12], [14]⟩ 14 _ rfl rfl (by decide +kernel) rfl ⟨⟨_, rfl, Qok_val rfl (Ev_move rfl)⟩, ⟨_, rfl, Qok_val rfl (Ev_extract rfl rfl)⟩, ⟨_, rfl, Qok_val rfl (Ev_extract rfl rfl)⟩, trivial⟩ rfl (Cok_step rfl (Step_store 2 nb4 0 32 (cu8 (zr8 32)) 25 (.agg (cu8 (sumG constL initL (joinT (q + 1) (mid A (32*q) 32) (mid A (32*q) 32)))).toArray) (cu8 (sumG constL initL (joinT (q + 1) (mid A (32*q) 32) (mid A (32*q) 32)))) (cu8 (sumG constL initL (joinT (q + 1) (mid A (32*q) 32) (mid A (32*q) 32)))) rfl rfl rfl (by first | rfl | simp) Tryd.sizeOf25 (len_cu8 (sumG_len _ _ _)) (by first | exact one_u8 | exact one_u32 | exact one_u64 | (simp [cu8, cu32, cu64, Value.oneCell']; done)) (by simp [(zr8_len 32)]) (lay_whole (by simp [(zr8_len 32), (sumG_len _ _ _)])))) ?_
      rintro v1 L1 ⟨rfl, rfl⟩
      refine ⟨[(15, .nilIface)], ?_⟩
      show DP _ _ _ _ _ _ _ _ [⟨nb1, cu8 (zr8 1056), 111, (0, 0)⟩, ⟨nb3, cu8 A, 111, (0, 0)⟩, ⟨nb4, cu8 (sumG constL initL (joinT (q + 1) (mid A (32*q) 32) (mid A (32*q) 32))), 25, (0, 0)⟩]
      refine DP_end ⟨[13, 9, 14], [0, 1, 2, 3, 4, 5, 6, 7, 8, 10, 11, 12, 15], [0, 1, 2, 3, 4, 5, 6, 7, 8, 10, 11], [12, 15], []⟩ rfl rfl (by decide +kernel) rfl ⟨⟨_, rfl, Qok_val rfl (Ev_extract rfl rfl)⟩, ⟨_, rfl, Qok_val rfl (Ev_assign rfl)⟩, trivial⟩ ?_
      refine K_sub (F' := [(13, I64 ((q:Int) + 1)), (14, I64 ((q:Int) + 1)), (15, I64 ((q:Int))), (16, Ptr nb3 (32*q)), (17, .agg (cu8 (mid A (32*q) 32)).toArray), (18, I64 ((q:Int) + 1)), (19, I64 ((q:Int))), (20, Ptr nb3 (32*q)), (21, .agg (cu8 (mid A (32*q) 32)).toArray), (22, .tuple #[.agg (cu8 (sumG constL initL (joinT (q + 1) (mid A (32*q) 32) (mid A (32*q) 32)))).toArray, .nilIface]), (12, .tuple #[.agg (cu8 (sumG constL initL (joinT (q + 1) (mid A (32*q) 32) (mid A (32*q) 32)))).toArray, .nilIface]), (23, .agg (cu8 (sumG constL initL (joinT (q + 1) (mid A (32*q) 32) (mid A (32*q) 32)))).toArray), (24, .nilIface), (3, Ptr nb4 0), (4, .nilIface), (0, Ptr nb1 0), (1, Ptr nb3 0), (2, I64 ((q:Int) + 1)), (8, I64 ((q:Int) + 1)), (9, .bool (decide (((q:Int) + 1) < (33:Int))))]) (Sub.cons (by kernel_rfl) (Sub.cons (by kernel_rfl) (Sub.cons (by kernel_rfl) (Sub.cons (by kernel_rfl) (Sub.cons (by kernel_rfl) (Sub.cons (by kernel_rfl) (Sub.cons (by kernel_rfl) (Sub.cons (by kernel_rfl) (Sub.cons (by kernel_rfl) (Sub.cons (by kernel_rfl) (Sub.cons (by kernel_rfl) (Sub.cons (by kernel_rfl) (Sub.cons (by kernel_rfl) (Sub.cons (by kernel_rfl) (Sub.cons (by kernel_rfl) (Sub.cons (by kernel_rfl) (Sub.cons (by kernel_rfl) (Sub.cons (by kernel_rfl) (Sub.cons (by kernel_rfl) (Sub.cons (by kernel_rfl) (Sub.nil))))))))))))))))))))) ?_
      show JQ _ _ _ [(13, I64 ((q:Int) + 1)), (14, I64 ((q:Int) + 1)), (15, I64 ((q:Int))), (16, Ptr nb3 (32*q)), (17, .agg (cu8 (mid A (32*q) 32)).toArray), (18, I64 ((q:Int) + 1)), (19, I64 ((q:Int))), (20, Ptr nb3 (32*q)), (21, .agg (cu8 (mid A (32*q) 32)).toArray), (22, .tuple #[.agg (cu8 (sumG constL initL (joinT (q + 1) (mid A (32*q) 32) (mid A (32*q) 32)))).toArray, .nilIface]), (12, .tuple #[.agg (cu8 (sumG constL initL (joinT (q + 1) (mid A (32*q) 32) (mid A (32*q) 32)))).toArray, .nilIface]), (23, .agg (cu8 (sumG constL initL (joinT (q + 1) (mid A (32*q) 32) (mid A (32*q) 32)))).toArray), (24, .nilIface), (3, Ptr nb4 0), (4, .nilIface), (0, Ptr nb1 0), (1, Ptr nb3 0), (2, I64 ((q:Int) + 1)), (8, I64 ((q:Int) + 1)), (9, .bool (decide (((q:Int) + 1) < (33:Int))))] _
      refine JQ_then ?_
      refine JC_seq ?_
      refine JC_seq ?_
      refine JC_region ?_
      refine JL_val _ (Ev_move rfl) rfl ?_
      refine JL_val (.bool false) (Ev_bin _ _ _ rfl rfl (fun _ => eqGuard_nn ..) fun _ => neq_if_nil_nil Tryd.underlying39) rfl ?_
      refine JL_nil ?_
      refine JQ_then ?_
      refine JC_condF _ rfl rfl ?_
      refine JC_skip ?_
      refine JQ_then ?_
      refine JC_region ?_
      refine JL_val _ (Ev_move rfl) rfl ?_
      refine JL_val (.agg (cu8 (sumG constL initL (joinT (q + 1) (mid A (32*q) 32) (mid A (32*q) 32)))).toArray) (Ev_load rfl (Ld_agg Tryd.isAgg25 Tryd.sizeOf25 (len_cu8 (sumG_len _ _ _)) (MemAt.ent 2 rfl (Seg.whole _)))) rfl ?_
      refine JL_val (Ptr nb3 (32*q + 32)) (Ev_indexArr 33 25 32 (32*q + 32) Tryd.underlying111 Tryd.sizeOf25 rfl rfl (by omega) (by omega) (by omega)) rfl ?_
      have hl9 : (spl A (32*q + 32) (sumG constL initL (joinT (q + 1) (mid A (32*q) 32) (mid A (32*q) 32)))).length = 1056 := by rw [spl_len (by simp [hA, (sumG_len _ _ _)]; omega)]; simp [hA, (sumG_len _ _ _)]
      refine JL_step (Step_store 1 nb3 (32*q + 32) 32 (cu8 A) 111 (.agg (cu8 (sumG constL initL (joinT (q + 1) (mid A (32*q) 32) (mid A (32*q) 32)))).toArray) (cu8 (sumG constL initL (joinT (q + 1) (mid A (32*q) 32) (mid A (32*q) 32)))) (cu8 (spl A (32*q + 32) (sumG constL initL (joinT (q + 1) (mid A (32*q) 32) (mid A (32*q) 32))))) rfl rfl rfl (by first | rfl | simp) Tryd.sizeOf25 (len_cu8 (sumG_len _ _ _)) (by first | exact one_u8 | exact one_u32 | exact one_u64 | (simp [cu8, cu32, cu64, Value.oneCell']; done)) (by simp [hA]; try omega) (laySpl8 _ _ _ (by simp [hA, (sumG_len _ _ _)]; omega))) rfl ?_
      rintro v1 L1 ⟨rfl, rfl⟩
      show JL _ _ _ _ _ [⟨nb1, cu8 (zr8 1056), 111, (0, 0)⟩, ⟨nb3, cu8 (spl A (32*q + 32) (sumG constL initL (joinT (q + 1) (mid A (32*q) 32) (mid A (32*q) 32)))), 111, (0, 0)⟩, ⟨nb4, cu8 (sumG constL initL (joinT (q + 1) (mid A (32*q) 32) (mid A (32*q) 32))), 25, (0, 0)⟩]
      refine JL_nil ?_
      refine JQ_in_normal ?_
      refine JQ_then ?_
      refine JC_region ?_
      refine JL_val _ (Ev_move rfl) rfl ?_
      refine JL_val (I64 ((q:Int) + 2)) (Ev_bini rfl rfl fun _ => bin_add_i _ _ ((q:Int) + 2) (by omega) (by omega)) rfl ?_
      refine JL_val _ (Ev_assign rfl) rfl ?_
      refine JL_nil ?_
      refine JQ_thenK ?_
      refine K_mask [true, true, false] ?_
      show K _ _ [⟨nb1, cu8 (zr8 1056), 111, (0, 0)⟩, ⟨nb3, cu8 (spl A (32*q + 32) (sumG constL initL (joinT (q + 1) (mid A (32*q) 32) (mid A (32*q) 32)))), 111, (0, 0)⟩] _
      refine K_next (q + 1, spl A (32*q + 32) (sumG constL initL (joinT (q + 1) (mid A (32*q) 32) (mid A (32*q) 32)))) ⟨by omega, by rw [hx2]; exact empA_step (by omega), hl9⟩ (by first | (simp; omega) | simp | (dsimp only; omega) | omega) (Sub.cons rfl (Sub.cons rfl (Sub.cons (some_i64 (by omega)) (Sub.nil)))) rfl
  ·
    have hp1 : ¬ (((q:Int) + 1) < (33:Int)) := of_decide_eq_false hb1
    refine JC_exit ?_
    refine JQ_then_exit ?_
    refine JQ_then_exit ?_
    refine JQ_in_same ?_
    refine JQ_then ?_
    refine JC_seq ?_
    refine JC_region ?_
    refine JL_val (.agg (cu8 A).toArray) (Ev_load rfl (Ld_agg Tryd.isAgg111 Tryd.sizeOf111 (len_cu8 hA) (MemAt.ent 1 rfl (Seg.whole _)))) rfl ?_
    refine JL_step (Step_store 0 nb1 0 1056 (cu8 (zr8 1056)) 111 (.agg (cu8 A).toArray) (cu8 A) (cu8 A) rfl rfl rfl (by first | rfl | simp) Tryd.sizeOf111 (len_cu8 hA) (by first | exact one_u8 | exact one_u32 | exact one_u64 | (simp [cu8, cu32, cu64, Value.oneCell']; done)) (by simp [(zr8_len 1056)]) (lay_whole (by simp [(zr8_len 1056), hA]))) rfl ?_
    rintro v1 L1 ⟨rfl, rfl⟩
    show JL _ _ _ _ _ [⟨nb1, cu8 A, 111, (0, 0)⟩, ⟨nb3, cu8 A, 111, (0, 0)⟩]
    refine JL_nil ?_
    refine JQ_then ?_
    refine JC_ret ?_
    refine K_mask [true, false] ?_
    show JQ _ _ _ _ [⟨nb1, cu8 A, 111, (0, 0)⟩]
    refine JQ_ret (.agg (cu8 A).toArray) (res1 Tryd.results77 (RV_cell rfl (Ld_agg Tryd.isAgg111 Tryd.sizeOf111 (len_cu8 hA) (MemAt.ent 0 rfl (Seg.whole _))))) fun w1 hw1 => ?_
    obtain rfl : q = 32 := by omega
    exact ⟨_, [], rfl, ⟨by rw [hx2], rfl⟩, hw1.sub (by simp) (by simp)⟩

theorem empty_c (h : Nat) (w : World) (hh : h ≤ 32) (hG : GLs w) : Calls Tryd.prog 72 #[I64 ((h:Int))] w (Post w [] (fun v L => v = .tuple #[.agg (cu8 (empL h)).toArray, .nilIface] ∧ L = [])) := by
  refine enter w [] 17 [] [I64 ((h:Int))] Tryd.func72 rfl rfl (by simp) (Hp.start (by simp) (by simp) (by simp)) ?_
  show JC _ _ _ [(0, I64 ((h:Int)))] _
  refine JC_seq ?_
  refine JC_region ?_
  refine JL_step (Step_alloc _ (cu8 (zr8 32)) Tryd.zeroValue25 (by kernel_rfl)) rfl ?_
  rintro v1 L1 ⟨nb1, hnb1, rfl, rfl⟩
  show JL _ _ _ _ ((2, Ptr nb1 0) :: _) [⟨nb1, cu8 (zr8 32), 25, (0, 0)⟩]
  refine JL_val _ (Ev_assign rfl) rfl ?_
  refine JL_nil ?_
  refine JQ_then ?_
  refine JC_seq ?_
  refine JC_region ?_
  refine JL_step (Step_callP 77 [] (.agg (cu8 (empA 32)).toArray) (Cl_func [] Tryd.call77 rfl) (fun w1 hw1 => empties_c  w1 (hG.at hw1))) rfl ?_
  rintro v1 L1 ⟨rfl, rfl⟩
  show JL _ _ _ _ ((5, .agg (cu8 (empA 32)).toArray) :: _) [⟨nb1, cu8 (zr8 32), 25, (0, 0)⟩]
  refine JL_step (Step_alloc _ (cu8 (zr8 1056)) Tryd.zeroValue111 (by kernel_rfl)) rfl ?_
  rintro v1 L1 ⟨nb2, hnb2, rfl, rfl⟩
  show JL _ _ _ _ ((4, Ptr nb2 0) :: _) [⟨nb1, cu8 (zr8 32), 25, (0, 0)⟩, ⟨nb2, cu8 (zr8 1056), 111, (0, 0)⟩]
  refine JL_step (Step_store 1 nb2 0 1056 (cu8 (zr8 1056)) 111 (.agg (cu8 (empA 32)).toArray) (cu8 (empA 32)) (cu8 (empA 32)) rfl rfl rfl (by first | rfl | simp) Tryd.sizeOf111 (len_cu8 (empA_len 32 (by decide))) (by first | exact one_u8 | exact one_u32 | exact one_u64 | (simp [cu8, cu32, cu64, Value.oneCell']; done)) (by simp [(zr8_len 1056)]) (lay_whole (by simp [(zr8_len 1056), (empA_len 32 (by decide))]))) rfl ?_
  rintro v1 L1 ⟨rfl, rfl⟩
  show JL _ _ _ _ _ [⟨nb1, cu8 (zr8 32), 25, (0, 0)⟩, ⟨nb2, cu8 (empA 32), 111, (0, 0)⟩]
  refine JL_nil ?_
  refine JQ_then ?_
  refine JC_seq ?_
  refine JC_seq ?_
  refine JC_region ?_
  refine JL_val _ (Ev_move rfl) rfl ?_
  refine JL_val (.bool (decide (((h:Int)) < (0:Int)))) (Ev_bini rfl rfl fun _ => bin_lss_i _ _) rfl ?_
  refine JL_val _ (Ev_move rfl) rfl ?_
  refine JL_gval 2 8 false _ _ rfl rfl (decide_eq_false (by omega)) (Ev_move rfl) rfl ?_
  refine JL_gval 2 8 false _ (.bool (decide ((33:Int) ≤ ((h:Int))))) rfl rfl (decide_eq_false (by omega)) (Ev_bini rfl rfl fun _ => bin_geq_i _ _) rfl ?_
  refine JL_val _ (Ev_pickF _ rfl (decide_eq_false (by omega)) rfl) rfl ?_
  refine JL_nil ?_
  refine JQ_then ?_
  refine JC_condF _ rfl (decide_eq_false (by omega)) ?_
  refine JC_skip ?_
  refine JQ_then ?_
  refine JC_seq ?_
  refine JC_region ?_
  refine JL_val _ (Ev_move rfl) rfl ?_
  refine JL_val (Ptr nb2 (32*h)) (Ev_indexArr 33 25 32 (32*h) Tryd.underlying111 Tryd.sizeOf25 rfl rfl (by omega) (by omega) (by omega)) rfl ?_
  have hl1 : (mid (empA 32) (32*h) 32).length = 32 := mid_len (by rw [(empA_len 32 (by decide))]; omega)
  refine JL_val (.agg (cu8 (mid (empA 32) (32*h) 32)).toArray) (Ev_load rfl (Ld_agg Tryd.isAgg25 Tryd.sizeOf25 (len_cu8 hl1) (MemAt.ent 1 rfl (segm_u8 (32*h) 32 (by rw [(empA_len 32 (by decide))]; omega))))) rfl ?_
  refine JL_step (Step_store 0 nb1 0 32 (cu8 (zr8 32)) 25 (.agg (cu8 (mid (empA 32) (32*h) 32)).toArray) (cu8 (mid (empA 32) (32*h) 32)) (cu8 (mid (empA 32) (32*h) 32)) rfl rfl rfl (by first | rfl | simp) Tryd.sizeOf25 (len_cu8 hl1) (by first | exact one_u8 | exact one_u32 | exact one_u64 | (simp [cu8, cu32, cu64, Value.oneCell']; done)) (by simp [(zr8_len 32)]) (lay_whole (by simp [(zr8_len 32), hl1]))) rfl ?_
  rintro v1 L1 ⟨rfl, rfl⟩
  show JL _ _ _ _ _ [⟨nb1, cu8 (mid (empA 32) (32*h) 32), 25, (0, 0)⟩, ⟨nb2, cu8 (empA 32), 111, (0, 0)⟩]
  refine JL_val _ (Ev_assign rfl) rfl ?_
  refine JL_nil ?_
  refine JQ_then ?_
  refine JC_ret ?_
  refine K_mask [true, false] ?_
  show JQ _ _ _ _ [⟨nb1, cu8 (mid (empA 32) (32*h) 32), 25, (0, 0)⟩]
  refine JQ_ret (.tuple #[.agg (cu8 (mid (empA 32) (32*h) 32)).toArray, .nilIface]) (res2 Tryd.results72 (RV_cell rfl (Ld_agg Tryd.isAgg25 Tryd.sizeOf25 (len_cu8 hl1) (MemAt.ent 0 rfl (Seg.whole _)))) (RV_tmp rfl)) fun w1 hw1 => ?_
  exact ⟨_, [], rfl, ⟨by rw [empA_get 32 (by decide) h hh], rfl⟩, hw1.sub (by simp) (by simp)⟩

theorem kind_c (az : Option Addr) (n cz : Nat) (z : List UInt8) (w : World) (hz : z.length = n) (hr : RdB w [] az z) : Calls Tryd.prog 76 #[.slice az n cz] w (Post w [] (fun v L => v = I64 ((kindN z : Nat) : Int) ∧ L = [])) := by
  refine enter w [] 45 [] [.slice az n cz] Tryd.func76 rfl rfl (by simp) (Hp.start (by simp) (by simp) (by simp)) ?_
  show JC _ _ _ [(0, .slice az n cz)] _
  refine JC_seq ?_
  refine JC_region ?_
  refine JL_val _ (Ev_assign rfl) rfl ?_
  refine JL_nil ?_
  refine JQ_then ?_
  refine JC_seq ?_
  refine JC_block ?_
  refine JC_seq ?_
  refine JC_region ?_
  refine JL_val _ (Ev_move rfl) rfl ?_
  refine JL_val (I64 ((n:Int))) (Ev_len Tryd.underlying22 rfl) rfl ?_
  refine JL_val (.bool (decide (((n:Int)) = (1:Int)))) (Ev_bini rfl rfl fun _ => bin_eql_i _ _) rfl ?_
  refine JL_val _ (Ev_move rfl) rfl ?_
  rcases Bool.eq_false_or_eq_true (decide (((n:Int)) = (1:Int))) with hb1 | hb1
  ·
    have hp1 : ((n:Int)) = (1:Int) := of_decide_eq_true hb1
    refine JL_gval 3 7 true _ _ rfl rfl hb1 (Ev_move rfl) rfl ?_
    obtain ⟨bz1, oz1, hz1, hm1⟩ := hr.pos (by rw [hz]; omega)
    refine JL_gval 3 7 true _ (Ptr bz1 oz1) rfl rfl hb1 (Ev_indexSlG 5 1 oz1 Tryd.underlying22 Tryd.sizeOf5 rfl hz1 rfl (by omega) (by omega) (by omega)) rfl ?_
    refine JL_gval 3 7 true _ (U8 (g8 z 0)) rfl rfl hb1 (Ev_load rfl (Ld_one Tryd.isAgg5 (MemAt.seg (MemAt.base hm1.1 hm1.2.1 hm1.2.2) (Seg.get (g8_get (i := 0) (by rw [hz]; omega))) (by omega)))) rfl ?_
    refine JL_gval 3 7 true _ (.bool (decide ((g8 z 0) = (0:UInt8)))) rfl rfl hb1 (Ev_bini rfl rfl fun _ => bin_eql_u8 (g8 z 0) (0:UInt8)) rfl ?_
    refine JL_val _ (Ev_pickT _ rfl hb1 rfl) rfl ?_
    refine JL_val _ (Ev_assign rfl) rfl ?_
    refine JL_nil ?_
    refine JQ_then ?_
    refine JC_cond (decide ((g8 z 0) = (0:UInt8))) rfl (fun hb2 => ?_) (fun hb2 => ?_)
    ·
      have hp2 : (g8 z 0) = (0:UInt8) := of_decide_eq_true hb2
      refine JC_seq ?_
      refine JC_region ?_
      refine JL_val _ (Ev_assign rfl) rfl ?_
      refine JL_nil ?_
      refine JQ_then ?_
      refine JC_ret ?_
      refine JQ_in_ret ?_
      refine JQ_then_ret ?_
      refine JQ_ret (I64 (1:Int)) (res1 Tryd.results76 (RV_tmp rfl)) fun w1 hw1 => ?_
      have hk : kindN z = 1 := by
        try simp only [UInt8.lt_iff_toNat_lt, UInt8.le_iff_toNat_le, ← UInt8.toNat_inj, UInt8.reduceToNat] at hp1
        try simp only [UInt8.lt_iff_toNat_lt, UInt8.le_iff_toNat_le, ← UInt8.toNat_inj, UInt8.reduceToNat] at hp2
        unfold kindN
        rw [hz]
        repeat' split
        all_goals omega
      exact ⟨_, [], rfl, ⟨by rw [hk]; rfl, rfl⟩, hw1.sub (by simp) (by simp)⟩
    ·
      have hp2 : ¬ ((g8 z 0) = (0:UInt8)) := of_decide_eq_false hb2
      refine JC_seq ?_
      refine JC_region ?_
      refine JL_val _ (Ev_move rfl) rfl ?_
      refine JL_val (I64 ((n:Int))) (Ev_len Tryd.underlying22 rfl) rfl ?_
      refine JL_val (.bool (decide (((n:Int)) = (61:Int)))) (Ev_bini rfl rfl fun _ => bin_eql_i _ _) rfl ?_
      refine JL_val _ (Ev_move rfl) rfl ?_
      rcases Bool.eq_false_or_eq_true (decide (((n:Int)) = (61:Int))) with hb3 | hb3
      ·
        have hp3 : ((n:Int)) = (61:Int) := of_decide_eq_true hb3
        refine JL_gval 3 17 true _ _ rfl rfl hb3 (Ev_move rfl) rfl ?_
        refine JL_gval 3 17 true _ (Ptr bz1 oz1) rfl rfl hb3 (Ev_indexSlG 5 1 oz1 Tryd.underlying22 Tryd.sizeOf5 rfl hz1 rfl (by omega) (by omega) (by omega)) rfl ?_
        refine JL_gval 3 17 true _ (U8 (g8 z 0)) rfl rfl hb3 (Ev_load rfl (Ld_one Tryd.isAgg5 (MemAt.seg (MemAt.base hm1.1 hm1.2.1 hm1.2.2) (Seg.get (g8_get (i := 0) (by rw [hz]; omega))) (by omega)))) rfl ?_
        refine JL_gval 3 17 true _ (.bool (decide ((g8 z 0) = (1:UInt8)))) rfl rfl hb3 (Ev_bini rfl rfl fun _ => bin_eql_u8 (g8 z 0) (1:UInt8)) rfl ?_
        refine JL_val _ (Ev_pickT _ rfl hb3 rfl) rfl ?_
        refine JL_val _ (Ev_assign rfl) rfl ?_
        refine JL_nil ?_
        refine JQ_then ?_
        refine JC_cond (decide ((g8 z 0) = (1:UInt8))) rfl (fun hb4 => ?_) (fun hb4 => ?_)
        ·
          have hp4 : (g8 z 0) = (1:UInt8) := of_decide_eq_true hb4
          refine JC_seq ?_
          refine JC_region ?_
          refine JL_val _ (Ev_assign rfl) rfl ?_
          refine JL_nil ?_
          refine JQ_then ?_
          refine JC_ret ?_
          refine JQ_in_ret ?_
          refine JQ_then_ret ?_
          refine JQ_ret (I64 (2:Int)) (res1 Tryd.results76 (RV_tmp rfl)) fun w1 hw1 => ?_
          have hk : kindN z = 2 := by
            try simp only [UInt8.lt_iff_toNat_lt, UInt8.le_iff_toNat_le, ← UInt8.toNat_inj, UInt8.reduceToNat] at hp1
            try simp only [UInt8.lt_iff_toNat_lt, UInt8.le_iff_toNat_le, ← UInt8.toNat_inj, UInt8.reduceToNat] at hp2
            try simp only [UInt8.lt_iff_toNat_lt, UInt8.le_iff_toNat_le, ← UInt8.toNat_inj, UInt8.reduceToNat] at hp3
            try simp only [UInt8.lt_iff_toNat_lt, UInt8.le_iff_toNat_le, ← UInt8.toNat_inj, UInt8.reduceToNat] at hp4
            unfold kindN
            rw [hz]
            repeat' split
            all_goals omega
          exact ⟨_, [], rfl, ⟨by rw [hk]; rfl, rfl⟩, hw1.sub (by simp) (by simp)⟩
        ·
          have hp4 : ¬ ((g8 z 0) = (1:UInt8)) := of_decide_eq_false hb4
          refine JC_seq ?_
          refine JC_region ?_
          refine JL_val _ (Ev_move rfl) rfl ?_
          refine JL_val (I64 ((n:Int))) (Ev_len Tryd.underlying22 rfl) rfl ?_
          refine JL_val (.bool (decide (((n:Int)) = (66:Int)))) (Ev_bini rfl rfl fun _ => bin_eql_i _ _) rfl ?_
          refine JL_val _ (Ev_move rfl) rfl ?_
          rcases Bool.eq_false_or_eq_true (decide (((n:Int)) = (66:Int))) with hb5 | hb5
          ·
            have hp5 : ((n:Int)) = (66:Int) := of_decide_eq_true hb5
            refine JL_gval 3 27 true _ _ rfl rfl hb5 (Ev_move rfl) rfl ?_
            refine JL_gval 3 27 true _ (Ptr bz1 oz1) rfl rfl hb5 (Ev_indexSlG 5 1 oz1 Tryd.underlying22 Tryd.sizeOf5 rfl hz1 rfl (by omega) (by omega) (by omega)) rfl ?_
            refine JL_gval 3 27 true _ (U8 (g8 z 0)) rfl rfl hb5 (Ev_load rfl (Ld_one Tryd.isAgg5 (MemAt.seg (MemAt.base hm1.1 hm1.2.1 hm1.2.2) (Seg.get (g8_get (i := 0) (by rw [hz]; omega))) (by omega)))) rfl ?_
            refine JL_gval 3 27 true _ (.bool (decide ((g8 z 0) = (2:UInt8)))) rfl rfl hb5 (Ev_bini rfl rfl fun _ => bin_eql_u8 (g8 z 0) (2:UInt8)) rfl ?_
            refine JL_val _ (Ev_pickT _ rfl hb5 rfl) rfl ?_
            refine JL_val _ (Ev_move rfl) rfl ?_
            rcases Bool.eq_false_or_eq_true (decide ((g8 z 0) = (2:UInt8))) with hb6 | hb6
            ·
              have hp6 : (g8 z 0) = (2:UInt8) := of_decide_eq_true hb6
              refine JL_gval 9 33 true _ _ rfl rfl hb6 (Ev_move rfl) rfl ?_
              refine JL_gval 9 33 true _ (Ptr bz1 (oz1 + 1)) rfl rfl hb6 (Ev_indexSlG 5 1 (oz1 + 1) Tryd.underlying22 Tryd.sizeOf5 rfl hz1 rfl (by omega) (by omega) (by omega)) rfl ?_
              refine JL_gval 9 33 true _ (U8 (g8 z 1)) rfl rfl hb6 (Ev_load rfl (Ld_one Tryd.isAgg5 (MemAt.seg (MemAt.base hm1.1 hm1.2.1 hm1.2.2) (Seg.get (g8_get (i := 1) (by rw [hz]; omega))) (by omega)))) rfl ?_
              refine JL_gval 9 33 true _ (.bool (decide ((1:UInt8) ≤ (g8 z 1)))) rfl rfl hb6 (Ev_bini rfl rfl fun _ => bin_geq_u8 (g8 z 1) (1:UInt8)) rfl ?_
              refine JL_val _ (Ev_pickT _ rfl hb6 rfl) rfl ?_
              refine JL_val _ (Ev_move rfl) rfl ?_
              rcases Bool.eq_false_or_eq_true (decide ((1:UInt8) ≤ (g8 z 1))) with hb7 | hb7
              ·
                have hp7 : (1:UInt8) ≤ (g8 z 1) := of_decide_eq_true hb7
                refine JL_gval 15 39 true _ _ rfl rfl hb7 (Ev_move rfl) rfl ?_
                refine JL_gval 15 39 true _ (Ptr bz1 (oz1 + 1)) rfl rfl hb7 (Ev_indexSlG 5 1 (oz1 + 1) Tryd.underlying22 Tryd.sizeOf5 rfl hz1 rfl (by omega) (by omega) (by omega)) rfl ?_
                refine JL_gval 15 39 true _ (U8 (g8 z 1)) rfl rfl hb7 (Ev_load rfl (Ld_one Tryd.isAgg5 (MemAt.seg (MemAt.base hm1.1 hm1.2.1 hm1.2.2) (Seg.get (g8_get (i := 1) (by rw [hz]; omega))) (by omega)))) rfl ?_
                refine JL_gval 15 39 true _ (.bool (decide ((g8 z 1) ≤ (32:UInt8)))) rfl rfl hb7 (Ev_bini rfl rfl fun _ => bin_leq_u8 (g8 z 1) (32:UInt8)) rfl ?_
                refine JL_val _ (Ev_pickT _ rfl hb7 rfl) rfl ?_
                refine JL_val _ (Ev_assign rfl) rfl ?_
                refine JL_nil ?_
                refine JQ_then ?_
                refine JC_cond (decide ((g8 z 1) ≤ (32:UInt8))) rfl (fun hb8 => ?_) (fun hb8 => ?_)
                ·
                  have hp8 : (g8 z 1) ≤ (32:UInt8) := of_decide_eq_true hb8
                  refine JC_seq ?_
                  refine JC_region ?_
                  refine JL_val _ (Ev_assign rfl) rfl ?_
                  refine JL_nil ?_
                  refine JQ_then ?_
                  refine JC_ret ?_
                  refine JQ_in_ret ?_
                  refine JQ_then_ret ?_
                  refine JQ_ret (I64 (3:Int)) (res1 Tryd.results76 (RV_tmp rfl)) fun w1 hw1 => ?_
                  have hk : kindN z = 3 := by
                    try simp only [UInt8.lt_iff_toNat_lt, UInt8.le_iff_toNat_le, ← UInt8.toNat_inj, UInt8.reduceToNat] at hp1
                    try simp only [UInt8.lt_iff_toNat_lt, UInt8.le_iff_toNat_le, ← UInt8.toNat_inj, UInt8.reduceToNat] at hp2
                    try simp only [UInt8.lt_iff_toNat_lt, UInt8.le_iff_toNat_le, ← UInt8.toNat_inj, UInt8.reduceToNat] at hp3
                    try simp only [UInt8.lt_iff_toNat_lt, UInt8.le_iff_toNat_le, ← UInt8.toNat_inj, UInt8.reduceToNat] at hp4
                    try simp only [UInt8.lt_iff_toNat_lt, UInt8.le_iff_toNat_le, ← UInt8.toNat_inj, UInt8.reduceToNat] at hp5
                    try simp only [UInt8.lt_iff_toNat_lt, UInt8.le_iff_toNat_le, ← UInt8.toNat_inj, UInt8.reduceToNat] at hp6
                    try simp only [UInt8.lt_iff_toNat_lt, UInt8.le_iff_toNat_le, ← UInt8.toNat_inj, UInt8.reduceToNat] at hp7
                    try simp only [UInt8.lt_iff_toNat_lt, UInt8.le_iff_toNat_le, ← UInt8.toNat_inj, UInt8.reduceToNat] at hp8
                    unfold kindN
                    rw [hz]
                    repeat' split
                    all_goals omega
                  exact ⟨_, [], rfl, ⟨by rw [hk]; rfl, rfl⟩, hw1.sub (by simp) (by simp)⟩
                ·
                  have hp8 : ¬ ((g8 z 1) ≤ (32:UInt8)) := of_decide_eq_false hb8
                  refine JC_skip ?_
                  refine JQ_in_normal ?_
                  refine JQ_then ?_
                  refine JC_seq ?_
                  refine JC_region ?_
                  refine JL_val _ (Ev_assign rfl) rfl ?_
                  refine JL_nil ?_
                  refine JQ_then ?_
                  refine JC_ret ?_
                  refine JQ_ret (I64 (0:Int)) (res1 Tryd.results76 (RV_tmp rfl)) fun w1 hw1 => ?_
                  have hk : kindN z = 0 := by
                    try simp only [UInt8.lt_iff_toNat_lt, UInt8.le_iff_toNat_le, ← UInt8.toNat_inj, UInt8.reduceToNat] at hp1
                    try simp only [UInt8.lt_iff_toNat_lt, UInt8.le_iff_toNat_le, ← UInt8.toNat_inj, UInt8.reduceToNat] at hp2
                    try simp only [UInt8.lt_iff_toNat_lt, UInt8.le_iff_toNat_le, ← UInt8.toNat_inj, UInt8.reduceToNat] at hp3
                    try simp only [UInt8.lt_iff_toNat_lt, UInt8.le_iff_toNat_le, ← UInt8.toNat_inj, UInt8.reduceToNat] at hp4
                    try simp only [UInt8.lt_iff_toNat_lt, UInt8.le_iff_toNat_le, ← UInt8.toNat_inj, UInt8.reduceToNat] at hp5
                    try simp only [UInt8.lt_iff_toNat_lt, UInt8.le_iff_toNat_le, ← UInt8.toNat_inj, UInt8.reduceToNat] at hp6
                    try simp only [UInt8.lt_iff_toNat_lt, UInt8.le_iff_toNat_le, ← UInt8.toNat_inj, UInt8.reduceToNat] at hp7
                    try simp only [UInt8.lt_iff_toNat_lt, UInt8.le_iff_toNat_le, ← UInt8.toNat_inj, UInt8.reduceToNat] at hp8
                    unfold kindN
                    rw [hz]
                    repeat' split
                    all_goals omega
                  exact ⟨_, [], rfl, ⟨by rw [hk]; rfl, rfl⟩, hw1.sub (by simp) (by simp)⟩
              ·
                have hp7 : ¬ ((1:UInt8) ≤ (g8 z 1)) := of_decide_eq_false hb7
                refine JL_gskip 15 39 true _ rfl rfl hb7 rfl ?_
                refine JL_gskip 15 39 true _ rfl rfl hb7 rfl ?_
                refine JL_gskip 15 39 true _ rfl rfl hb7 rfl ?_
                refine JL_gskip 15 39 true _ rfl rfl hb7 rfl ?_
                refine JL_val _ (Ev_pickF _ rfl hb7 rfl) rfl ?_
                refine JL_val _ (Ev_assign rfl) rfl ?_
                refine JL_nil ?_
                refine JQ_then ?_
                refine JC_condF _ rfl rfl ?_
                refine JC_skip ?_
                refine JQ_in_normal ?_
                refine JQ_then ?_
                refine JC_seq ?_
                refine JC_region ?_
                refine JL_val _ (Ev_assign rfl) rfl ?_
                refine JL_nil ?_
                refine JQ_then ?_
                refine JC_ret ?_
                refine JQ_ret (I64 (0:Int)) (res1 Tryd.results76 (RV_tmp rfl)) fun w1 hw1 => ?_
                have hk : kindN z = 0 := by
                  try simp only [UInt8.lt_iff_toNat_lt, UInt8.le_iff_toNat_le, ← UInt8.toNat_inj, UInt8.reduceToNat] at hp1
                  try simp only [UInt8.lt_iff_toNat_lt, UInt8.le_iff_toNat_le, ← UInt8.toNat_inj, UInt8.reduceToNat] at hp2
                  try simp only [UInt8.lt_iff_toNat_lt, UInt8.le_iff_toNat_le, ← UInt8.toNat_inj, UInt8.reduceToNat] at hp3
                  try simp only [UInt8.lt_iff_toNat_lt, UInt8.le_iff_toNat_le, ← UInt8.toNat_inj, UInt8.reduceToNat] at hp4
                  try simp only [UInt8.lt_iff_toNat_lt, UInt8.le_iff_toNat_le, ← UInt8.toNat_inj, UInt8.reduceToNat] at hp5
                  try simp only [UInt8.lt_iff_toNat_lt, UInt8.le_iff_toNat_le, ← UInt8.toNat_inj, UInt8.reduceToNat] at hp6
                  try simp only [UInt8.lt_iff_toNat_lt, UInt8.le_iff_toNat_le, ← UInt8.toNat_inj, UInt8.reduceToNat] at hp7
                  try simp only [UInt8.lt_iff_toNat_lt, UInt8.le_iff_toNat_le, ← UInt8.toNat_inj, UInt8.reduceToNat] at hp8
                  unfold kindN
                  rw [hz]
                  repeat' split
                  all_goals omega
                exact ⟨_, [], rfl, ⟨by rw [hk]; rfl, rfl⟩, hw1.sub (by simp) (by simp)⟩
            ·
              have hp6 : ¬ ((g8 z 0) = (2:UInt8)) := of_decide_eq_false hb6
              refine JL_gskip 9 33 true _ rfl rfl hb6 rfl ?_
              refine JL_gskip 9 33 true _ rfl rfl hb6 rfl ?_
              refine JL_gskip 9 33 true _ rfl rfl hb6 rfl ?_
              refine JL_gskip 9 33 true _ rfl rfl hb6 rfl ?_
              refine JL_val _ (Ev_pickF _ rfl hb6 rfl) rfl ?_
              refine JL_val _ (Ev_move rfl) rfl ?_
              refine JL_gskip 15 39 true _ rfl rfl rfl rfl ?_
              refine JL_gskip 15 39 true _ rfl rfl rfl rfl ?_
              refine JL_gskip 15 39 true _ rfl rfl rfl rfl ?_
              refine JL_gskip 15 39 true _ rfl rfl rfl rfl ?_
              refine JL_val _ (Ev_pickF _ rfl rfl rfl) rfl ?_
              refine JL_val _ (Ev_assign rfl) rfl ?_
              refine JL_nil ?_
              refine JQ_then ?_
              refine JC_condF _ rfl rfl ?_
              refine JC_skip ?_
              refine JQ_in_normal ?_
              refine JQ_then ?_
              refine JC_seq ?_
              refine JC_region ?_
              refine JL_val _ (Ev_assign rfl) rfl ?_
              refine JL_nil ?_
              refine JQ_then ?_
              refine JC_ret ?_
              refine JQ_ret (I64 (0:Int)) (res1 Tryd.results76 (RV_tmp rfl)) fun w1 hw1 => ?_
              have hk : kindN z = 0 := by
                try simp only [UInt8.lt_iff_toNat_lt, UInt8.le_iff_toNat_le, ← UInt8.toNat_inj, UInt8.reduceToNat] at hp1
                try simp only [UInt8.lt_iff_toNat_lt, UInt8.le_iff_toNat_le, ← UInt8.toNat_inj, UInt8.reduceToNat] at hp2
                try simp only [UInt8.lt_iff_toNat_lt, UInt8.le_iff_toNat_le, ← UInt8.toNat_inj, UInt8.reduceToNat] at hp3
                try simp only [UInt8.lt_iff_toNat_lt, UInt8.le_iff_toNat_le, ← UInt8.toNat_inj, UInt8.reduceToNat] at hp4
                try simp only [UInt8.lt_iff_toNat_lt, UInt8.le_iff_toNat_le, ← UInt8.toNat_inj, UInt8.reduceToNat] at hp5
                try simp only [UInt8.lt_iff_toNat_lt, UInt8.le_iff_toNat_le, ← UInt8.toNat_inj, UInt8.reduceToNat] at hp6
                try simp only [UInt8.lt_iff_toNat_lt, UInt8.le_iff_toNat_le, ← UInt8.toNat_inj, UInt8.reduceToNat] at hp7
                try simp only [UInt8.lt_iff_toNat_lt, UInt8.le_iff_toNat_le, ← UInt8.toNat_inj, UInt8.reduceToNat] at hp8
                unfold kindN
                rw [hz]
                repeat' split
                all_goals omega
              exact ⟨_, [], rfl, ⟨by rw [hk]; rfl, rfl⟩, hw1.sub (by simp) (by simp)⟩
          ·
            have hp5 : ¬ (((n:Int)) = (66:Int)) := of_decide_eq_false hb5
            refine JL_gskip 3 27 true _ rfl rfl hb5 rfl ?_
            refine JL_gskip 3 27 true _ rfl rfl hb5 rfl ?_
            refine JL_gskip 3 27 true _ rfl rfl hb5 rfl ?_
            refine JL_gskip 3 27 true _ rfl rfl hb5 rfl ?_
            refine JL_val _ (Ev_pickF _ rfl hb5 rfl) rfl ?_
            refine JL_val _ (Ev_move rfl) rfl ?_
            refine JL_gskip 9 33 true _ rfl rfl rfl rfl ?_
            refine JL_gskip 9 33 true _ rfl rfl rfl rfl ?_
            refine JL_gskip 9 33 true _ rfl rfl rfl rfl ?_
            refine JL_gskip 9 33 true _ rfl rfl rfl rfl ?_
            refine JL_val _ (Ev_pickF _ rfl rfl rfl) rfl ?_
            refine JL_val _ (Ev_move rfl) rfl ?_
            refine JL_gskip 15 39 true _ rfl rfl rfl rfl ?_
            refine JL_gskip 15 39 true _ rfl rfl rfl rfl ?_
            refine JL_gskip 15 39 true _ rfl rfl rfl rfl ?_
            refine JL_gskip 15 39 true _ rfl rfl rfl rfl ?_
            refine JL_val _ (Ev_pickF _ rfl rfl rfl) rfl ?_
            refine JL_val _ (Ev_assign rfl) rfl ?_
            refine JL_nil ?_
            refine JQ_then ?_
            refine JC_condF _ rfl rfl ?_
            refine JC_skip ?_
            refine JQ_in_normal ?_
            refine JQ_then ?_
            refine JC_seq ?_
            refine JC_region ?_
            refine JL_val _ (Ev_assign rfl) rfl ?_
            refine JL_nil ?_
            refine JQ_then ?_
            refine JC_ret ?_
            refine JQ_ret (I64 (0:Int)) (res1 Tryd.results76 (RV_tmp rfl)) fun w1 hw1 => ?_
            have hk : kindN z = 0 := by
              try simp only [UInt8.lt_iff_toNat_lt, UInt8.le_iff_toNat_le, ← UInt8.toNat_inj, UInt8.reduceToNat] at hp1
              try simp only [UInt8.lt_iff_toNat_lt, UInt8.le_iff_toNat_le, ← UInt8.toNat_inj, UInt8.reduceToNat] at hp2
              try simp only [UInt8.lt_iff_toNat_lt, UInt8.le_iff_toNat_le, ← UInt8.toNat_inj, UInt8.reduceToNat] at hp3
              try simp only [UInt8.lt_iff_toNat_lt, UInt8.le_iff_toNat_le, ← UInt8.toNat_inj, UInt8.reduceToNat] at hp4
              try simp only [UInt8.lt_iff_toNat_lt, UInt8.le_iff_toNat_le, ← UInt8.toNat_inj, UInt8.reduceToNat] at hp5
              try simp only [UInt8.lt_iff_toNat_lt, UInt8.le_iff_toNat_le, ← UInt8.toNat_inj, UInt8.reduceToNat] at hp6
              try simp only [UInt8.lt_iff_toNat_lt, UInt8.le_iff_toNat_le, ← UInt8.toNat_inj, UInt8.reduceToNat] at hp7
              try simp only [UInt8.lt_iff_toNat_lt, UInt8.le_iff_toNat_le, ← UInt8.toNat_inj, UInt8.reduceToNat] at hp8
              unfold kindN
              rw [hz]
              repeat' split
              all_goals omega
            exact ⟨_, [], rfl, ⟨by rw [hk]; rfl, rfl⟩, hw1.sub (by simp) (by simp)⟩
      ·
        have hp3 : ¬ (((n:Int)) = (61:Int)) := of_decide_eq_false hb3
        refine JL_gskip 3 17 true _ rfl rfl hb3 rfl ?_
        refine JL_gskip 3 17 true _ rfl rfl hb3 rfl ?_
        refine JL_gskip 3 17 true _ rfl rfl hb3 rfl ?_
        refine JL_gskip 3 17 true _ rfl rfl hb3 rfl ?_
        refine JL_val _ (Ev_pickF _ rfl hb3 rfl) rfl ?_
        refine JL_val _ (Ev_assign rfl) rfl ?_
        refine JL_nil ?_
        refine JQ_then ?_
        refine JC_condF _ rfl rfl ?_
        refine JC_seq ?_
        refine JC_region ?_
        refine JL_val _ (Ev_move rfl) rfl ?_
        refine JL_val (I64 ((n:Int))) (Ev_len Tryd.underlying22 rfl) rfl ?_
        refine JL_val (.bool (decide (((n:Int)) = (66:Int)))) (Ev_bini rfl rfl fun _ => bin_eql_i _ _) rfl ?_
        refine JL_val _ (Ev_move rfl) rfl ?_
        rcases Bool.eq_false_or_eq_true (decide (((n:Int)) = (66:Int))) with hb9 | hb9
        ·
          have hp9 : ((n:Int)) = (66:Int) := of_decide_eq_true hb9
          refine JL_gval 3 27 true _ _ rfl rfl hb9 (Ev_move rfl) rfl ?_
          refine JL_gval 3 27 true _ (Ptr bz1 oz1) rfl rfl hb9 (Ev_indexSlG 5 1 oz1 Tryd.underlying22 Tryd.sizeOf5 rfl hz1 rfl (by omega) (by omega) (by omega)) rfl ?_
          refine JL_gval 3 27 true _ (U8 (g8 z 0)) rfl rfl hb9 (Ev_load rfl (Ld_one Tryd.isAgg5 (MemAt.seg (MemAt.base hm1.1 hm1.2.1 hm1.2.2) (Seg.get (g8_get (i := 0) (by rw [hz]; omega))) (by omega)))) rfl ?_
          refine JL_gval 3 27 true _ (.bool (decide ((g8 z 0) = (2:UInt8)))) rfl rfl hb9 (Ev_bini rfl rfl fun _ => bin_eql_u8 (g8 z 0) (2:UInt8)) rfl ?_
          refine JL_val _ (Ev_pickT _ rfl hb9 rfl) rfl ?_
          refine JL_val _ (Ev_move rfl) rfl ?_
          rcases Bool.eq_false_or_eq_true (decide ((g8 z 0) = (2:UInt8))) with hb10 | hb10
          ·
            have hp10 : (g8 z 0) = (2:UInt8) := of_decide_eq_true hb10
            refine JL_gval 9 33 true _ _ rfl rfl hb10 (Ev_move rfl) rfl ?_
            refine JL_gval 9 33 true _ (Ptr bz1 (oz1 + 1)) rfl rfl hb10 (Ev_indexSlG 5 1 (oz1 + 1) Tryd.underlying22 Tryd.sizeOf5 rfl hz1 rfl (by omega) (by omega) (by omega)) rfl ?_
            refine JL_gval 9 33 true _ (U8 (g8 z 1)) rfl rfl hb10 (Ev_load rfl (Ld_one Tryd.isAgg5 (MemAt.seg (MemAt.base hm1.1 hm1.2.1 hm1.2.2) (Seg.get (g8_get (i := 1) (by rw [hz]; omega))) (by omega)))) rfl ?_
            refine JL_gval 9 33 true _ (.bool (decide ((1:UInt8) ≤ (g8 z 1)))) rfl rfl hb10 (Ev_bini rfl rfl fun _ => bin_geq_u8 (g8 z 1) (1:UInt8)) rfl ?_
            refine JL_val _ (Ev_pickT _ rfl hb10 rfl) rfl ?_
            refine JL_val _ (Ev_move rfl) rfl ?_
            rcases Bool.eq_false_or_eq_true (decide ((1:UInt8) ≤ (g8 z 1))) with hb11 | hb11
            ·
              have hp11 : (1:UInt8) ≤ (g8 z 1) := of_decide_eq_true hb11
              refine JL_gval 15 39 true _ _ rfl rfl hb11 (Ev_move rfl) rfl ?_
              refine JL_gval 15 39 true _ (Ptr bz1 (oz1 + 1)) rfl rfl hb11 (Ev_indexSlG 5 1 (oz1 + 1) Tryd.underlying22 Tryd.sizeOf5 rfl hz1 rfl (by omega) (by omega) (by omega)) rfl ?_
              refine JL_gval 15 39 true _ (U8 (g8 z 1)) rfl rfl hb11 (Ev_load rfl (Ld_one Tryd.isAgg5 (MemAt.seg (MemAt.base hm1.1 hm1.2.1 hm1.2.2) (Seg.get (g8_get (i := 1) (by rw [hz]; omega))) (by omega)))) rfl ?_
              refine JL_gval 15 39 true _ (.bool (decide ((g8 z 1) ≤ (32:UInt8)))) rfl rfl hb11 (Ev_bini rfl rfl fun _ => bin_leq_u8 (g8 z 1) (32:UInt8)) rfl ?_
              refine JL_val _ (Ev_pickT _ rfl hb11 rfl) rfl ?_
              refine JL_val _ (Ev_assign rfl) rfl ?_
              refine JL_nil ?_
              refine JQ_then ?_
              refine JC_cond (decide ((g8 z 1) ≤ (32:UInt8))) rfl (fun hb12 => ?_) (fun hb12 => ?_)
              ·
                have hp12 : (g8 z 1) ≤ (32:UInt8) := of_decide_eq_true hb12
                refine JC_seq ?_
                refine JC_region ?_
                refine JL_val _ (Ev_assign rfl) rfl ?_
                refine JL_nil ?_
                refine JQ_then ?_
                refine JC_ret ?_
                refine JQ_in_ret ?_
                refine JQ_then_ret ?_
                refine JQ_ret (I64 (3:Int)) (res1 Tryd.results76 (RV_tmp rfl)) fun w1 hw1 => ?_
                have hk : kindN z = 3 := by
                  try simp only [UInt8.lt_iff_toNat_lt, UInt8.le_iff_toNat_le, ← UInt8.toNat_inj, UInt8.reduceToNat] at hp1
                  try simp only [UInt8.lt_iff_toNat_lt, UInt8.le_iff_toNat_le, ← UInt8.toNat_inj, UInt8.reduceToNat] at hp10
                  try simp only [UInt8.lt_iff_toNat_lt, UInt8.le_iff_toNat_le, ← UInt8.toNat_inj, UInt8.reduceToNat] at hp11
                  try simp only [UInt8.lt_iff_toNat_lt, UInt8.le_iff_toNat_le, ← UInt8.toNat_inj, UInt8.reduceToNat] at hp12
                  try simp only [UInt8.lt_iff_toNat_lt, UInt8.le_iff_toNat_le, ← UInt8.toNat_inj, UInt8.reduceToNat] at hp2
                  try simp only [UInt8.lt_iff_toNat_lt, UInt8.le_iff_toNat_le, ← UInt8.toNat_inj, UInt8.reduceToNat] at hp3
                  try simp only [UInt8.lt_iff_toNat_lt, UInt8.le_iff_toNat_le, ← UInt8.toNat_inj, UInt8.reduceToNat] at hp4
                  try simp only [UInt8.lt_iff_toNat_lt, UInt8.le_iff_toNat_le, ← UInt8.toNat_inj, UInt8.reduceToNat] at hp5
                  try simp only [UInt8.lt_iff_toNat_lt, UInt8.le_iff_toNat_le, ← UInt8.toNat_inj, UInt8.reduceToNat] at hp6
                  try simp only [UInt8.lt_iff_toNat_lt, UInt8.le_iff_toNat_le, ← UInt8.toNat_inj, UInt8.reduceToNat] at hp7
                  try simp only [UInt8.lt_iff_toNat_lt, UInt8.le_iff_toNat_le, ← UInt8.toNat_inj, UInt8.reduceToNat] at hp8
                  try simp only [UInt8.lt_iff_toNat_lt, UInt8.le_iff_toNat_le, ← UInt8.toNat_inj, UInt8.reduceToNat] at hp9
                  unfold kindN
                  rw [hz]
                  repeat' split
                  all_goals omega
                exact ⟨_, [], rfl, ⟨by rw [hk]; rfl, rfl⟩, hw1.sub (by simp) (by simp)⟩
              ·
                have hp12 : ¬ ((g8 z 1) ≤ (32:UInt8)) := of_decide_eq_false hb12
                refine JC_skip ?_
                refine JQ_in_normal ?_
                refine JQ_then ?_
                refine JC_seq ?_
                refine JC_region ?_
                refine JL_val _ (Ev_assign rfl) rfl ?_
                refine JL_nil ?_
                refine JQ_then ?_
                refine JC_ret ?_
                refine JQ_ret (I64 (0:Int)) (res1 Tryd.results76 (RV_tmp rfl)) fun w1 hw1 => ?_
                have hk : kindN z = 0 := by
                  try simp only [UInt8.lt_iff_toNat_lt, UInt8.le_iff_toNat_le, ← UInt8.toNat_inj, UInt8.reduceToNat] at hp1
                  try simp only [UInt8.lt_iff_toNat_lt, UInt8.le_iff_toNat_le, ← UInt8.toNat_inj, UInt8.reduceToNat] at hp10
                  try simp only [UInt8.lt_iff_toNat_lt, UInt8.le_iff_toNat_le, ← UInt8.toNat_inj, UInt8.reduceToNat] at hp11
                  try simp only [UInt8.lt_iff_toNat_lt, UInt8.le_iff_toNat_le, ← UInt8.toNat_inj, UInt8.reduceToNat] at hp12
                  try simp only [UInt8.lt_iff_toNat_lt, UInt8.le_iff_toNat_le, ← UInt8.toNat_inj, UInt8.reduceToNat] at hp2
                  try simp only [UInt8.lt_iff_toNat_lt, UInt8.le_iff_toNat_le, ← UInt8.toNat_inj, UInt8.reduceToNat] at hp3
                  try simp only [UInt8.lt_iff_toNat_lt, UInt8.le_iff_toNat_le, ← UInt8.toNat_inj, UInt8.reduceToNat] at hp4
                  try simp only [UInt8.lt_iff_toNat_lt, UInt8.le_iff_toNat_le, ← UInt8.toNat_inj, UInt8.reduceToNat] at hp5
                  try simp only [UInt8.lt_iff_toNat_lt, UInt8.le_iff_toNat_le, ← UInt8.toNat_inj, UInt8.reduceToNat] at hp6
                  try simp only [UInt8.lt_iff_toNat_lt, UInt8.le_iff_toNat_le, ← UInt8.toNat_inj, UInt8.reduceToNat] at hp7
                  try simp only [UInt8.lt_iff_toNat_lt, UInt8.le_iff_toNat_le, ← UInt8.toNat_inj, UInt8.reduceToNat] at hp8
                  try simp only [UInt8.lt_iff_toNat_lt, UInt8.le_iff_toNat_le, ← UInt8.toNat_inj, UInt8.reduceToNat] at hp9
                  unfold kindN
                  rw [hz]
                  repeat' split
                  all_goals omega
                exact ⟨_, [], rfl, ⟨by rw [hk]; rfl, rfl⟩, hw1.sub (by simp) (by simp)⟩
            ·
              have hp11 : ¬ ((1:UInt8) ≤ (g8 z 1)) := of_decide_eq_false hb11
              refine JL_gskip 15 39 true _ rfl rfl hb11 rfl ?_
              refine JL_gskip 15 39 true _ rfl rfl hb11 rfl ?_
              refine JL_gskip 15 39 true _ rfl rfl hb11 rfl ?_
              refine JL_gskip 15 39 true _ rfl rfl hb11 rfl ?_
              refine JL_val _ (Ev_pickF _ rfl hb11 rfl) rfl ?_
              refine JL_val _ (Ev_assign rfl) rfl ?_
              refine JL_nil ?_
              refine JQ_then ?_
              refine JC_condF _ rfl rfl ?_
              refine JC_skip ?_
              refine JQ_in_normal ?_
              refine JQ_then ?_
              refine JC_seq ?_
              refine JC_region ?_
              refine JL_val _ (Ev_assign rfl) rfl ?_
              refine JL_nil ?_
              refine JQ_then ?_
              refine JC_ret ?_
              refine JQ_ret (I64 (0:Int)) (res1 Tryd.results76 (RV_tmp rfl)) fun w1 hw1 => ?_
              have hk : kindN z = 0 := by
                try simp only [UInt8.lt_iff_toNat_lt, UInt8.le_iff_toNat_le, ← UInt8.toNat_inj, UInt8.reduceToNat] at hp1
                try simp only [UInt8.lt_iff_toNat_lt, UInt8.le_iff_toNat_le, ← UInt8.toNat_inj, UInt8.reduceToNat] at hp10
                try simp only [UInt8.lt_iff_toNat_lt, UInt8.le_iff_toNat_le, ← UInt8.toNat_inj, UInt8.reduceToNat] at hp11
                try simp only [UInt8.lt_iff_toNat_lt, UInt8.le_iff_toNat_le, ← UInt8.toNat_inj, UInt8.reduceToNat] at hp12
                try simp only [UInt8.lt_iff_toNat_lt, UInt8.le_iff_toNat_le, ← UInt8.toNat_inj, UInt8.reduceToNat] at hp2
                try simp only [UInt8.lt_iff_toNat_lt, UInt8.le_iff_toNat_le, ← UInt8.toNat_inj, UInt8.reduceToNat] at hp3
                try simp only [UInt8.lt_iff_toNat_lt, UInt8.le_iff_toNat_le, ← UInt8.toNat_inj, UInt8.reduceToNat] at hp4
                try simp only [UInt8.lt_iff_toNat_lt, UInt8.le_iff_toNat_le, ← UInt8.toNat_inj, UInt8.reduceToNat] at hp5
                try simp only [UInt8.lt_iff_toNat_lt, UInt8.le_iff_toNat_le, ← UInt8.toNat_inj, UInt8.reduceToNat] at hp6
                try simp only [UInt8.lt_iff_toNat_lt, UInt8.le_iff_toNat_le, ← UInt8.toNat_inj, UInt8.reduceToNat] at hp7
                try simp only [UInt8.lt_iff_toNat_lt, UInt8.le_iff_toNat_le, ← UInt8.toNat_inj, UInt8.reduceToNat] at hp8
                try simp only [UInt8.lt_iff_toNat_lt, UInt8.le_iff_toNat_le, ← UInt8.toNat_inj, UInt8.reduceToNat] at hp9
                unfold kindN
                rw [hz]
                repeat' split
                all_goals omega
              exact ⟨_, [], rfl, ⟨by rw [hk]; rfl, rfl⟩, hw1.sub (by simp) (by simp)⟩
          ·
            have hp10 : ¬ ((g8 z 0) = (2:UInt8)) := of_decide_eq_false hb10
            refine JL_gskip 9 33 true _ rfl rfl hb10 rfl ?_
            refine JL_gskip 9 33 true _ rfl rfl hb10 rfl ?_
            refine JL_gskip 9 33 true _ rfl rfl hb10 rfl ?_
            refine JL_gskip 9 33 true _ rfl rfl hb10 rfl ?_
            refine JL_val _ (Ev_pickF _ rfl hb10 rfl) rfl ?_
            refine JL_val _ (Ev_move rfl) rfl ?_
            refine JL_gskip 15 39 true _ rfl rfl rfl rfl ?_
            refine JL_gskip 15 39 true _ rfl rfl rfl rfl ?_
            refine JL_gskip 15 39 true _ rfl rfl rfl rfl ?_
            refine JL_gskip 15 39 true _ rfl rfl rfl rfl ?_
            refine JL_val _ (Ev_pickF _ rfl rfl rfl) rfl ?_
            refine JL_val _ (Ev_assign rfl) rfl ?_
            refine JL_nil ?_
            refine JQ_then ?_
            refine JC_condF _ rfl rfl ?_
            refine JC_skip ?_
            refine JQ_in_normal ?_
            refine JQ_then ?_
            refine JC_seq ?_
            refine JC_region ?_
            refine JL_val _ (Ev_assign rfl) rfl ?_
            refine JL_nil ?_
            refine JQ_then ?_
            refine JC_ret ?_
            refine JQ_ret (I64 (0:Int)) (res1 Tryd.results76 (RV_tmp rfl)) fun w1 hw1 => ?_
            have hk : kindN z = 0 := by
              try simp only [UInt8.lt_iff_toNat_lt, UInt8.le_iff_toNat_le, ← UInt8.toNat_inj, UInt8.reduceToNat] at hp1
              try simp only [UInt8.lt_iff_toNat_lt, UInt8.le_iff_toNat_le, ← UInt8.toNat_inj, UInt8.reduceToNat] at hp10
              try simp only [UInt8.lt_iff_toNat_lt, UInt8.le_iff_toNat_le, ← UInt8.toNat_inj, UInt8.reduceToNat] at hp11
              try simp only [UInt8.lt_iff_toNat_lt, UInt8.le_iff_toNat_le, ← UInt8.toNat_inj, UInt8.reduceToNat] at hp12
              try simp only [UInt8.lt_iff_toNat_lt, UInt8.le_iff_toNat_le, ← UInt8.toNat_inj, UInt8.reduceToNat] at hp2
              try simp only [UInt8.lt_iff_toNat_lt, UInt8.le_iff_toNat_le, ← UInt8.toNat_inj, UInt8.reduceToNat] at hp3
              try simp only [UInt8.lt_iff_toNat_lt, UInt8.le_iff_toNat_le, ← UInt8.toNat_inj, UInt8.reduceToNat] at hp4
              try simp only [UInt8.lt_iff_toNat_lt, UInt8.le_iff_toNat_le, ← UInt8.toNat_inj, UInt8.reduceToNat] at hp5
              try simp only [UInt8.lt_iff_toNat_lt, UInt8.le_iff_toNat_le, ← UInt8.toNat_inj, UInt8.reduceToNat] at hp6
              try simp only [UInt8.lt_iff_toNat_lt, UInt8.le_iff_toNat_le, ← UInt8.toNat_inj, UInt8.reduceToNat] at hp7
              try simp only [UInt8.lt_iff_toNat_lt, UInt8.le_iff_toNat_le, ← UInt8.toNat_inj, UInt8.reduceToNat] at hp8
              try simp only [UInt8.lt_iff_toNat_lt, UInt8.le_iff_toNat_le, ← UInt8.toNat_inj, UInt8.reduceToNat] at hp9
              unfold kindN
              rw [hz]
              repeat' split
              all_goals omega
            exact ⟨_, [], rfl, ⟨by rw [hk]; rfl, rfl⟩, hw1.sub (by simp) (by simp)⟩
        ·
          have hp9 : ¬ (((n:Int)) = (66:Int)) := of_decide_eq_false hb9
          refine JL_gskip 3 27 true _ rfl rfl hb9 rfl ?_
          refine JL_gskip 3 27 true _ rfl rfl hb9 rfl ?_
          refine JL_gskip 3 27 true _ rfl rfl hb9 rfl ?_
          refine JL_gskip 3 27 true _ rfl rfl hb9 rfl ?_
          refine JL_val _ (Ev_pickF _ rfl hb9 rfl) rfl ?_
          refine JL_val _ (Ev_move rfl) rfl ?_
          refine JL_gskip 9 33 true _ rfl rfl rfl rfl ?_
          refine JL_gskip 9 33 true _ rfl rfl rfl rfl ?_
          refine JL_gskip 9 33 true _ rfl rfl rfl rfl ?_
          refine JL_gskip 9 33 true _ rfl rfl rfl rfl ?_
          refine JL_val _ (Ev_pickF _ rfl rfl rfl) rfl ?_
          refine JL_val _ (Ev_move rfl) rfl ?_
          refine JL_gskip 15 39 true _ rfl rfl rfl rfl ?_
          refine JL_gskip 15 39 true _ rfl rfl rfl rfl ?_
          refine JL_gskip 15 39 true _ rfl rfl rfl rfl ?_
          refine JL_gskip 15 39 true _ rfl rfl rfl rfl ?_
          refine JL_val _ (Ev_pickF _ rfl rfl rfl) rfl ?_
          refine JL_val _ (Ev_assign rfl) rfl ?_
          refine JL_nil ?_
          refine JQ_then ?_
          refine JC_condF _ rfl rfl ?_
          refine JC_skip ?_
          refine JQ_in_normal ?_
          refine JQ_then ?_
          refine JC_seq ?_
          refine JC_region ?_
          refine JL_val _ (Ev_assign rfl) rfl ?_
          refine JL_nil ?_
          refine JQ_then ?_
          refine JC_ret ?_
          refine JQ_ret (I64 (0:Int)) (res1 Tryd.results76 (RV_tmp rfl)) fun w1 hw1 => ?_
          have hk : kindN z = 0 := by
            try simp only [UInt8.lt_iff_toNat_lt, UInt8.le_iff_toNat_le, ← UInt8.toNat_inj, UInt8.reduceToNat] at hp1
            try simp only [UInt8.lt_iff_toNat_lt, UInt8.le_iff_toNat_le, ← UInt8.toNat_inj, UInt8.reduceToNat] at hp10
            try simp only [UInt8.lt_iff_toNat_lt, UInt8.le_iff_toNat_le, ← UInt8.toNat_inj, UInt8.reduceToNat] at hp11
            try simp only [UInt8.lt_iff_toNat_lt, UInt8.le_iff_toNat_le, ← UInt8.toNat_inj, UInt8.reduceToNat] at hp12
            try simp only [UInt8.lt_iff_toNat_lt, UInt8.le_iff_toNat_le, ← UInt8.toNat_inj, UInt8.reduceToNat] at hp2
            try simp only [UInt8.lt_iff_toNat_lt, UInt8.le_iff_toNat_le, ← UInt8.toNat_inj, UInt8.reduceToNat] at hp3
            try simp only [UInt8.lt_iff_toNat_lt, UInt8.le_iff_toNat_le, ← UInt8.toNat_inj, UInt8.reduceToNat] at hp4
            try simp only [UInt8.lt_iff_toNat_lt, UInt8.le_iff_toNat_le, ← UInt8.toNat_inj, UInt8.reduceToNat] at hp5
            try simp only [UInt8.lt_iff_toNat_lt, UInt8.le_iff_toNat_le, ← UInt8.toNat_inj, UInt8.reduceToNat] at hp6
            try simp only [UInt8.lt_iff_toNat_lt, UInt8.le_iff_toNat_le, ← UInt8.toNat_inj, UInt8.reduceToNat] at hp7
            try simp only [UInt8.lt_iff_toNat_lt, UInt8.le_iff_toNat_le, ← UInt8.toNat_inj, UInt8.reduceToNat] at hp8
            try simp only [UInt8.lt_iff_toNat_lt, UInt8.le_iff_toNat_le, ← UInt8.toNat_inj, UInt8.reduceToNat] at hp9
            unfold kindN
            rw [hz]
            repeat' split
            all_goals omega
          exact ⟨_, [], rfl, ⟨by rw [hk]; rfl, rfl⟩, hw1.sub (by simp) (by simp)⟩
  ·
    have hp1 : ¬ (((n:Int)) = (1:Int)) := of_decide_eq_false hb1
    refine JL_gskip 3 7 true _ rfl rfl hb1 rfl ?_
    refine JL_gskip 3 7 true _ rfl rfl hb1 rfl ?_
    refine JL_gskip 3 7 true _ rfl rfl hb1 rfl ?_
    refine JL_gskip 3 7 true _ rfl rfl hb1 rfl ?_
    refine JL_val _ (Ev_pickF _ rfl hb1 rfl) rfl ?_
    refine JL_val _ (Ev_assign rfl) rfl ?_
    refine JL_nil ?_
    refine JQ_then ?_
    refine JC_condF _ rfl rfl ?_
    refine JC_seq ?_
    refine JC_region ?_
    refine JL_val _ (Ev_move rfl) rfl ?_
    refine JL_val (I64 ((n:Int))) (Ev_len Tryd.underlying22 rfl) rfl ?_
    refine JL_val (.bool (decide (((n:Int)) = (61:Int)))) (Ev_bini rfl rfl fun _ => bin_eql_i _ _) rfl ?_
    refine JL_val _ (Ev_move rfl) rfl ?_
    rcases Bool.eq_false_or_eq_true (decide (((n:Int)) = (61:Int))) with hb13 | hb13
    ·
      have hp13 : ((n:Int)) = (61:Int) := of_decide_eq_true hb13
      refine JL_gval 3 17 true _ _ rfl rfl hb13 (Ev_move rfl) rfl ?_
      obtain ⟨bz2, oz2, hz2, hm2⟩ := hr.pos (by rw [hz]; omega)
      refine JL_gval 3 17 true _ (Ptr bz2 oz2) rfl rfl hb13 (Ev_indexSlG 5 1 oz2 Tryd.underlying22 Tryd.sizeOf5 rfl hz2 rfl (by omega) (by omega) (by omega)) rfl ?_
      refine JL_gval 3 17 true _ (U8 (g8 z 0)) rfl rfl hb13 (Ev_load rfl (Ld_one Tryd.isAgg5 (MemAt.seg (MemAt.base hm2.1 hm2.2.1 hm2.2.2) (Seg.get (g8_get (i := 0) (by rw [hz]; omega))) (by omega)))) rfl ?_
      refine JL_gval 3 17 true _ (.bool (decide ((g8 z 0) = (1:UInt8)))) rfl rfl hb13 (Ev_bini rfl rfl fun _ => bin_eql_u8 (g8 z 0) (1:UInt8)) rfl ?_
      refine JL_val _ (Ev_pickT _ rfl hb13 rfl) rfl ?_
      refine JL_val _ (Ev_assign rfl) rfl ?_
      refine JL_nil ?_
      refine JQ_then ?_
      refine JC_cond (decide ((g8 z 0) = (1:UInt8))) rfl (fun hb14 => ?_) (fun hb14 => ?_)
      ·
        have hp14 : (g8 z 0) = (1:UInt8) := of_decide_eq_true hb14
        refine JC_seq ?_
        refine JC_region ?_
        refine JL_val _ (Ev_assign rfl) rfl ?_
        refine JL_nil ?_
        refine JQ_then ?_
        refine JC_ret ?_
        refine JQ_in_ret ?_
        refine JQ_then_ret ?_
        refine JQ_ret (I64 (2:Int)) (res1 Tryd.results76 (RV_tmp rfl)) fun w1 hw1 => ?_
        have hk : kindN z = 2 := by
          try simp only [UInt8.lt_iff_toNat_lt, UInt8.le_iff_toNat_le, ← UInt8.toNat_inj, UInt8.reduceToNat] at hp1
          try simp only [UInt8.lt_iff_toNat_lt, UInt8.le_iff_toNat_le, ← UInt8.toNat_inj, UInt8.reduceToNat] at hp10
          try simp only [UInt8.lt_iff_toNat_lt, UInt8.le_iff_toNat_le, ← UInt8.toNat_inj, UInt8.reduceToNat] at hp11
          try simp only [UInt8.lt_iff_toNat_lt, UInt8.le_iff_toNat_le, ← UInt8.toNat_inj, UInt8.reduceToNat] at hp12
          try simp only [UInt8.lt_iff_toNat_lt, UInt8.le_iff_toNat_le, ← UInt8.toNat_inj, UInt8.reduceToNat] at hp13
          try simp only [UInt8.lt_iff_toNat_lt, UInt8.le_iff_toNat_le, ← UInt8.toNat_inj, UInt8.reduceToNat] at hp14
          try simp only [UInt8.lt_iff_toNat_lt, UInt8.le_iff_toNat_le, ← UInt8.toNat_inj, UInt8.reduceToNat] at hp2
          try simp only [UInt8.lt_iff_toNat_lt, UInt8.le_iff_toNat_le, ← UInt8.toNat_inj, UInt8.reduceToNat] at hp3
          try simp only [UInt8.lt_iff_toNat_lt, UInt8.le_iff_toNat_le, ← UInt8.toNat_inj, UInt8.reduceToNat] at hp4
          try simp only [UInt8.lt_iff_toNat_lt, UInt8.le_iff_toNat_le, ← UInt8.toNat_inj, UInt8.reduceToNat] at hp5
          try simp only [UInt8.lt_iff_toNat_lt, UInt8.le_iff_toNat_le, ← UInt8.toNat_inj, UInt8.reduceToNat] at hp6
          try simp only [UInt8.lt_iff_toNat_lt, UInt8.le_iff_toNat_le, ← UInt8.toNat_inj, UInt8.reduceToNat] at hp7
          try simp only [UInt8.lt_iff_toNat_lt, UInt8.le_iff_toNat_le, ← UInt8.toNat_inj, UInt8.reduceToNat] at hp8
          try simp only [UInt8.lt_iff_toNat_lt, UInt8.le_iff_toNat_le, ← UInt8.toNat_inj, UInt8.reduceToNat] at hp9
          unfold kindN
          rw [hz]
          repeat' split
          all_goals omega
        exact ⟨_, [], rfl, ⟨by rw [hk]; rfl, rfl⟩, hw1.sub (by simp) (by simp)⟩
      ·
        have hp14 : ¬ ((g8 z 0) = (1:UInt8)) := of_decide_eq_false hb14
        refine JC_seq ?_
        refine JC_region ?_
        refine JL_val _ (Ev_move rfl) rfl ?_
        refine JL_val (I64 ((n:Int))) (Ev_len Tryd.underlying22 rfl) rfl ?_
        refine JL_val (.bool (decide (((n:Int)) = (66:Int)))) (Ev_bini rfl rfl fun _ => bin_eql_i _ _) rfl ?_
        refine JL_val _ (Ev_move rfl) rfl ?_
        rcases Bool.eq_false_or_eq_true (decide (((n:Int)) = (66:Int))) with hb15 | hb15
        ·
          have hp15 : ((n:Int)) = (66:Int) := of_decide_eq_true hb15
          refine JL_gval 3 27 true _ _ rfl rfl hb15 (Ev_move rfl) rfl ?_
          refine JL_gval 3 27 true _ (Ptr bz2 oz2) rfl rfl hb15 (Ev_indexSlG 5 1 oz2 Tryd.underlying22 Tryd.sizeOf5 rfl hz2 rfl (by omega) (by omega) (by omega)) rfl ?_
          refine JL_gval 3 27 true _ (U8 (g8 z 0)) rfl rfl hb15 (Ev_load rfl (Ld_one Tryd.isAgg5 (MemAt.seg (MemAt.base hm2.1 hm2.2.1 hm2.2.2) (Seg.get (g8_get (i := 0) (by rw [hz]; omega))) (by omega)))) rfl ?_
          refine JL_gval 3 27 true _ (.bool (decide ((g8 z 0) = (2:UInt8)))) rfl rfl hb15 (Ev_bini rfl rfl fun _ => bin_eql_u8 (g8 z 0) (2:UInt8)) rfl ?_
          refine JL_val _ (Ev_pickT _ rfl hb15 rfl) rfl ?_
          refine JL_val _ (Ev_move rfl) rfl ?_
          rcases Bool.eq_false_or_eq_true (decide ((g8 z 0) = (2:UInt8))) with hb16 | hb16
          ·
            have hp16 : (g8 z 0) = (2:UInt8) := of_decide_eq_true hb16
            refine JL_gval 9 33 true _ _ rfl rfl hb16 (Ev_move rfl) rfl ?_
            refine JL_gval 9 33 true _ (Ptr bz2 (oz2 + 1)) rfl rfl hb16 (Ev_indexSlG 5 1 (oz2 + 1) Tryd.underlying22 Tryd.sizeOf5 rfl hz2 rfl (by omega) (by omega) (by omega)) rfl ?_
            refine JL_gval 9 33 true _ (U8 (g8 z 1)) rfl rfl hb16 (Ev_load rfl (Ld_one Tryd.isAgg5 (MemAt.seg (MemAt.base hm2.1 hm2.2.1 hm2.2.2) (Seg.get (g8_get (i := 1) (by rw [hz]; omega))) (by omega)))) rfl ?_
            refine JL_gval 9 33 true _ (.bool (decide ((1:UInt8) ≤ (g8 z 1)))) rfl rfl hb16 (Ev_bini rfl rfl fun _ => bin_geq_u8 (g8 z 1) (1:UInt8)) rfl ?_
            refine JL_val _ (Ev_pickT _ rfl hb16 rfl) rfl ?_
            refine JL_val _ (Ev_move rfl) rfl ?_
            rcases Bool.eq_false_or_eq_true (decide ((1:UInt8) ≤ (g8 z 1))) with hb17 | hb17
            ·
              have hp17 : (1:UInt8) ≤ (g8 z 1) := of_decide_eq_true hb17
              refine JL_gval 15 39 true _ _ rfl rfl hb17 (Ev_move rfl) rfl ?_
              refine JL_gval 15 39 true _ (Ptr bz2 (oz2 + 1)) rfl rfl hb17 (Ev_indexSlG 5 1 (oz2 + 1) Tryd.underlying22 Tryd.sizeOf5 rfl hz2 rfl (by omega) (by omega) (by omega)) rfl ?_
              refine JL_gval 15 39 true _ (U8 (g8 z 1)) rfl rfl hb17 (Ev_load rfl (Ld_one Tryd.isAgg5 (MemAt.seg (MemAt.base hm2.1 hm2.2.1 hm2.2.2) (Seg.get (g8_get (i := 1) (by rw [hz]; omega))) (by omega)))) rfl ?_
              refine JL_gval 15 39 true _ (.bool (decide ((g8 z 1) ≤ (32:UInt8)))) rfl rfl hb17 (Ev_bini rfl rfl fun _ => bin_leq_u8 (g8 z 1) (32:UInt8)) rfl ?_
              refine JL_val _ (Ev_pickT _ rfl hb17 rfl) rfl ?_
              refine JL_val _ (Ev_assign rfl) rfl ?_
              refine JL_nil ?_
              refine JQ_then ?_
              refine JC_cond (decide ((g8 z 1) ≤ (32:UInt8))) rfl (fun hb18 => ?_) (fun hb18 => ?_)
              ·
                have hp18 : (g8 z 1) ≤ (32:UInt8) := of_decide_eq_true hb18
                refine JC_seq ?_
                refine JC_region ?_
                refine JL_val _ (Ev_assign rfl) rfl ?_
                refine JL_nil ?_
                refine JQ_then ?_
                refine JC_ret ?_
                refine JQ_in_ret ?_
                refine JQ_then_ret ?_
                refine JQ_ret (I64 (3:Int)) (res1 Tryd.results76 (RV_tmp rfl)) fun w1 hw1 => ?_
                have hk : kindN z = 3 := by
                  try simp only [UInt8.lt_iff_toNat_lt, UInt8.le_iff_toNat_le, ← UInt8.toNat_inj, UInt8.reduceToNat] at hp1
                  try simp only [UInt8.lt_iff_toNat_lt, UInt8.le_iff_toNat_le, ← UInt8.toNat_inj, UInt8.reduceToNat] at hp10
                  try simp only [UInt8.lt_iff_toNat_lt, UInt8.le_iff_toNat_le, ← UInt8.toNat_inj, UInt8.reduceToNat] at hp11
                  try simp only [UInt8.lt_iff_toNat_lt, UInt8.le_iff_toNat_le, ← UInt8.toNat_inj, UInt8.reduceToNat] at hp12
                  try simp only [UInt8.lt_iff_toNat_lt, UInt8.le_iff_toNat_le, ← UInt8.toNat_inj, UInt8.reduceToNat] at hp13
                  try simp only [UInt8.lt_iff_toNat_lt, UInt8.le_iff_toNat_le, ← UInt8.toNat_inj, UInt8.reduceToNat] at hp14
                  try simp only [UInt8.lt_iff_toNat_lt, UInt8.le_iff_toNat_le, ← UInt8.toNat_inj, UInt8.reduceToNat] at hp15
                  try simp only [UInt8.lt_iff_toNat_lt, UInt8.le_iff_toNat_le, ← UInt8.toNat_inj, UInt8.reduceToNat] at hp16
                  try simp only [UInt8.lt_iff_toNat_lt, UInt8.le_iff_toNat_le, ← UInt8.toNat_inj, UInt8.reduceToNat] at hp17
                  try simp only [UInt8.lt_iff_toNat_lt, UInt8.le_iff_toNat_le, ← UInt8.toNat_inj, UInt8.reduceToNat] at hp18
                  try simp only [UInt8.lt_iff_toNat_lt, UInt8.le_iff_toNat_le, ← UInt8.toNat_inj, UInt8.reduceToNat] at hp2
                  try simp only [UInt8.lt_iff_toNat_lt, UInt8.le_iff_toNat_le, ← UInt8.toNat_inj, UInt8.reduceToNat] at hp3
                  try simp only [UInt8.lt_iff_toNat_lt, UInt8.le_iff_toNat_le, ← UInt8.toNat_inj, UInt8.reduceToNat] at hp4
                  try simp only [UInt8.lt_iff_toNat_lt, UInt8.le_iff_toNat_le, ← UInt8.toNat_inj, UInt8.reduceToNat] at hp5
                  try simp only [UInt8.lt_iff_toNat_lt, UInt8.le_iff_toNat_le, ← UInt8.toNat_inj, UInt8.reduceToNat] at hp6
                  try simp only [UInt8.lt_iff_toNat_lt, UInt8.le_iff_toNat_le, ← UInt8.toNat_inj, UInt8.reduceToNat] at hp7
                  try simp only [UInt8.lt_iff_toNat_lt, UInt8.le_iff_toNat_le, ← UInt8.toNat_inj, UInt8.reduceToNat] at hp8
                  try simp only [UInt8.lt_iff_toNat_lt, UInt8.le_iff_toNat_le, ← UInt8.toNat_inj, UInt8.reduceToNat] at hp9
                  unfold kindN
                  rw [hz]
                  repeat' split
                  all_goals omega
                exact ⟨_, [], rfl, ⟨by rw [hk]; rfl, rfl⟩, hw1.sub (by simp) (by simp)⟩
              ·
                have hp18 : ¬ ((g8 z 1) ≤ (32:UInt8)) := of_decide_eq_false hb18
                refine JC_skip ?_
                refine JQ_in_normal ?_
                refine JQ_then ?_
                refine JC_seq ?_
                refine JC_region ?_
                refine JL_val _ (Ev_assign rfl) rfl ?_
                refine JL_nil ?_
                refine JQ_then ?_
                refine JC_ret ?_
                refine JQ_ret (I64 (0:Int)) (res1 Tryd.results76 (RV_tmp rfl)) fun w1 hw1 => ?_
                have hk : kindN z = 0 := by
                  try simp only [UInt8.lt_iff_toNat_lt, UInt8.le_iff_toNat_le, ← UInt8.toNat_inj, UInt8.reduceToNat] at hp1
                  try simp only [UInt8.lt_iff_toNat_lt, UInt8.le_iff_toNat_le, ← UInt8.toNat_inj, UInt8.reduceToNat] at hp10
                  try simp only [UInt8.lt_iff_toNat_lt, UInt8.le_iff_toNat_le, ← UInt8.toNat_inj, UInt8.reduceToNat] at hp11
                  try simp only [UInt8.lt_iff_toNat_lt, UInt8.le_iff_toNat_le, ← UInt8.toNat_inj, UInt8.reduceToNat] at hp12
                  try simp only [UInt8.lt_iff_toNat_lt, UInt8.le_iff_toNat_le, ← UInt8.toNat_inj, UInt8.reduceToNat] at hp13
                  try simp only [UInt8.lt_iff_toNat_lt, UInt8.le_iff_toNat_le, ← UInt8.toNat_inj, UInt8.reduceToNat] at hp14
                  try simp only [UInt8.lt_iff_toNat_lt, UInt8.le_iff_toNat_le, ← UInt8.toNat_inj, UInt8.reduceToNat] at hp15
                  try simp only [UInt8.lt_iff_toNat_lt, UInt8.le_iff_toNat_le, ← UInt8.toNat_inj, UInt8.reduceToNat] at hp16
                  try simp only [UInt8.lt_iff_toNat_lt, UInt8.le_iff_toNat_le, ← UInt8.toNat_inj, UInt8.reduceToNat] at hp17
                  try simp only [UInt8.lt_iff_toNat_lt, UInt8.le_iff_toNat_le, ← UInt8.toNat_inj, UInt8.reduceToNat] at hp18
                  try simp only [UInt8.lt_iff_toNat_lt, UInt8.le_iff_toNat_le, ← UInt8.toNat_inj, UInt8.reduceToNat] at hp2
                  try simp only [UInt8.lt_iff_toNat_lt, UInt8.le_iff_toNat_le, ← UInt8.toNat_inj, UInt8.reduceToNat] at hp3
                  try simp only [UInt8.lt_iff_toNat_lt, UInt8.le_iff_toNat_le, ← UInt8.toNat_inj, UInt8.reduceToNat] at hp4
                  try simp only [UInt8.lt_iff_toNat_lt, UInt8.le_iff_toNat_le, ← UInt8.toNat_inj, UInt8.reduceToNat] at hp5
                  try simp only [UInt8.lt_iff_toNat_lt, UInt8.le_iff_toNat_le, ← UInt8.toNat_inj, UInt8.reduceToNat] at hp6
                  try simp only [UInt8.lt_iff_toNat_lt, UInt8.le_iff_toNat_le, ← UInt8.toNat_inj, UInt8.reduceToNat] at hp7
                  try simp only [UInt8.lt_iff_toNat_lt, UInt8.le_iff_toNat_le, ← UInt8.toNat_inj, UInt8.reduceToNat] at hp8
                  try simp only [UInt8.lt_iff_toNat_lt, UInt8.le_iff_toNat_le, ← UInt8.toNat_inj, UInt8.reduceToNat] at hp9
                  unfold kindN
                  rw [hz]
                  repeat' split
                  all_goals omega
                exact ⟨_, [], rfl, ⟨by rw [hk]; rfl, rfl⟩, hw1.sub (by simp) (by simp)⟩
            ·
              have hp17 : ¬ ((1:UInt8) ≤ (g8 z 1)) := of_decide_eq_false hb17
              refine JL_gskip 15 39 true _ rfl rfl hb17 rfl ?_
              refine JL_gskip 15 39 true _ rfl rfl hb17 rfl ?_
              refine JL_gskip 15 39 true _ rfl rfl hb17 rfl ?_
              refine JL_gskip 15 39 true _ rfl rfl hb17 rfl ?_
              refine JL_val _ (Ev_pickF _ rfl hb17 rfl) rfl ?_
              refine JL_val _ (Ev_assign rfl) rfl ?_
              refine JL_nil ?_
              refine JQ_then ?_
              refine JC_condF _ rfl rfl ?_
              refine JC_skip ?_
              refine JQ_in_normal ?_
              refine JQ_then ?_
              refine JC_seq ?_
              refine JC_region ?_
              refine JL_val _ (Ev_assign rfl) rfl ?_
              refine JL_nil ?_
              refine JQ_then ?_
              refine JC_ret ?_
              refine JQ_ret (I64 (0:Int)) (res1 Tryd.results76 (RV_tmp rfl)) fun w1 hw1 => ?_
              have hk : kindN z = 0 := by
                try simp only [UInt8.lt_iff_toNat_lt, UInt8.le_iff_toNat_le, ← UInt8.toNat_inj, UInt8.reduceToNat] at hp1
                try simp only [UInt8.lt_iff_toNat_lt, UInt8.le_iff_toNat_le, ← UInt8.toNat_inj, UInt8.reduceToNat] at hp10
                try simp only [UInt8.lt_iff_toNat_lt, UInt8.le_iff_toNat_le, ← UInt8.toNat_inj, UInt8.reduceToNat] at hp11
                try simp only [UInt8.lt_iff_toNat_lt, UInt8.le_iff_toNat_le, ← UInt8.toNat_inj, UInt8.reduceToNat] at hp12
                try simp only [UInt8.lt_iff_toNat_lt, UInt8.le_iff_toNat_le, ← UInt8.toNat_inj, UInt8.reduceToNat] at hp13
                try simp only [UInt8.lt_iff_toNat_lt, UInt8.le_iff_toNat_le, ← UInt8.toNat_inj, UInt8.reduceToNat] at hp14
                try simp only [UInt8.lt_iff_toNat_lt, UInt8.le_iff_toNat_le, ← UInt8.toNat_inj, UInt8.reduceToNat] at hp15
                try simp only [UInt8.lt_iff_toNat_lt, UInt8.le_iff_toNat_le, ← UInt8.toNat_inj, UInt8.reduceToNat] at hp16
                try simp only [UInt8.lt_iff_toNat_lt, UInt8.le_iff_toNat_le, ← UInt8.toNat_inj, UInt8.reduceToNat] at hp17
                try simp only [UInt8.lt_iff_toNat_lt, UInt8.le_iff_toNat_le, ← UInt8.toNat_inj, UInt8.reduceToNat] at hp18
                try simp only [UInt8.lt_iff_toNat_lt, UInt8.le_iff_toNat_le, ← UInt8.toNat_inj, UInt8.reduceToNat] at hp2
                try simp only [UInt8.lt_iff_toNat_lt, UInt8.le_iff_toNat_le, ← UInt8.toNat_inj, UInt8.reduceToNat] at hp3
                try simp only [UInt8.lt_iff_toNat_lt, UInt8.le_iff_toNat_le, ← UInt8.toNat_inj, UInt8.reduceToNat] at hp4
                try simp only [UInt8.lt_iff_toNat_lt, UInt8.le_iff_toNat_le, ← UInt8.toNat_inj, UInt8.reduceToNat] at hp5
                try simp only [UInt8.lt_iff_toNat_lt, UInt8.le_iff_toNat_le, ← UInt8.toNat_inj, UInt8.reduceToNat] at hp6
                try simp only [UInt8.lt_iff_toNat_lt, UInt8.le_iff_toNat_le, ← UInt8.toNat_inj, UInt8.reduceToNat] at hp7
                try simp only [UInt8.lt_iff_toNat_lt, UInt8.le_iff_toNat_le, ← UInt8.toNat_inj, UInt8.reduceToNat] at hp8
                try simp only [UInt8.lt_iff_toNat_lt, UInt8.le_iff_toNat_le, ← UInt8.toNat_inj, UInt8.reduceToNat] at hp9
                unfold kindN
                rw [hz]
                repeat' split
                all_goals omega
              exact ⟨_, [], rfl, ⟨by rw [hk]; rfl, rfl⟩, hw1.sub (by simp) (by simp)⟩
          ·
            have hp16 : ¬ ((g8 z 0) = (2:UInt8)) := of_decide_eq_false hb16
            refine JL_gskip 9 33 true _ rfl rfl hb16 rfl ?_
            refine JL_gskip 9 33 true _ rfl rfl hb16 rfl ?_
            refine JL_gskip 9 33 true _ rfl rfl hb16 rfl ?_
            refine JL_gskip 9 33 true _ rfl rfl hb16 rfl ?_
            refine JL_val _ (Ev_pickF _ rfl hb16 rfl) rfl ?_
            refine JL_val _ (Ev_move rfl) rfl ?_
            refine JL_gskip 15 39 true _ rfl rfl rfl rfl ?_
            refine JL_gskip 15 39 true _ rfl rfl rfl rfl ?_
            refine JL_gskip 15 39 true _ rfl rfl rfl rfl ?_
            refine JL_gskip 15 39 true _ rfl rfl rfl rfl ?_
            refine JL_val _ (Ev_pickF _ rfl rfl rfl) rfl ?_
            refine JL_val _ (Ev_assign rfl) rfl ?_
            refine JL_nil ?_
            refine JQ_then ?_
            refine JC_condF _ rfl rfl ?_
            refine JC_skip ?_
            refine JQ_in_normal ?_
            refine JQ_then ?_
            refine JC_seq ?_
            refine JC_region ?_
            refine JL_val _ (Ev_assign rfl) rfl ?_
            refine JL_nil ?_
            refine JQ_then ?_
            refine JC_ret ?_
            refine JQ_ret (I64 (0:Int)) (res1 Tryd.results76 (RV_tmp rfl)) fun w1 hw1 => ?_
            have hk : kindN z = 0 := by
              try simp only [UInt8.lt_iff_toNat_lt, UInt8.le_iff_toNat_le, ← UInt8.toNat_inj, UInt8.reduceToNat] at hp1
              try simp only [UInt8.lt_iff_toNat_lt, UInt8.le_iff_toNat_le, ← UInt8.toNat_inj, UInt8.reduceToNat] at hp10
              try simp only [UInt8.lt_iff_toNat_lt, UInt8.le_iff_toNat_le, ← UInt8.toNat_inj, UInt8.reduceToNat] at hp11
              try simp only [UInt8.lt_iff_toNat_lt, UInt8.le_iff_toNat_le, ← UInt8.toNat_inj, UInt8.reduceToNat] at hp12
              try simp only [UInt8.lt_iff_toNat_lt, UInt8.le_iff_toNat_le, ← UInt8.toNat_inj, UInt8.reduceToNat] at hp13
              try simp only [UInt8.lt_iff_toNat_lt, UInt8.le_iff_toNat_le, ← UInt8.toNat_inj, UInt8.reduceToNat] at hp14
              try simp only [UInt8.lt_iff_toNat_lt, UInt8.le_iff_toNat_le, ← UInt8.toNat_inj, UInt8.reduceToNat] at hp15
              try simp only [UInt8.lt_iff_toNat_lt, UInt8.le_iff_toNat_le, ← UInt8.toNat_inj, UInt8.reduceToNat] at hp16
              try simp only [UInt8.lt_iff_toNat_lt, UInt8.le_iff_toNat_le, ← UInt8.toNat_inj, UInt8.reduceToNat] at hp17
              try simp only [UInt8.lt_iff_toNat_lt, UInt8.le_iff_toNat_le, ← UInt8.toNat_inj, UInt8.reduceToNat] at hp18
              try simp only [UInt8.lt_iff_toNat_lt, UInt8.le_iff_toNat_le, ← UInt8.toNat_inj, UInt8.reduceToNat] at hp2
              try simp only [UInt8.lt_iff_toNat_lt, UInt8.le_iff_toNat_le, ← UInt8.toNat_inj, UInt8.reduceToNat] at hp3
              try simp only [UInt8.lt_iff_toNat_lt, UInt8.le_iff_toNat_le, ← UInt8.toNat_inj, UInt8.reduceToNat] at hp4
              try simp only [UInt8.lt_iff_toNat_lt, UInt8.le_iff_toNat_le, ← UInt8.toNat_inj, UInt8.reduceToNat] at hp5
              try simp only [UInt8.lt_iff_toNat_lt, UInt8.le_iff_toNat_le, ← UInt8.toNat_inj, UInt8.reduceToNat] at hp6
              try simp only [UInt8.lt_iff_toNat_lt, UInt8.le_iff_toNat_le, ← UInt8.toNat_inj, UInt8.reduceToNat] at hp7
              try simp only [UInt8.lt_iff_toNat_lt, UInt8.le_iff_toNat_le, ← UInt8.toNat_inj, UInt8.reduceToNat] at hp8
              try simp only [UInt8.lt_iff_toNat_lt, UInt8.le_iff_toNat_le, ← UInt8.toNat_inj, UInt8.reduceToNat] at hp9
              unfold kindN
              rw [hz]
              repeat' split
              all_goals omega
            exact ⟨_, [], rfl, ⟨by rw [hk]; rfl, rfl⟩, hw1.sub (by simp) (by simp)⟩
        ·
          have hp15 : ¬ (((n:Int)) = (66:Int)) := of_decide_eq_false hb15
          refine JL_gskip 3 27 true _ rfl rfl hb15 rfl ?_
          refine JL_gskip 3 27 true _ rfl rfl hb15 rfl ?_
          refine JL_gskip 3 27 true _ rfl rfl hb15 rfl ?_
          refine JL_gskip 3 27 true _ rfl rfl hb15 rfl ?_
          refine JL_val _ (Ev_pickF _ rfl hb15 rfl) rfl ?_
          refine JL_val _ (Ev_move rfl) rfl ?_
          refine JL_gskip 9 33 true _ rfl rfl rfl rfl ?_
          refine JL_gskip 9 33 true _ rfl rfl rfl rfl ?_
          refine JL_gskip 9 33 true _ rfl rfl rfl rfl ?_
          refine JL_gskip 9 33 true _ rfl rfl rfl rfl ?_
          refine JL_val _ (Ev_pickF _ rfl rfl rfl) rfl ?_
          refine JL_val _ (Ev_move rfl) rfl ?_
          refine JL_gskip 15 39 true _ rfl rfl rfl rfl ?_
          refine JL_gskip 15 39 true _ rfl rfl rfl rfl ?_
          refine JL_gskip 15 39 true _ rfl rfl rfl rfl ?_
          refine JL_gskip 15 39 true _ rfl rfl rfl rfl ?_
          refine JL_val _ (Ev_pickF _ rfl rfl rfl) rfl ?_
          refine JL_val _ (Ev_assign rfl) rfl ?_
          refine JL_nil ?_
          refine JQ_then ?_
          refine JC_condF _ rfl rfl ?_
          refine JC_skip ?_
          refine JQ_in_normal ?_
          refine JQ_then ?_
          refine JC_seq ?_
          refine JC_region ?_
          refine JL_val _ (Ev_assign rfl) rfl ?_
          refine JL_nil ?_
          refine JQ_then ?_
          refine JC_ret ?_
          refine JQ_ret (I64 (0:Int)) (res1 Tryd.results76 (RV_tmp rfl)) fun w1 hw1 => ?_
          have hk : kindN z = 0 := by
            try simp only [UInt8.lt_iff_toNat_lt, UInt8.le_iff_toNat_le, ← UInt8.toNat_inj, UInt8.reduceToNat] at hp1
            try simp only [UInt8.lt_iff_toNat_lt, UInt8.le_iff_toNat_le, ← UInt8.toNat_inj, UInt8.reduceToNat] at hp10
            try simp only [UInt8.lt_iff_toNat_lt, UInt8.le_iff_toNat_le, ← UInt8.toNat_inj, UInt8.reduceToNat] at hp11
            try simp only [UInt8.lt_iff_toNat_lt, UInt8.le_iff_toNat_le, ← UInt8.toNat_inj, UInt8.reduceToNat] at hp12
            try simp only [UInt8.lt_iff_toNat_lt, UInt8.le_iff_toNat_le, ← UInt8.toNat_inj, UInt8.reduceToNat] at hp13
            try simp only [UInt8.lt_iff_toNat_lt, UInt8.le_iff_toNat_le, ← UInt8.toNat_inj, UInt8.reduceToNat] at hp14
            try simp only [UInt8.lt_iff_toNat_lt, UInt8.le_iff_toNat_le, ← UInt8.toNat_inj, UInt8.reduceToNat] at hp15
            try simp only [UInt8.lt_iff_toNat_lt, UInt8.le_iff_toNat_le, ← UInt8.toNat_inj, UInt8.reduceToNat] at hp16
            try simp only [UInt8.lt_iff_toNat_lt, UInt8.le_iff_toNat_le, ← UInt8.toNat_inj, UInt8.reduceToNat] at hp17
            try simp only [UInt8.lt_iff_toNat_lt, UInt8.le_iff_toNat_le, ← UInt8.toNat_inj, UInt8.reduceToNat] at hp18
            try simp only [UInt8.lt_iff_toNat_lt, UInt8.le_iff_toNat_le, ← UInt8.toNat_inj, UInt8.reduceToNat] at hp2
            try simp only [UInt8.lt_iff_toNat_lt, UInt8.le_iff_toNat_le, ← UInt8.toNat_inj, UInt8.reduceToNat] at hp3
            try simp only [UInt8.lt_iff_toNat_lt, UInt8.le_iff_toNat_le, ← UInt8.toNat_inj, UInt8.reduceToNat] at hp4
            try simp only [UInt8.lt_iff_toNat_lt, UInt8.le_iff_toNat_le, ← UInt8.toNat_inj, UInt8.reduceToNat] at hp5
            try simp only [UInt8.lt_iff_toNat_lt, UInt8.le_iff_toNat_le, ← UInt8.toNat_inj, UInt8.reduceToNat] at hp6
            try simp only [UInt8.lt_iff_toNat_lt, UInt8.le_iff_toNat_le, ← UInt8.toNat_inj, UInt8.reduceToNat] at hp7
            try simp only [UInt8.lt_iff_toNat_lt, UInt8.le_iff_toNat_le, ← UInt8.toNat_inj, UInt8.reduceToNat] at hp8
            try simp only [UInt8.lt_iff_toNat_lt, UInt8.le_iff_toNat_le, ← UInt8.toNat_inj, UInt8.reduceToNat] at hp9
            unfold kindN
            rw [hz]
            repeat' split
            all_goals omega
          exact ⟨_, [], rfl, ⟨by rw [hk]; rfl, rfl⟩, hw1.sub (by simp) (by simp)⟩
    ·
      have hp13 : ¬ (((n:Int)) = (61:Int)) := of_decide_eq_false hb13
      refine JL_gskip 3 17 true _ rfl rfl hb13 rfl ?_
      refine JL_gskip 3 17 true _ rfl rfl hb13 rfl ?_
      refine JL_gskip 3 17 true _ rfl rfl hb13 rfl ?_
      refine JL_gskip 3 17 true _ rfl rfl hb13 rfl ?_
      refine JL_val _ (Ev_pickF _ rfl hb13 rfl) rfl ?_
      refine JL_val _ (Ev_assign rfl) rfl ?_
      refine JL_nil ?_
      refine JQ_then ?_
      refine JC_condF _ rfl rfl ?_
      refine JC_seq ?_
      refine JC_region ?_
      refine JL_val _ (Ev_move rfl) rfl ?_
      refine JL_val (I64 ((n:Int))) (Ev_len Tryd.underlying22 rfl) rfl ?_
      refine JL_val (.bool (decide (((n:Int)) = (66:Int)))) (Ev_bini rfl rfl fun _ => bin_eql_i _ _) rfl ?_
      refine JL_val _ (Ev_move rfl) rfl ?_
      rcases Bool.eq_false_or_eq_true (decide (((n:Int)) = (66:Int))) with hb19 | hb19
      ·
        have hp19 : ((n:Int)) = (66:Int) := of_decide_eq_true hb19
        refine JL_gval 3 27 true _ _ rfl rfl hb19 (Ev_move rfl) rfl ?_
        obtain ⟨bz3, oz3, hz3, hm3⟩ := hr.pos (by rw [hz]; omega)
        refine JL_gval 3 27 true _ (Ptr bz3 oz3) rfl rfl hb19 (Ev_indexSlG 5 1 oz3 Tryd.underlying22 Tryd.sizeOf5 rfl hz3 rfl (by omega) (by omega) (by omega)) rfl ?_
        refine JL_gval 3 27 true _ (U8 (g8 z 0)) rfl rfl hb19 (Ev_load rfl (Ld_one Tryd.isAgg5 (MemAt.seg (MemAt.base hm3.1 hm3.2.1 hm3.2.2) (Seg.get (g8_get (i := 0) (by rw [hz]; omega))) (by omega)))) rfl ?_
        refine JL_gval 3 27 true _ (.bool (decide ((g8 z 0) = (2:UInt8)))) rfl rfl hb19 (Ev_bini rfl rfl fun _ => bin_eql_u8 (g8 z 0) (2:UInt8)) rfl ?_
        refine JL_val _ (Ev_pickT _ rfl hb19 rfl) rfl ?_
        refine JL_val _ (Ev_move rfl) rfl ?_
        rcases Bool.eq_false_or_eq_true (decide ((g8 z 0) = (2:UInt8))) with hb20 | hb20
        ·
          have hp20 : (g8 z 0) = (2:UInt8) := of_decide_eq_true hb20
          refine JL_gval 9 33 true _ _ rfl rfl hb20 (Ev_move rfl) rfl ?_
          refine JL_gval 9 33 true _ (Ptr bz3 (oz3 + 1)) rfl rfl hb20 (Ev_indexSlG 5 1 (oz3 + 1) Tryd.underlying22 Tryd.sizeOf5 rfl hz3 rfl (by omega) (by omega) (by omega)) rfl ?_
          refine JL_gval 9 33 true _ (U8 (g8 z 1)) rfl rfl hb20 (Ev_load rfl (Ld_one Tryd.isAgg5 (MemAt.seg (MemAt.base hm3.1 hm3.2.1 hm3.2.2) (Seg.get (g8_get (i := 1) (by rw [hz]; omega))) (by omega)))) rfl ?_
          refine JL_gval 9 33 true _ (.bool (decide ((1:UInt8) ≤ (g8 z 1)))) rfl rfl hb20 (Ev_bini rfl rfl fun _ => bin_geq_u8 (g8 z 1) (1:UInt8)) rfl ?_
          refine JL_val _ (Ev_pickT _ rfl hb20 rfl) rfl ?_
          refine JL_val _ (Ev_move rfl) rfl ?_
          rcases Bool.eq_false_or_eq_true (decide ((1:UInt8) ≤ (g8 z 1))) with hb21 | hb21
          ·
            have hp21 : (1:UInt8) ≤ (g8 z 1) := of_decide_eq_true hb21
            refine JL_gval 15 39 true _ _ rfl rfl hb21 (Ev_move rfl) rfl ?_
            refine JL_gval 15 39 true _ (Ptr bz3 (oz3 + 1)) rfl rfl hb21 (Ev_indexSlG 5 1 (oz3 + 1) Tryd.underlying22 Tryd.sizeOf5 rfl hz3 rfl (by omega) (by omega) (by omega)) rfl ?_
            refine JL_gval 15 39 true _ (U8 (g8 z 1)) rfl rfl hb21 (Ev_load rfl (Ld_one Tryd.isAgg5 (MemAt.seg (MemAt.base hm3.1 hm3.2.1 hm3.2.2) (Seg.get (g8_get (i := 1) (by rw [hz]; omega))) (by omega)))) rfl ?_
            refine JL_gval 15 39 true _ (.bool (decide ((g8 z 1) ≤ (32:UInt8)))) rfl rfl hb21 (Ev_bini rfl rfl fun _ => bin_leq_u8 (g8 z 1) (32:UInt8)) rfl ?_
            refine JL_val _ (Ev_pickT _ rfl hb21 rfl) rfl ?_
            refine JL_val _ (Ev_assign rfl) rfl ?_
            refine JL_nil ?_
            refine JQ_then ?_
            refine JC_cond (decide ((g8 z 1) ≤ (32:UInt8))) rfl (fun hb22 => ?_) (fun hb22 => ?_)
            ·
              have hp22 : (g8 z 1) ≤ (32:UInt8) := of_decide_eq_true hb22
              refine JC_seq ?_
              refine JC_region ?_
              refine JL_val _ (Ev_assign rfl) rfl ?_
              refine JL_nil ?_
              refine JQ_then ?_
              refine JC_ret ?_
              refine JQ_in_ret ?_
              refine JQ_then_ret ?_
              refine JQ_ret (I64 (3:Int)) (res1 Tryd.results76 (RV_tmp rfl)) fun w1 hw1 => ?_
              have hk : kindN z = 3 := by
                try simp only [UInt8.lt_iff_toNat_lt, UInt8.le_iff_toNat_le, ← UInt8.toNat_inj, UInt8.reduceToNat] at hp1
                try simp only [UInt8.lt_iff_toNat_lt, UInt8.le_iff_toNat_le, ← UInt8.toNat_inj, UInt8.reduceToNat] at hp10
                try simp only [UInt8.lt_iff_toNat_lt, UInt8.le_iff_toNat_le, ← UInt8.toNat_inj, UInt8.reduceToNat] at hp11
                try simp only [UInt8.lt_iff_toNat_lt, UInt8.le_iff_toNat_le, ← UInt8.toNat_inj, UInt8.reduceToNat] at hp12
                try simp only [UInt8.lt_iff_toNat_lt, UInt8.le_iff_toNat_le, ← UInt8.toNat_inj, UInt8.reduceToNat] at hp13
                try simp only [UInt8.lt_iff_toNat_lt, UInt8.le_iff_toNat_le, ← UInt8.toNat_inj, UInt8.reduceToNat] at hp14
                try simp only [UInt8.lt_iff_toNat_lt, UInt8.le_iff_toNat_le, ← UInt8.toNat_inj, UInt8.reduceToNat] at hp15
                try simp only [UInt8.lt_iff_toNat_lt, UInt8.le_iff_toNat_le, ← UInt8.toNat_inj, UInt8.reduceToNat] at hp16
                try simp only [UInt8.lt_iff_toNat_lt, UInt8.le_iff_toNat_le, ← UInt8.toNat_inj, UInt8.reduceToNat] at hp17
                try simp only [UInt8.lt_iff_toNat_lt, UInt8.le_iff_toNat_le, ← UInt8.toNat_inj, UInt8.reduceToNat] at hp18
                try simp only [UInt8.lt_iff_toNat_lt, UInt8.le_iff_toNat_le, ← UInt8.toNat_inj, UInt8.reduceToNat] at hp19
                try simp only [UInt8.lt_iff_toNat_lt, UInt8.le_iff_toNat_le, ← UInt8.toNat_inj, UInt8.reduceToNat] at hp2
                try simp only [UInt8.lt_iff_toNat_lt, UInt8.le_iff_toNat_le, ← UInt8.toNat_inj, UInt8.reduceToNat] at hp20
                try simp only [UInt8.lt_iff_toNat_lt, UInt8.le_iff_toNat_le, ← UInt8.toNat_inj, UInt8.reduceToNat] at hp21
                try simp only [UInt8.lt_iff_toNat_lt, UInt8.le_iff_toNat_le, ← UInt8.toNat_inj, UInt8.reduceToNat] at hp22
                try simp only [UInt8.lt_iff_toNat_lt, UInt8.le_iff_toNat_le, ← UInt8.toNat_inj, UInt8.reduceToNat] at hp3
                try simp only [UInt8.lt_iff_toNat_lt, UInt8.le_iff_toNat_le, ← UInt8.toNat_inj, UInt8.reduceToNat] at hp4
                try simp only [UInt8.lt_iff_toNat_lt, UInt8.le_iff_toNat_le, ← UInt8.toNat_inj, UInt8.reduceToNat] at hp5
                try simp only [UInt8.lt_iff_toNat_lt, UInt8.le_iff_toNat_le, ← UInt8.toNat_inj, UInt8.reduceToNat] at hp6
                try simp only [UInt8.lt_iff_toNat_lt, UInt8.le_iff_toNat_le, ← UInt8.toNat_inj, UInt8.reduceToNat] at hp7
                try simp only [UInt8.lt_iff_toNat_lt, UInt8.le_iff_toNat_le, ← UInt8.toNat_inj, UInt8.reduceToNat] at hp8
                try simp only [UInt8.lt_iff_toNat_lt, UInt8.le_iff_toNat_le, ← UInt8.toNat_inj, UInt8.reduceToNat] at hp9
                unfold kindN
                rw [hz]
                repeat' split
                all_goals omega
              exact ⟨_, [], rfl, ⟨by rw [hk]; rfl, rfl⟩, hw1.sub (by simp) (by simp)⟩
            ·
              have hp22 : ¬ ((g8 z 1) ≤ (32:UInt8)) := of_decide_eq_false hb22
              refine JC_skip ?_
              refine JQ_in_normal ?_
              refine JQ_then ?_
              refine JC_seq ?_
              refine JC_region ?_
              refine JL_val _ (Ev_assign rfl) rfl ?_
              refine JL_nil ?_
              refine JQ_then ?_
              refine JC_ret ?_
              refine JQ_ret (I64 (0:Int)) (res1 Tryd.results76 (RV_tmp rfl)) fun w1 hw1 => ?_
              have hk : kindN z = 0 := by
                try simp only [UInt8.lt_iff_toNat_lt, UInt8.le_iff_toNat_le, ← UInt8.toNat_inj, UInt8.reduceToNat] at hp1
                try simp only [UInt8.lt_iff_toNat_lt, UInt8.le_iff_toNat_le, ← UInt8.toNat_inj, UInt8.reduceToNat] at hp10
                try simp only [UInt8.lt_iff_toNat_lt, UInt8.le_iff_toNat_le, ← UInt8.toNat_inj, UInt8.reduceToNat] at hp11
                try simp only [UInt8.lt_iff_toNat_lt, UInt8.le_iff_toNat_le, ← UInt8.toNat_inj, UInt8.reduceToNat] at hp12
                try simp only [UInt8.lt_iff_toNat_lt, UInt8.le_iff_toNat_le, ← UInt8.toNat_inj, UInt8.reduceToNat] at hp13
                try simp only [UInt8.lt_iff_toNat_lt, UInt8.le_iff_toNat_le, ← UInt8.toNat_inj, UInt8.reduceToNat] at hp14
                try simp only [UInt8.lt_iff_toNat_lt, UInt8.le_iff_toNat_le, ← UInt8.toNat_inj, UInt8.reduceToNat] at hp15
                try simp only [UInt8.lt_iff_toNat_lt, UInt8.le_iff_toNat_le, ← UInt8.toNat_inj, UInt8.reduceToNat] at hp16
                try simp only [UInt8.lt_iff_toNat_lt, UInt8.le_iff_toNat_le, ← UInt8.toNat_inj, UInt8.reduceToNat] at hp17
                try simp only [UInt8.lt_iff_toNat_lt, UInt8.le_iff_toNat_le, ← UInt8.toNat_inj, UInt8.reduceToNat] at hp18
                try simp only [UInt8.lt_iff_toNat_lt, UInt8.le_iff_toNat_le, ← UInt8.toNat_inj, UInt8.reduceToNat] at hp19
                try simp only [UInt8.lt_iff_toNat_lt, UInt8.le_iff_toNat_le, ← UInt8.toNat_inj, UInt8.reduceToNat] at hp2
                try simp only [UInt8.lt_iff_toNat_lt, UInt8.le_iff_toNat_le, ← UInt8.toNat_inj, UInt8.reduceToNat] at hp20
                try simp only [UInt8.lt_iff_toNat_lt, UInt8.le_iff_toNat_le, ← UInt8.toNat_inj, UInt8.reduceToNat] at hp21
                try simp only [UInt8.lt_iff_toNat_lt, UInt8.le_iff_toNat_le, ← UInt8.toNat_inj, UInt8.reduceToNat] at hp22
                try simp only [UInt8.lt_iff_toNat_lt, UInt8.le_iff_toNat_le, ← UInt8.toNat_inj, UInt8.reduceToNat] at hp3
                try simp only [UInt8.lt_iff_toNat_lt, UInt8.le_iff_toNat_le, ← UInt8.toNat_inj, UInt8.reduceToNat] at hp4
                try simp only [UInt8.lt_iff_toNat_lt, UInt8.le_iff_toNat_le, ← UInt8.toNat_inj, UInt8.reduceToNat] at hp5
                try simp only [UInt8.lt_iff_toNat_lt, UInt8.le_iff_toNat_le, ← UInt8.toNat_inj, UInt8.reduceToNat] at hp6
                try simp only [UInt8.lt_iff_toNat_lt, UInt8.le_iff_toNat_le, ← UInt8.toNat_inj, UInt8.reduceToNat] at hp7
                try simp only [UInt8.lt_iff_toNat_lt, UInt8.le_iff_toNat_le, ← UInt8.toNat_inj, UInt8.reduceToNat] at hp8
                try simp only [UInt8.lt_iff_toNat_lt, UInt8.le_iff_toNat_le, ← UInt8.toNat_inj, UInt8.reduceToNat] at hp9
                unfold kindN
                rw [hz]
                repeat' split
                all_goals omega
              exact ⟨_, [], rfl, ⟨by rw [hk]; rfl, rfl⟩, hw1.sub (by simp) (by simp)⟩
          ·
            have hp21 : ¬ ((1:UInt8) ≤ (g8 z 1)) := of_decide_eq_false hb21
            refine JL_gskip 15 39 true _ rfl rfl hb21 rfl ?_
            refine JL_gskip 15 39 true _ rfl rfl hb21 rfl ?_
            refine JL_gskip 15 39 true _ rfl rfl hb21 rfl ?_
            refine JL_gskip 15 39 true _ rfl rfl hb21 rfl ?_
            refine JL_val _ (Ev_pickF _ rfl hb21 rfl) rfl ?_
            refine JL_val _ (Ev_assign rfl) rfl ?_
            refine JL_nil ?_
            refine JQ_then ?_
            refine JC_condF _ rfl rfl ?_
            refine JC_skip ?_
            refine JQ_in_normal ?_
            refine JQ_then ?_
            refine JC_seq ?_
            refine JC_region ?_
            refine JL_val _ (Ev_assign rfl) rfl ?_
            refine JL_nil ?_
            refine JQ_then ?_
            refine JC_ret ?_
            refine JQ_ret (I64 (0:Int)) (res1 Tryd.results76 (RV_tmp rfl)) fun w1 hw1 => ?_
            have hk : kindN z = 0 := by
              try simp only [UInt8.lt_iff_toNat_lt, UInt8.le_iff_toNat_le, ← UInt8.toNat_inj, UInt8.reduceToNat] at hp1
              try simp only [UInt8.lt_iff_toNat_lt, UInt8.le_iff_toNat_le, ← UInt8.toNat_inj, UInt8.reduceToNat] at hp10
              try simp only [UInt8.lt_iff_toNat_lt, UInt8.le_iff_toNat_le, ← UInt8.toNat_inj, UInt8.reduceToNat] at hp11
              try simp only [UInt8.lt_iff_toNat_lt, UInt8.le_iff_toNat_le, ← UInt8.toNat_inj, UInt8.reduceToNat] at hp12
              try simp only [UInt8.lt_iff_toNat_lt, UInt8.le_iff_toNat_le, ← UInt8.toNat_inj, UInt8.reduceToNat] at hp13
              try simp only [UInt8.lt_iff_toNat_lt, UInt8.le_iff_toNat_le, ← UInt8.toNat_inj, UInt8.reduceToNat] at hp14
              try simp only [UInt8.lt_iff_toNat_lt, UInt8.le_iff_toNat_le, ← UInt8.toNat_inj, UInt8.reduceToNat] at hp15
              try simp only [UInt8.lt_iff_toNat_lt, UInt8.le_iff_toNat_le, ← UInt8.toNat_inj, UInt8.reduceToNat] at hp16
              try simp only [UInt8.lt_iff_toNat_lt, UInt8.le_iff_toNat_le, ← UInt8.toNat_inj, UInt8.reduceToNat] at hp17
              try simp only [UInt8.lt_iff_toNat_lt, UInt8.le_iff_toNat_le, ← UInt8.toNat_inj, UInt8.reduceToNat] at hp18
              try simp only [UInt8.lt_iff_toNat_lt, UInt8.le_iff_toNat_le, ← UInt8.toNat_inj, UInt8.reduceToNat] at hp19
              try simp only [UInt8.lt_iff_toNat_lt, UInt8.le_iff_toNat_le, ← UInt8.toNat_inj, UInt8.reduceToNat] at hp2
              try simp only [UInt8.lt_iff_toNat_lt, UInt8.le_iff_toNat_le, ← UInt8.toNat_inj, UInt8.reduceToNat] at hp20
              try simp only [UInt8.lt_iff_toNat_lt, UInt8.le_iff_toNat_le, ← UInt8.toNat_inj, UInt8.reduceToNat] at hp21
              try simp only [UInt8.lt_iff_toNat_lt, UInt8.le_iff_toNat_le, ← UInt8.toNat_inj, UInt8.reduceToNat] at hp22
              try simp only [UInt8.lt_iff_toNat_lt, UInt8.le_iff_toNat_le, ← UInt8.toNat_inj, UInt8.reduceToNat] at hp3
              try simp only [UInt8.lt_iff_toNat_lt, UInt8.le_iff_toNat_le, ← UInt8.toNat_inj, UInt8.reduceToNat] at hp4
              try simp only [UInt8.lt_iff_toNat_lt, UInt8.le_iff_toNat_le, ← UInt8.toNat_inj, UInt8.reduceToNat] at hp5
              try simp only [UInt8.lt_iff_toNat_lt, UInt8.le_iff_toNat_le, ← UInt8.toNat_inj, UInt8.reduceToNat] at hp6
              try simp only [UInt8.lt_iff_toNat_lt, UInt8.le_iff_toNat_le, ← UInt8.toNat_inj, UInt8.reduceToNat] at hp7
              try simp only [UInt8.lt_iff_toNat_lt, UInt8.le_iff_toNat_le, ← UInt8.toNat_inj, UInt8.reduceToNat] at hp8
              try simp only [UInt8.lt_iff_toNat_lt, UInt8.le_iff_toNat_le, ← UInt8.toNat_inj, UInt8.reduceToNat] at hp9
              unfold kindN
              rw [hz]
              repeat' split
              all_goals omega
            exact ⟨_, [], rfl, ⟨by rw [hk]; rfl, rfl⟩, hw1.sub (by simp) (by simp)⟩
        ·
          have hp20 : ¬ ((g8 z 0) = (2:UInt8)) := of_decide_eq_false hb20
          refine JL_gskip 9 33 true _ rfl rfl hb20 rfl ?_
          refine JL_gskip 9 33 true _ rfl rfl hb20 rfl ?_
          refine JL_gskip 9 33 true _ rfl rfl hb20 rfl ?_
          refine JL_gskip 9 33 true _ rfl rfl hb20 rfl ?_
          refine JL_val _ (Ev_pickF _ rfl hb20 rfl) rfl ?_
          refine JL_val _ (Ev_move rfl) rfl ?_
          refine JL_gskip 15 39 true _ rfl rfl rfl rfl ?_
          refine JL_gskip 15 39 true _ rfl rfl rfl rfl ?_
          refine JL_gskip 15 39 true _ rfl rfl rfl rfl ?_
          refine JL_gskip 15 39 true _ rfl rfl rfl rfl ?_
          refine JL_val _ (Ev_pickF _ rfl rfl rfl) rfl ?_
          refine JL_val _ (Ev_assign rfl) rfl ?_
          refine JL_nil ?_
          refine JQ_then ?_
          refine JC_condF _ rfl rfl ?_
          refine JC_skip ?_
          refine JQ_in_normal ?_
          refine JQ_then ?_
          refine JC_seq ?_
          refine JC_region ?_
          refine JL_val _ (Ev_assign rfl) rfl ?_
          refine JL_nil ?_
          refine JQ_then ?_
          refine JC_ret ?_
          refine JQ_ret (I64 (0:Int)) (res1 Tryd.results76 (RV_tmp rfl)) fun w1 hw1 => ?_
          have hk : kindN z = 0 := by
            try simp only [UInt8.lt_iff_toNat_lt, UInt8.le_iff_toNat_le, ← UInt8.toNat_inj, UInt8.reduceToNat] at hp1
            try simp only [UInt8.lt_iff_toNat_lt, UInt8.le_iff_toNat_le, ← UInt8.toNat_inj, UInt8.reduceToNat] at hp10
            try simp only [UInt8.lt_iff_toNat_lt, UInt8.le_iff_toNat_le, ← UInt8.toNat_inj, UInt8.reduceToNat] at hp11
            try simp only [UInt8.lt_iff_toNat_lt, UInt8.le_iff_toNat_le, ← UInt8.toNat_inj, UInt8.reduceToNat] at hp12
            try simp only [UInt8.lt_iff_toNat_lt, UInt8.le_iff_toNat_le, ← UInt8.toNat_inj, UInt8.reduceToNat] at hp13
            try simp only [UInt8.lt_iff_toNat_lt, UInt8.le_iff_toNat_le, ← UInt8.toNat_inj, UInt8.reduceToNat] at hp14
            try simp only [UInt8.lt_iff_toNat_lt, UInt8.le_iff_toNat_le, ← UInt8.toNat_inj, UInt8.reduceToNat] at hp15
            try simp only [UInt8.lt_iff_toNat_lt, UInt8.le_iff_toNat_le, ← UInt8.toNat_inj, UInt8.reduceToNat] at hp16
            try simp only [UInt8.lt_iff_toNat_lt, UInt8.le_iff_toNat_le, ← UInt8.toNat_inj, UInt8.reduceToNat] at hp17
            try simp only [UInt8.lt_iff_toNat_lt, UInt8.le_iff_toNat_le, ← UInt8.toNat_inj, UInt8.reduceToNat] at hp18
            try simp only [UInt8.lt_iff_toNat_lt, UInt8.le_iff_toNat_le, ← UInt8.toNat_inj, UInt8.reduceToNat] at hp19
            try simp only [UInt8.lt_iff_toNat_lt, UInt8.le_iff_toNat_le, ← UInt8.toNat_inj, UInt8.reduceToNat] at hp2
            try simp only [UInt8.lt_iff_toNat_lt, UInt8.le_iff_toNat_le, ← UInt8.toNat_inj, UInt8.reduceToNat] at hp20
            try simp only [UInt8.lt_iff_toNat_lt, UInt8.le_iff_toNat_le, ← UInt8.toNat_inj, UInt8.reduceToNat] at hp21
            try simp only [UInt8.lt_iff_toNat_lt, UInt8.le_iff_toNat_le, ← UInt8.toNat_inj, UInt8.reduceToNat] at hp22
            try simp only [UInt8.lt_iff_toNat_lt, UInt8.le_iff_toNat_le, ← UInt8.toNat_inj, UInt8.reduceToNat] at hp3
            try simp only [UInt8.lt_iff_toNat_lt, UInt8.le_iff_toNat_le, ← UInt8.toNat_inj, UInt8.reduceToNat] at hp4
            try simp only [UInt8.lt_iff_toNat_lt, UInt8.le_iff_toNat_le, ← UInt8.toNat_inj, UInt8.reduceToNat] at hp5
            try simp only [UInt8.lt_iff_toNat_lt, UInt8.le_iff_toNat_le, ← UInt8.toNat_inj, UInt8.reduceToNat] at hp6
            try simp only [UInt8.lt_iff_toNat_lt, UInt8.le_iff_toNat_le, ← UInt8.toNat_inj, UInt8.reduceToNat] at hp7
            try simp only [UInt8.lt_iff_toNat_lt, UInt8.le_iff_toNat_le, ← UInt8.toNat_inj, UInt8.reduceToNat] at hp8
            try simp only [UInt8.lt_iff_toNat_lt, UInt8.le_iff_toNat_le, ← UInt8.toNat_inj, UInt8.reduceToNat] at hp9
            unfold kindN
            rw [hz]
            repeat' split
            all_goals omega
          exact ⟨_, [], rfl, ⟨by rw [hk]; rfl, rfl⟩, hw1.sub (by simp) (by simp)⟩
      ·
        have hp19 : ¬ (((n:Int)) = (66:Int)) := of_decide_eq_false hb19
        refine JL_gskip 3 27 true _ rfl rfl hb19 rfl ?_
        refine JL_gskip 3 27 true _ rfl rfl hb19 rfl ?_
        refine JL_gskip 3 27 true _ rfl rfl hb19 rfl ?_
        refine JL_gskip 3 27 true _ rfl rfl hb19 rfl ?_
        refine JL_val _ (Ev_pickF _ rfl hb19 rfl) rfl ?_
        refine JL_val _ (Ev_move rfl) rfl ?_
        refine JL_gskip 9 33 true _ rfl rfl rfl rfl ?_
        refine JL_gskip 9 33 true _ rfl rfl rfl rfl ?_
        refine JL_gskip 9 33 true _ rfl rfl rfl rfl ?_
        refine JL_gskip 9 33 true _ rfl rfl rfl rfl ?_
        refine JL_val _ (Ev_pickF _ rfl rfl rfl) rfl ?_
        refine JL_val _ (Ev_move rfl) rfl ?_
        refine JL_gskip 15 39 true _ rfl rfl rfl rfl ?_
        refine JL_gskip 15 39 true _ rfl rfl rfl rfl ?_
        refine JL_gskip 15 39 true _ rfl rfl rfl rfl ?_
        refine JL_gskip 15 39 true _ rfl rfl rfl rfl ?_
        refine JL_val _ (Ev_pickF _ rfl rfl rfl) rfl ?_
        refine JL_val _ (Ev_assign rfl) rfl ?_
        refine JL_nil ?_
        refine JQ_then ?_
        refine JC_condF _ rfl rfl ?_
        refine JC_skip ?_
        refine JQ_in_normal ?_
        refine JQ_then ?_
        refine JC_seq ?_
        refine JC_region ?_
        refine JL_val _ (Ev_assign rfl) rfl ?_
        refine JL_nil ?_
        refine JQ_then ?_
        refine JC_ret ?_
        refine JQ_ret (I64 (0:Int)) (res1 Tryd.results76 (RV_tmp rfl)) fun w1 hw1 => ?_
        have hk : kindN z = 0 := by
          try simp only [UInt8.lt_iff_toNat_lt, UInt8.le_iff_toNat_le, ← UInt8.toNat_inj, UInt8.reduceToNat] at hp1
          try simp only [UInt8.lt_iff_toNat_lt, UInt8.le_iff_toNat_le, ← UInt8.toNat_inj, UInt8.reduceToNat] at hp10
          try simp only [UInt8.lt_iff_toNat_lt, UInt8.le_iff_toNat_le, ← UInt8.toNat_inj, UInt8.reduceToNat] at hp11
          try simp only [UInt8.lt_iff_toNat_lt, UInt8.le_iff_toNat_le, ← UInt8.toNat_inj, UInt8.reduceToNat] at hp12
          try simp only [UInt8.lt_iff_toNat_lt, UInt8.le_iff_toNat_le, ← UInt8.toNat_inj, UInt8.reduceToNat] at hp13
          try simp only [UInt8.lt_iff_toNat_lt, UInt8.le_iff_toNat_le, ← UInt8.toNat_inj, UInt8.reduceToNat] at hp14
          try simp only [UInt8.lt_iff_toNat_lt, UInt8.le_iff_toNat_le, ← UInt8.toNat_inj, UInt8.reduceToNat] at hp15
          try simp only [UInt8.lt_iff_toNat_lt, UInt8.le_iff_toNat_le, ← UInt8.toNat_inj, UInt8.reduceToNat] at hp16
          try simp only [UInt8.lt_iff_toNat_lt, UInt8.le_iff_toNat_le, ← UInt8.toNat_inj, UInt8.reduceToNat] at hp17
          try simp only [UInt8.lt_iff_toNat_lt, UInt8.le_iff_toNat_le, ← UInt8.toNat_inj, UInt8.reduceToNat] at hp18
          try simp only [UInt8.lt_iff_toNat_lt, UInt8.le_iff_toNat_le, ← UInt8.toNat_inj, UInt8.reduceToNat] at hp19
          try simp only [UInt8.lt_iff_toNat_lt, UInt8.le_iff_toNat_le, ← UInt8.toNat_inj, UInt8.reduceToNat] at hp2
          try simp only [UInt8.lt_iff_toNat_lt, UInt8.le_iff_toNat_le, ← UInt8.toNat_inj, UInt8.reduceToNat] at hp20
          try simp only [UInt8.lt_iff_toNat_lt, UInt8.le_iff_toNat_le, ← UInt8.toNat_inj, UInt8.reduceToNat] at hp21
          try simp only [UInt8.lt_iff_toNat_lt, UInt8.le_iff_toNat_le, ← UInt8.toNat_inj, UInt8.reduceToNat] at hp22
          try simp only [UInt8.lt_iff_toNat_lt, UInt8.le_iff_toNat_le, ← UInt8.toNat_inj, UInt8.reduceToNat] at hp3
          try simp only [UInt8.lt_iff_toNat_lt, UInt8.le_iff_toNat_le, ← UInt8.toNat_inj, UInt8.reduceToNat] at hp4
          try simp only [UInt8.lt_iff_toNat_lt, UInt8.le_iff_toNat_le, ← UInt8.toNat_inj, UInt8.reduceToNat] at hp5
          try simp only [UInt8.lt_iff_toNat_lt, UInt8.le_iff_toNat_le, ← UInt8.toNat_inj, UInt8.reduceToNat] at hp6
          try simp only [UInt8.lt_iff_toNat_lt, UInt8.le_iff_toNat_le, ← UInt8.toNat_inj, UInt8.reduceToNat] at hp7
          try simp only [UInt8.lt_iff_toNat_lt, UInt8.le_iff_toNat_le, ← UInt8.toNat_inj, UInt8.reduceToNat] at hp8
          try simp only [UInt8.lt_iff_toNat_lt, UInt8.le_iff_toNat_le, ← UInt8.toNat_inj, UInt8.reduceToNat] at hp9
          unfold kindN
          rw [hz]
          repeat' split
          all_goals omega
        exact ⟨_, [], rfl, ⟨by rw [hk]; rfl, rfl⟩, hw1.sub (by simp) (by simp)⟩

theorem alive8_c  (w : World) (hG : GLs w) : Calls Tryd.prog 69 #[] w (Post w [] (fun v L => v = .bool true ∧ L = [])) := by
  refine enter w [] 29 [] [] Tryd.func69 rfl rfl (by simp) (Hp.start (by simp) (by simp) (by simp)) ?_
  show JC _ _ _ [] _
  refine JC_seq ?_
  refine JC_region ?_
  refine JL_val _ (Ev_assign rfl) rfl ?_
  refine JL_nil ?_
  refine JQ_then ?_
  refine JC_seq ?_
  refine JC_region ?_
  refine JL_step (Step_callP 72 [I64 (0:Int)] (.tuple #[.agg (cu8 (empL 0)).toArray, .nilIface]) (Cl_func [I64 (0:Int)] Tryd.call72 rfl) (fun w1 hw1 => empty_c 0 w1 (by omega) (hG.at hw1))) rfl ?_
  rintro v1 L1 ⟨rfl, rfl⟩
  show JL _ _ _ _ ((4, .tuple #[.agg (cu8 (empL 0)).toArray, .nilIface]) :: _) []
  refine JL_val _ (Ev_move rfl) rfl ?_
  refine JL_val _ (Ev_extract rfl rfl) rfl ?_
  refine JL_val _ (Ev_extract rfl rfl) rfl ?_
  refine JL_step (Step_alloc _ (cu8 (zr8 32)) Tryd.zeroValue25 (by kernel_rfl)) rfl ?_
  rintro v1 L1 ⟨nb1, hnb1, rfl, rfl⟩
  show JL _ _ _ _ ((1, Ptr nb1 0) :: _) [⟨nb1, cu8 (zr8 32), 25, (0, 0)⟩]
  refine JL_step (Step_store 0 nb1 0 32 (cu8 (zr8 32)) 25 (.agg (cu8 (empL 0)).toArray) (cu8 (empL 0)) (cu8 (empL 0)) rfl rfl rfl (by first | rfl | simp) Tryd.sizeOf25 (len_cu8 (empL_len _)) (by first | exact one_u8 | exact one_u32 | exact one_u64 | (simp [cu8, cu32, cu64, Value.oneCell']; done)) (by simp [(zr8_len 32)]) (lay_whole (by simp [(zr8_len 32), (empL_len _)]))) rfl ?_
  rintro v1 L1 ⟨rfl, rfl⟩
  show JL _ _ _ _ _ [⟨nb1, cu8 (empL 0), 25, (0, 0)⟩]
  refine JL_val _ (Ev_assign rfl) rfl ?_
  refine JL_nil ?_
  refine JQ_then ?_
  refine JC_seq ?_
  refine JC_region ?_
  refine JL_val _ (Ev_move rfl) rfl ?_
  refine JL_val (.bool true) (Ev_bin _ _ _ rfl rfl (fun _ => eqGuard_nn ..) fun _ => eql_if_nil_nil Tryd.underlying39) rfl ?_
  refine JL_val _ (Ev_move rfl) rfl ?_
  refine JL_gval 2 9 true _ (Ptr nb1 0) rfl rfl rfl (Ev_indexArr 32 5 1 0 Tryd.underlying25 Tryd.sizeOf5 rfl rfl (by omega) (by omega) (by omega)) rfl ?_
  refine JL_gval 2 9 true _ (U8 (g8 (empL 0) 0)) rfl rfl rfl (Ev_load rfl (Ld_one Tryd.isAgg5 (MemAt.ent 0 rfl (Seg.get (g8_get (i := 0) (by rw [(empL_len _)]; omega)))))) rfl ?_
  refine JL_gval 2 9 true _ (.bool (decide ((g8 (empL 0) 0) = (110:UInt8)))) rfl rfl rfl (Ev_bini rfl rfl fun _ => bin_eql_u8 (g8 (empL 0) 0) (110:UInt8)) rfl ?_
  refine JL_val _ (Ev_pickT _ rfl rfl rfl) rfl ?_
  refine JL_val _ (Ev_move rfl) rfl ?_
  refine JL_gval 7 14 true _ (Ptr nb1 1) rfl rfl (decide_eq_true (alive8.1)) (Ev_indexArr 32 5 1 1 Tryd.underlying25 Tryd.sizeOf5 rfl rfl (by omega) (by omega) (by omega)) rfl ?_
  refine JL_gval 7 14 true _ (U8 (g8 (empL 0) 1)) rfl rfl (decide_eq_true (alive8.1)) (Ev_load rfl (Ld_one Tryd.isAgg5 (MemAt.ent 0 rfl (Seg.get (g8_get (i := 1) (by rw [(empL_len _)]; omega)))))) rfl ?_
  refine JL_gval 7 14 true _ (.bool (decide ((g8 (empL 0) 1) = (52:UInt8)))) rfl rfl (decide_eq_true (alive8.1)) (Ev_bini rfl rfl fun _ => bin_eql_u8 (g8 (empL 0) 1) (52:UInt8)) rfl ?_
  refine JL_val _ (Ev_pickT _ rfl (decide_eq_true (alive8.1)) rfl) rfl ?_
  refine JL_val _ (Ev_move rfl) rfl ?_
  refine JL_gval 12 19 true _ (Ptr nb1 2) rfl rfl (decide_eq_true (alive8.2.1)) (Ev_indexArr 32 5 1 2 Tryd.underlying25 Tryd.sizeOf5 rfl rfl (by omega) (by omega) (by omega)) rfl ?_
  refine JL_gval 12 19 true _ (U8 (g8 (empL 0) 2)) rfl rfl (decide_eq_true (alive8.2.1)) (Ev_load rfl (Ld_one Tryd.isAgg5 (MemAt.ent 0 rfl (Seg.get (g8_get (i := 2) (by rw [(empL_len _)]; omega)))))) rfl ?_
  refine JL_gval 12 19 true _ (.bool (decide ((g8 (empL 0) 2) = (11:UInt8)))) rfl rfl (decide_eq_true (alive8.2.1)) (Ev_bini rfl rfl fun _ => bin_eql_u8 (g8 (empL 0) 2) (11:UInt8)) rfl ?_
  refine JL_val _ (Ev_pickT _ rfl (decide_eq_true (alive8.2.1)) rfl) rfl ?_
  refine JL_val _ (Ev_move rfl) rfl ?_
  refine JL_gval 17 24 true _ (Ptr nb1 3) rfl rfl (decide_eq_true (alive8.2.2.1)) (Ev_indexArr 32 5 1 3 Tryd.underlying25 Tryd.sizeOf5 rfl rfl (by omega) (by omega) (by omega)) rfl ?_
  refine JL_gval 17 24 true _ (U8 (g8 (empL 0) 3)) rfl rfl (decide_eq_true (alive8.2.2.1)) (Ev_load rfl (Ld_one Tryd.isAgg5 (MemAt.ent 0 rfl (Seg.get (g8_get (i := 3) (by rw [(empL_len _)]; omega)))))) rfl ?_
  refine JL_gval 17 24 true _ (.bool (decide ((g8 (empL 0) 3) = (156:UInt8)))) rfl rfl (decide_eq_true (alive8.2.2.1)) (Ev_bini rfl rfl fun _ => bin_eql_u8 (g8 (empL 0) 3) (156:UInt8)) rfl ?_
  refine JL_val _ (Ev_pickT _ rfl (decide_eq_true (alive8.2.2.1)) rfl) rfl ?_
  refine JL_val _ (Ev_assign rfl) rfl ?_
  refine JL_nil ?_
  refine JQ_then ?_
  refine JC_ret ?_
  refine K_mask [false] ?_
  show JQ _ _ _ _ []
  refine JQ_ret (.bool (decide ((g8 (empL 0) 3) = (156:UInt8)))) (res1 Tryd.results69 (RV_tmp rfl)) fun w1 hw1 => ?_
  exact ⟨_, [], rfl, ⟨by rw [show (decide ((g8 (empL 0) 3) = (156:UInt8))) = true from (decide_eq_true (alive8.2.2.2))], rfl⟩, hw1.sub (by simp) (by simp)⟩

end Go.Proofs.YtncoifiafklkjaaDoor
