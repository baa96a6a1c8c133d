import Derived.Test.YtncoifiafklkjaaFx
import Derived.Test.YtncoifiafklkjaaSxL
import Derived.Test.YtncoifiafklkjaaAes7b
import Derived.Test.YtncoifiafklkjaaAes2
namespace Go.Proofs.Ytncoifiafklkjaa
open Go Go.Sx
set_option linter.unusedVariables false
set_option linter.unusedSimpArgs false
set_option maxRecDepth 100000
attribute [local irreducible] mid zr8 rkeysL rencL encL decL rkL thereL backL
theorem aesKeysOut_c (key : List UInt8) (i : Int) (w : World) (hk : key.length = 16) (hi : i < 0 ∨ 10 < i) : Calls Try.prog 5 #[.agg (cu8 key).toArray, I64 (i)] w (Post w [] (fun v L => v = .bool true ∧ L = [])) := by
  refine enter w [] 77 [] [.agg (cu8 key).toArray, I64 (i)] Try.func5 rfl rfl (by simp) (Hp.start (by simp) (by simp) (by simp)) ?_
  show JC _ _ _ [(0, .agg (cu8 key).toArray), (1, I64 (i))] _
  refine JC_seq ?_
  refine JC_region ?_
  refine JL_step (Step_box (.agg (cu8 key).toArray) (cu8 key) rfl (by first | rfl | simp)) rfl ?_
  rintro v1 L1 ⟨nb1, hnb1, rfl, rfl⟩
  show JL _ _ _ _ ((2, Ptr nb1 0) :: _) [⟨nb1, cu8 key, 28, (0, 0)⟩]
  refine JL_val _ (Ev_assign rfl) rfl ?_
  refine JL_nil ?_
  refine JQ_then ?_
  refine JC_seq ?_
  refine JC_seq ?_
  refine JC_region ?_
  refine JL_step (Step_callP 15 [] (.bool true) (Cl_func [] Try.call15 rfl) (fun w1 _ => alive4_c  w1)) rfl ?_
  rintro v1 L1 ⟨rfl, rfl⟩
  show JL _ _ _ _ ((10, .bool true) :: _) [⟨nb1, cu8 key, 28, (0, 0)⟩]
  refine JL_val (.bool (!true)) (Ev_not rfl) rfl ?_
  refine JL_nil ?_
  refine JQ_then ?_
  refine JC_condF _ rfl rfl ?_
  refine JC_skip ?_
  refine JQ_then ?_
  refine JC_seq ?_
  refine JC_region ?_
  refine JL_val (.agg (cu8 key).toArray) (Ev_load rfl (Ld_agg Try.isAgg28 Try.sizeOf28 (len_cu8 hk) (MemAt.ent 0 rfl (Seg.whole _)))) rfl ?_
  refine JL_step (Step_callN 22 [.agg (cu8 key).toArray] _ (Cl_func [.agg (cu8 key).toArray] Try.call22 rfl) (fun w1 hw1 => new_c key w1 hk)) rfl ?_
  rintro v1 L1 ⟨_, ⟨nb2, rfl, rfl⟩, rfl⟩
  show JL _ _ _ _ ((14, Ptr nb2 0) :: _) [⟨nb1, cu8 key, 28, (0, 0)⟩, ⟨nb2, cu8 (rkL key) ++ cu8 thereL ++ cu8 backL, 106, (0, 0)⟩]
  refine JL_val _ (Ev_move rfl) rfl ?_
  refine JL_step (Step_callP 23 [Ptr nb2 0, I64 (i)] (.tuple #[.agg (cu8 (zr8 16)).toArray, .iface 36 (I64 (1:Int))]) (Cl_func [Ptr nb2 0, I64 (i)] Try.call23 rfl) (fun w1 hw1 => rkout_c (Ptr nb2 0) (i) w1 hi)) rfl ?_
  rintro v1 L1 ⟨rfl, rfl⟩
  show JL _ _ _ _ ((16, .tuple #[.agg (cu8 (zr8 16)).toArray, .iface 36 (I64 (1:Int))]) :: _) [⟨nb1, cu8 key, 28, (0, 0)⟩, ⟨nb2, cu8 (rkL key) ++ cu8 thereL ++ cu8 backL, 106, (0, 0)⟩]
  refine JL_val _ (Ev_move rfl) rfl ?_
  refine JL_val _ (Ev_extract rfl rfl) rfl ?_
  refine JL_val _ (Ev_extract rfl rfl) rfl ?_
  refine JL_step (Step_alloc _ (cu8 (zr8 16)) Try.zeroValue27 (by kernel_rfl)) rfl ?_
  rintro v1 L1 ⟨nb3, hnb3, rfl, rfl⟩
  show JL _ _ _ _ ((5, Ptr nb3 0) :: _) [⟨nb1, cu8 key, 28, (0, 0)⟩, ⟨nb2, cu8 (rkL key) ++ cu8 thereL ++ cu8 backL, 106, (0, 0)⟩, ⟨nb3, cu8 (zr8 16), 27, (0, 0)⟩]
  refine JL_step (Step_store 2 nb3 0 16 (cu8 (zr8 16)) 27 (.agg (cu8 (zr8 16)).toArray) (cu8 (zr8 16)) (cu8 (zr8 16)) rfl rfl rfl (by first | rfl | simp) Try.sizeOf27 (len_cu8 (zr8_len 16)) (by first | exact one_u8 | exact one_u32 | exact one_u64 | (simp [cu8, cu32, cu64, Value.oneCell']; done)) (by simp [(zr8_len 16)]) (lay_whole (by simp [(zr8_len 16), (zr8_len 16)]))) rfl ?_
  rintro v1 L1 ⟨rfl, rfl⟩
  show JL _ _ _ _ _ [⟨nb1, cu8 key, 28, (0, 0)⟩, ⟨nb2, cu8 (rkL key) ++ cu8 thereL ++ cu8 backL, 106, (0, 0)⟩, ⟨nb3, cu8 (zr8 16), 27, (0, 0)⟩]
  refine JL_val _ (Ev_assign rfl) rfl ?_
  refine JL_nil ?_
  refine JQ_then ?_
  refine JC_seq ?_
  refine JC_region ?_
  refine JL_val _ (Ev_assign rfl) rfl ?_
  refine JL_nil ?_
  refine JQ_then ?_
  refine JC_seq ?_
  refine JC_region ?_
  refine JL_val _ (Ev_move rfl) rfl ?_
  refine JL_val _ (Ev_move rfl) rfl ?_
  refine JL_step (Step_callP 23 [.pointer none, I64 (i)] (.tuple #[.agg (cu8 (zr8 16)).toArray, .iface 36 (I64 (1:Int))]) (Cl_func [.pointer none, I64 (i)] Try.call23 rfl) (fun w1 hw1 => rkout_c (.pointer none) (i) w1 hi)) rfl ?_
  rintro v1 L1 ⟨rfl, rfl⟩
  show JL _ _ _ _ ((22, .tuple #[.agg (cu8 (zr8 16)).toArray, .iface 36 (I64 (1:Int))]) :: _) [⟨nb1, cu8 key, 28, (0, 0)⟩, ⟨nb2, cu8 (rkL key) ++ cu8 thereL ++ cu8 backL, 106, (0, 0)⟩, ⟨nb3, cu8 (zr8 16), 27, (0, 0)⟩]
  refine JL_val _ (Ev_move rfl) rfl ?_
  refine JL_val _ (Ev_extract rfl rfl) rfl ?_
  refine JL_val _ (Ev_extract rfl rfl) rfl ?_
  refine JL_step (Step_alloc _ (cu8 (zr8 16)) Try.zeroValue27 (by kernel_rfl)) rfl ?_
  rintro v1 L1 ⟨nb4, hnb4, rfl, rfl⟩
  show JL _ _ _ _ ((8, Ptr nb4 0) :: _) [⟨nb1, cu8 key, 28, (0, 0)⟩, ⟨nb2, cu8 (rkL key) ++ cu8 thereL ++ cu8 backL, 106, (0, 0)⟩, ⟨nb3, cu8 (zr8 16), 27, (0, 0)⟩, ⟨nb4, cu8 (zr8 16), 27, (0, 0)⟩]
  refine JL_step (Step_store 3 nb4 0 16 (cu8 (zr8 16)) 27 (.agg (cu8 (zr8 16)).toArray) (cu8 (zr8 16)) (cu8 (zr8 16)) rfl rfl rfl (by first | rfl | simp) Try.sizeOf27 (len_cu8 (zr8_len 16)) (by first | exact one_u8 | exact one_u32 | exact one_u64 | (simp [cu8, cu32, cu64, Value.oneCell']; done)) (by simp [(zr8_len 16)]) (lay_whole (by simp [(zr8_len 16), (zr8_len 16)]))) rfl ?_
  rintro v1 L1 ⟨rfl, rfl⟩
  show JL _ _ _ _ _ [⟨nb1, cu8 key, 28, (0, 0)⟩, ⟨nb2, cu8 (rkL key) ++ cu8 thereL ++ cu8 backL, 106, (0, 0)⟩, ⟨nb3, cu8 (zr8 16), 27, (0, 0)⟩, ⟨nb4, cu8 (zr8 16), 27, (0, 0)⟩]
  refine JL_val _ (Ev_assign rfl) rfl ?_
  refine JL_nil ?_
  refine JQ_then ?_
  refine JC_seq ?_
  refine JC_seq ?_
  refine JC_region ?_
  refine JL_val _ (Ev_move rfl) rfl ?_
  refine JL_val (.bool (decide ((i) < (0:Int)))) (Ev_bini rfl rfl fun _ => bin_lss_i _ _) rfl ?_
  refine JL_val _ (Ev_move rfl) rfl ?_
  rcases Bool.eq_false_or_eq_true (decide ((i) < (0:Int))) with hb1 | hb1
  ·
    have hp1 : (i) < (0:Int) := of_decide_eq_true hb1
    refine JL_gskip 2 27 false _ rfl rfl hb1 rfl ?_
    refine JL_gskip 2 27 false _ rfl rfl hb1 rfl ?_
    refine JL_val _ (Ev_pickT _ rfl hb1 rfl) rfl ?_
    refine JL_nil ?_
    refine JQ_then ?_
    refine JC_condT _ rfl rfl ?_
    refine JC_seq ?_
    refine JC_region ?_
    refine JL_val _ (Ev_move rfl) rfl ?_
    refine JL_step (Step_callP 24 [.iface 36 (I64 (1:Int)), I64 (1:Int)] (.bool (decide ((1:Int) = (1:Int)))) (Cl_func [.iface 36 (I64 (1:Int)), I64 (1:Int)] Try.call24 rfl) (fun w1 _ => ise_c (1:Int) (1:Int) w1 (by decide))) rfl ?_
    rintro v1 L1 ⟨rfl, rfl⟩
    show JL _ _ _ _ ((32, .bool (decide ((1:Int) = (1:Int)))) :: _) [⟨nb1, cu8 key, 28, (0, 0)⟩, ⟨nb2, cu8 (rkL key) ++ cu8 thereL ++ cu8 backL, 106, (0, 0)⟩, ⟨nb3, cu8 (zr8 16), 27, (0, 0)⟩, ⟨nb4, cu8 (zr8 16), 27, (0, 0)⟩]
    refine JL_val _ (Ev_move rfl) rfl ?_
    refine JL_gval 2 33 true _ _ rfl rfl (by decide) (Ev_move rfl) rfl ?_
    refine JL_gstep 2 33 true _ rfl rfl (by decide) (Step_callP 24 [.iface 36 (I64 (1:Int)), I64 (1:Int)] (.bool (decide ((1:Int) = (1:Int)))) (Cl_func [.iface 36 (I64 (1:Int)), I64 (1:Int)] Try.call24 rfl) (fun w1 _ => ise_c (1:Int) (1:Int) w1 (by decide))) rfl ?_
    rintro v1 L1 ⟨rfl, rfl⟩
    show JL _ _ _ _ ((35, .bool (decide ((1:Int) = (1:Int)))) :: _) [⟨nb1, cu8 key, 28, (0, 0)⟩, ⟨nb2, cu8 (rkL key) ++ cu8 thereL ++ cu8 backL, 106, (0, 0)⟩, ⟨nb3, cu8 (zr8 16), 27, (0, 0)⟩, ⟨nb4, cu8 (zr8 16), 27, (0, 0)⟩]
    refine JL_val _ (Ev_pickT _ rfl (by decide) rfl) rfl ?_
    refine JL_val _ (Ev_move rfl) rfl ?_
    refine JL_gval 6 37 true _ (.agg (cu8 (zr8 16)).toArray) rfl rfl (by decide) (Ev_load rfl (Ld_agg Try.isAgg27 Try.sizeOf27 (len_cu8 (zr8_len 16)) (MemAt.ent 2 rfl (Seg.whole _)))) rfl ?_
    refine JL_gval 6 37 true _ (.agg (cu8 (zr8 16)).toArray) rfl rfl (by decide) (Ev_build [] _ rfl (fun _ => by kernel_rfl)) rfl ?_
    refine JL_gval 6 37 true _ (.bool (decide ((zr8 16) = (zr8 16)))) rfl rfl (by decide) (Ev_bin _ _ _ rfl rfl (fun _ => eqGuard_agg _ _ _ _ _ _ (by kernel_rfl)) fun _ => eql_arr8 Try.underlying27 Try.underlying5 Try.isAgg5 Try.cells5 Try.has5 (by simp [(zr8_len 16)]) (by simp [(zr8_len 16)])) rfl ?_
    refine JL_val _ (Ev_pickT _ rfl (by decide) rfl) rfl ?_
    refine JL_val _ (Ev_move rfl) rfl ?_
    refine JL_gval 11 42 true _ (.agg (cu8 (zr8 16)).toArray) rfl rfl (decide_eq_true (rfl)) (Ev_load rfl (Ld_agg Try.isAgg27 Try.sizeOf27 (len_cu8 (zr8_len 16)) (MemAt.ent 3 rfl (Seg.whole _)))) rfl ?_
    refine JL_gval 11 42 true _ (.agg (cu8 (zr8 16)).toArray) rfl rfl (decide_eq_true (rfl)) (Ev_build [] _ rfl (fun _ => by kernel_rfl)) rfl ?_
    refine JL_gval 11 42 true _ (.bool (decide ((zr8 16) = (zr8 16)))) rfl rfl (decide_eq_true (rfl)) (Ev_bin _ _ _ rfl rfl (fun _ => eqGuard_agg _ _ _ _ _ _ (by kernel_rfl)) fun _ => eql_arr8 Try.underlying27 Try.underlying5 Try.isAgg5 Try.cells5 Try.has5 (by simp [(zr8_len 16)]) (by simp [(zr8_len 16)])) rfl ?_
    refine JL_val _ (Ev_pickT _ rfl (decide_eq_true (rfl)) rfl) rfl ?_
    refine JL_val _ (Ev_assign rfl) rfl ?_
    refine JL_nil ?_
    refine JQ_then ?_
    refine JC_ret ?_
    refine JQ_then_ret ?_
    refine JQ_ret (.bool (decide ((zr8 16) = (zr8 16)))) (res1 Try.results5 (RV_tmp rfl)) fun w1 hw1 => ?_
    exact ⟨_, [], rfl, ⟨by rw [show (decide ((zr8 16) = (zr8 16))) = true from (decide_eq_true (rfl))], rfl⟩, hw1.sub (by simp) (by simp)⟩
  ·
    have hp1 : ¬ ((i) < (0:Int)) := of_decide_eq_false hb1
    refine JL_gval 2 27 false _ _ rfl rfl hb1 (Ev_move rfl) rfl ?_
    refine JL_gval 2 27 false _ (.bool (decide ((10:Int) < (i)))) rfl rfl hb1 (Ev_bini rfl rfl fun _ => bin_gtr_i _ _) rfl ?_
    refine JL_val _ (Ev_pickF _ rfl hb1 rfl) rfl ?_
    refine JL_nil ?_
    refine JQ_then ?_
    refine JC_cond (decide ((10:Int) < (i))) rfl (fun hb2 => ?_) (fun hb2 => ?_)
    ·
      have hp2 : (10:Int) < (i) := of_decide_eq_true hb2
      refine JC_seq ?_
      refine JC_region ?_
      refine JL_val _ (Ev_move rfl) rfl ?_
      refine JL_step (Step_callP 24 [.iface 36 (I64 (1:Int)), I64 (1:Int)] (.bool (decide ((1:Int) = (1:Int)))) (Cl_func [.iface 36 (I64 (1:Int)), I64 (1:Int)] Try.call24 rfl) (fun w1 _ => ise_c (1:Int) (1:Int) w1 (by decide))) rfl ?_
      rintro v1 L1 ⟨rfl, rfl⟩
      show JL _ _ _ _ ((32, .bool (decide ((1:Int) = (1:Int)))) :: _) [⟨nb1, cu8 key, 28, (0, 0)⟩, ⟨nb2, cu8 (rkL key) ++ cu8 thereL ++ cu8 backL, 106, (0, 0)⟩, ⟨nb3, cu8 (zr8 16), 27, (0, 0)⟩, ⟨nb4, cu8 (zr8 16), 27, (0, 0)⟩]
      refine JL_val _ (Ev_move rfl) rfl ?_
      refine JL_gval 2 33 true _ _ rfl rfl (by decide) (Ev_move rfl) rfl ?_
      refine JL_gstep 2 33 true _ rfl rfl (by decide) (Step_callP 24 [.iface 36 (I64 (1:Int)), I64 (1:Int)] (.bool (decide ((1:Int) = (1:Int)))) (Cl_func [.iface 36 (I64 (1:Int)), I64 (1:Int)] Try.call24 rfl) (fun w1 _ => ise_c (1:Int) (1:Int) w1 (by decide))) rfl ?_
      rintro v1 L1 ⟨rfl, rfl⟩
      show JL _ _ _ _ ((35, .bool (decide ((1:Int) = (1:Int)))) :: _) [⟨nb1, cu8 key, 28, (0, 0)⟩, ⟨nb2, cu8 (rkL key) ++ cu8 thereL ++ cu8 backL, 106, (0, 0)⟩, ⟨nb3, cu8 (zr8 16), 27, (0, 0)⟩, ⟨nb4, cu8 (zr8 16), 27, (0, 0)⟩]
      refine JL_val _ (Ev_pickT _ rfl (by decide) rfl) rfl ?_
      refine JL_val _ (Ev_move rfl) rfl ?_
      refine JL_gval 6 37 true _ (.agg (cu8 (zr8 16)).toArray) rfl rfl (by decide) (Ev_load rfl (Ld_agg Try.isAgg27 Try.sizeOf27 (len_cu8 (zr8_len 16)) (MemAt.ent 2 rfl (Seg.whole _)))) rfl ?_
      refine JL_gval 6 37 true _ (.agg (cu8 (zr8 16)).toArray) rfl rfl (by decide) (Ev_build [] _ rfl (fun _ => by kernel_rfl)) rfl ?_
      refine JL_gval 6 37 true _ (.bool (decide ((zr8 16) = (zr8 16)))) rfl rfl (by decide) (Ev_bin _ _ _ rfl rfl (fun _ => eqGuard_agg _ _ _ _ _ _ (by kernel_rfl)) fun _ => eql_arr8 Try.underlying27 Try.underlying5 Try.isAgg5 Try.cells5 Try.has5 (by simp [(zr8_len 16)]) (by simp [(zr8_len 16)])) rfl ?_
      refine JL_val _ (Ev_pickT _ rfl (by decide) rfl) rfl ?_
      refine JL_val _ (Ev_move rfl) rfl ?_
      refine JL_gval 11 42 true _ (.agg (cu8 (zr8 16)).toArray) rfl rfl (decide_eq_true (rfl)) (Ev_load rfl (Ld_agg Try.isAgg27 Try.sizeOf27 (len_cu8 (zr8_len 16)) (MemAt.ent 3 rfl (Seg.whole _)))) rfl ?_
      refine JL_gval 11 42 true _ (.agg (cu8 (zr8 16)).toArray) rfl rfl (decide_eq_true (rfl)) (Ev_build [] _ rfl (fun _ => by kernel_rfl)) rfl ?_
      refine JL_gval 11 42 true _ (.bool (decide ((zr8 16) = (zr8 16)))) rfl rfl (decide_eq_true (rfl)) (Ev_bin _ _ _ rfl rfl (fun _ => eqGuard_agg _ _ _ _ _ _ (by kernel_rfl)) fun _ => eql_arr8 Try.underlying27 Try.underlying5 Try.isAgg5 Try.cells5 Try.has5 (by simp [(zr8_len 16)]) (by simp [(zr8_len 16)])) rfl ?_
      refine JL_val _ (Ev_pickT _ rfl (decide_eq_true (rfl)) rfl) rfl ?_
      refine JL_val _ (Ev_assign rfl) rfl ?_
      refine JL_nil ?_
      refine JQ_then ?_
      refine JC_ret ?_
      refine JQ_then_ret ?_
      refine JQ_ret (.bool (decide ((zr8 16) = (zr8 16)))) (res1 Try.results5 (RV_tmp rfl)) fun w1 hw1 => ?_
      exact ⟨_, [], rfl, ⟨by rw [show (decide ((zr8 16) = (zr8 16))) = true from (decide_eq_true (rfl))], rfl⟩, hw1.sub (by simp) (by simp)⟩
    ·
      have hp2 : ¬ ((10:Int) < (i)) := of_decide_eq_false hb2
      exfalso; omega

theorem aesKeysIn_c (key : List UInt8) (i : Nat) (w : World) (hk : key.length = 16) (hi : i ≤ 10) : Calls Try.prog 5 #[.agg (cu8 key).toArray, I64 ((i:Int))] w (Post w [] (fun v L => v = .bool true ∧ L = [])) := by
  refine enter w [] 77 [] [.agg (cu8 key).toArray, I64 ((i:Int))] Try.func5 rfl rfl (by simp) (Hp.start (by simp) (by simp) (by simp)) ?_
  show JC _ _ _ [(0, .agg (cu8 key).toArray), (1, I64 ((i:Int)))] _
  refine JC_seq ?_
  refine JC_region ?_
  refine JL_step (Step_box (.agg (cu8 key).toArray) (cu8 key) rfl (by first | rfl | simp)) rfl ?_
  rintro v1 L1 ⟨nb1, hnb1, rfl, rfl⟩
  show JL _ _ _ _ ((2, Ptr nb1 0) :: _) [⟨nb1, cu8 key, 28, (0, 0)⟩]
  refine JL_val _ (Ev_assign rfl) rfl ?_
  refine JL_nil ?_
  refine JQ_then ?_
  refine JC_seq ?_
  refine JC_seq ?_
  refine JC_region ?_
  refine JL_step (Step_callP 15 [] (.bool true) (Cl_func [] Try.call15 rfl) (fun w1 _ => alive4_c  w1)) rfl ?_
  rintro v1 L1 ⟨rfl, rfl⟩
  show JL _ _ _ _ ((10, .bool true) :: _) [⟨nb1, cu8 key, 28, (0, 0)⟩]
  refine JL_val (.bool (!true)) (Ev_not rfl) rfl ?_
  refine JL_nil ?_
  refine JQ_then ?_
  refine JC_condF _ rfl rfl ?_
  refine JC_skip ?_
  refine JQ_then ?_
  refine JC_seq ?_
  refine JC_region ?_
  refine JL_val (.agg (cu8 key).toArray) (Ev_load rfl (Ld_agg Try.isAgg28 Try.sizeOf28 (len_cu8 hk) (MemAt.ent 0 rfl (Seg.whole _)))) rfl ?_
  refine JL_step (Step_callN 22 [.agg (cu8 key).toArray] _ (Cl_func [.agg (cu8 key).toArray] Try.call22 rfl) (fun w1 hw1 => new_c key w1 hk)) rfl ?_
  rintro v1 L1 ⟨_, ⟨nb2, rfl, rfl⟩, rfl⟩
  show JL _ _ _ _ ((14, Ptr nb2 0) :: _) [⟨nb1, cu8 key, 28, (0, 0)⟩, ⟨nb2, cu8 (rkL key) ++ cu8 thereL ++ cu8 backL, 106, (0, 0)⟩]
  refine JL_val _ (Ev_move rfl) rfl ?_
  have hl1 : (mid (rkL key) (16*i) 16).length = 16 := mid_len (by rw [(rkL_len key hk)]; omega)
  refine JL_step (Step_callP 23 [Ptr nb2 0, I64 ((i:Int))] (.tuple #[.agg (cu8 (mid (rkL key) (16*i) 16)).toArray, .nilIface]) (Cl_func [Ptr nb2 0, I64 ((i:Int))] Try.call23 rfl) (fun w1 hw1 => rkin_c nb2 (rkL key) i w1 hi (rkL_len key hk) (hw1.ent _ (List.mem_of_getElem? (i := 1) rfl)))) rfl ?_
  rintro v1 L1 ⟨rfl, rfl⟩
  show JL _ _ _ _ ((16, .tuple #[.agg (cu8 (mid (rkL key) (16*i) 16)).toArray, .nilIface]) :: _) [⟨nb1, cu8 key, 28, (0, 0)⟩, ⟨nb2, cu8 (rkL key) ++ cu8 thereL ++ cu8 backL, 106, (0, 0)⟩]
  refine JL_val _ (Ev_move rfl) rfl ?_
  refine JL_val _ (Ev_extract rfl rfl) rfl ?_
  refine JL_val _ (Ev_extract rfl rfl) rfl ?_
  refine JL_step (Step_alloc _ (cu8 (zr8 16)) Try.zeroValue27 (by kernel_rfl)) rfl ?_
  rintro v1 L1 ⟨nb3, hnb3, rfl, rfl⟩
  show JL _ _ _ _ ((5, Ptr nb3 0) :: _) [⟨nb1, cu8 key, 28, (0, 0)⟩, ⟨nb2, cu8 (rkL key) ++ cu8 thereL ++ cu8 backL, 106, (0, 0)⟩, ⟨nb3, cu8 (zr8 16), 27, (0, 0)⟩]
  refine JL_step (Step_store 2 nb3 0 16 (cu8 (zr8 16)) 27 (.agg (cu8 (mid (rkL key) (16*i) 16)).toArray) (cu8 (mid (rkL key) (16*i) 16)) (cu8 (mid (rkL key) (16*i) 16)) rfl rfl rfl (by first | rfl | simp) Try.sizeOf27 (len_cu8 hl1) (by first | exact one_u8 | exact one_u32 | exact one_u64 | (simp [cu8, cu32, cu64, Value.oneCell']; done)) (by simp [(zr8_len 16)]) (lay_whole (by simp [(zr8_len 16), hl1]))) rfl ?_
  rintro v1 L1 ⟨rfl, rfl⟩
  show JL _ _ _ _ _ [⟨nb1, cu8 key, 28, (0, 0)⟩, ⟨nb2, cu8 (rkL key) ++ cu8 thereL ++ cu8 backL, 106, (0, 0)⟩, ⟨nb3, cu8 (mid (rkL key) (16*i) 16), 27, (0, 0)⟩]
  refine JL_val _ (Ev_assign rfl) rfl ?_
  refine JL_nil ?_
  refine JQ_then ?_
  refine JC_seq ?_
  refine JC_region ?_
  refine JL_val _ (Ev_assign rfl) rfl ?_
  refine JL_nil ?_
  refine JQ_then ?_
  refine JC_seq ?_
  refine JC_region ?_
  refine JL_val _ (Ev_move rfl) rfl ?_
  refine JL_val _ (Ev_move rfl) rfl ?_
  have hl2 : (mid (rkL (zr8 16)) (16*i) 16).length = 16 := mid_len (by rw [rkL_len _ (zr8_len 16)]; omega)
  refine JL_step (Step_callP 23 [.pointer none, I64 ((i:Int))] (.tuple #[.agg (cu8 (mid (rkL (zr8 16)) (16*i) 16)).toArray, .nilIface]) (Cl_func [.pointer none, I64 ((i:Int))] Try.call23 rfl) (fun w1 hw1 => rknil_c i w1 hi)) rfl ?_
  rintro v1 L1 ⟨rfl, rfl⟩
  show JL _ _ _ _ ((22, .tuple #[.agg (cu8 (mid (rkL (zr8 16)) (16*i) 16)).toArray, .nilIface]) :: _) [⟨nb1, cu8 key, 28, (0, 0)⟩, ⟨nb2, cu8 (rkL key) ++ cu8 thereL ++ cu8 backL, 106, (0, 0)⟩, ⟨nb3, cu8 (mid (rkL key) (16*i) 16), 27, (0, 0)⟩]
  refine JL_val _ (Ev_move rfl) rfl ?_
  refine JL_val _ (Ev_extract rfl rfl) rfl ?_
  refine JL_val _ (Ev_extract rfl rfl) rfl ?_
  refine JL_step (Step_alloc _ (cu8 (zr8 16)) Try.zeroValue27 (by kernel_rfl)) rfl ?_
  rintro v1 L1 ⟨nb4, hnb4, rfl, rfl⟩
  show JL _ _ _ _ ((8, Ptr nb4 0) :: _) [⟨nb1, cu8 key, 28, (0, 0)⟩, ⟨nb2, cu8 (rkL key) ++ cu8 thereL ++ cu8 backL, 106, (0, 0)⟩, ⟨nb3, cu8 (mid (rkL key) (16*i) 16), 27, (0, 0)⟩, ⟨nb4, cu8 (zr8 16), 27, (0, 0)⟩]
  refine JL_step (Step_store 3 nb4 0 16 (cu8 (zr8 16)) 27 (.agg (cu8 (mid (rkL (zr8 16)) (16*i) 16)).toArray) (cu8 (mid (rkL (zr8 16)) (16*i) 16)) (cu8 (mid (rkL (zr8 16)) (16*i) 16)) rfl rfl rfl (by first | rfl | simp) Try.sizeOf27 (len_cu8 hl2) (by first | exact one_u8 | exact one_u32 | exact one_u64 | (simp [cu8, cu32, cu64, Value.oneCell']; done)) (by simp [(zr8_len 16)]) (lay_whole (by simp [(zr8_len 16), hl2]))) rfl ?_
  rintro v1 L1 ⟨rfl, rfl⟩
  show JL _ _ _ _ _ [⟨nb1, cu8 key, 28, (0, 0)⟩, ⟨nb2, cu8 (rkL key) ++ cu8 thereL ++ cu8 backL, 106, (0, 0)⟩, ⟨nb3, cu8 (mid (rkL key) (16*i) 16), 27, (0, 0)⟩, ⟨nb4, cu8 (mid (rkL (zr8 16)) (16*i) 16), 27, (0, 0)⟩]
  refine JL_val _ (Ev_assign rfl) rfl ?_
  refine JL_nil ?_
  refine JQ_then ?_
  refine JC_seq ?_
  refine JC_seq ?_
  refine JC_region ?_
  refine JL_val _ (Ev_move rfl) rfl ?_
  refine JL_val (.bool (decide (((i:Int)) < (0:Int)))) (Ev_bini rfl rfl fun _ => bin_lss_i _ _) rfl ?_
  refine JL_val _ (Ev_move rfl) rfl ?_
  refine JL_gval 2 27 false _ _ rfl rfl (decide_eq_false (by omega)) (Ev_move rfl) rfl ?_
  refine JL_gval 2 27 false _ (.bool (decide ((10:Int) < ((i:Int))))) rfl rfl (decide_eq_false (by omega)) (Ev_bini rfl rfl fun _ => bin_gtr_i _ _) rfl ?_
  refine JL_val _ (Ev_pickF _ rfl (decide_eq_false (by omega)) rfl) rfl ?_
  refine JL_nil ?_
  refine JQ_then ?_
  refine JC_condF _ rfl (decide_eq_false (by omega)) ?_
  refine JC_skip ?_
  refine JQ_then ?_
  refine JC_seq ?_
  refine JC_draw 77 5 [(0, .nilIface), (1, .bool true), (2, .bool true), (3, .nilIface), (4, .bool true), (5, .bool true), (6, .bool true), (7, Slc nb3 0 16 16), (8, .agg (cu8 key).toArray), (10, I64 ((i:Int))), (11, I64 (16*(i:Int))), (12, I64 ((i:Int))), (13, I64 (16*(i:Int))), (14, I64 (16*(i:Int) + 16))] Try.mixed rfl (by decide +kernel) ?_
  refine DP_one ⟨[], [0, 1, 2, 3, 4, 5, 6, 7, 8, 10, 11, 12, 13, 14], [], [0, 1, 2, 3, 4, 5, 6, 7, 8, 10, 11, 12, 13, 14], [9]⟩ 9 _ rfl rfl (by decide +kernel) rfl ⟨⟨_, rfl, Qok_val rfl (Ev_move rfl)⟩, ⟨_, rfl, Qok_val rfl (Ev_bin _ _ _ rfl rfl (fun _ => eqGuard_nn ..) fun _ => eql_if_nil_nil Try.underlying30)⟩, ⟨_, rfl, Qok_val rfl (Ev_move rfl)⟩, ⟨_, rfl, Qok_gval 2 49 true _ rfl rfl rfl rfl (Ev_move rfl)⟩, ⟨_, rfl, Qok_gval 2 49 true _ rfl rfl rfl rfl (Ev_bin _ _ _ rfl rfl (fun _ => eqGuard_nn ..) fun _ => eql_if_nil_nil Try.underlying30)⟩, ⟨_, rfl, Qok_val rfl (Ev_pickT _ rfl rfl rfl)⟩, ⟨_, rfl, Qok_val rfl (Ev_move rfl)⟩, ⟨_, rfl, Qok_gval 6 53 true _ rfl rfl rfl rfl (Ev_sliceA 16 5 1 0 16 0 16 Try.underlying27 Try.sizeOf5 rfl rfl rfl (by omega) (by omega) (by omega) (by omega) (by omega) 16 (by omega))⟩, ⟨_, rfl, Qok_gval 6 53 true _ rfl rfl rfl rfl (Ev_load rfl (Ld_agg Try.isAgg28 Try.sizeOf28 (len_cu8 hk) (MemAt.ent 0 rfl (Seg.whole _))))⟩, ⟨_, rfl, Qok_gval 6 53 true _ rfl rfl rfl rfl (Ev_move rfl)⟩, ⟨_, rfl, Qok_gval 6 53 true _ rfl rfl rfl rfl (Ev_bini rfl rfl fun _ => bin_mul_i _ _ (16*(i:Int)) (by omega) (by omega))⟩, ⟨_, rfl, Qok_gval 6 53 true _ rfl rfl rfl rfl (Ev_move rfl)⟩, ⟨_, rfl, Qok_gval 6 53 true _ rfl rfl rfl rfl (Ev_bini rfl rfl fun _ => bin_mul_i _ _ (16*(i:Int)) (by omega) (by omega))⟩, ⟨_, rfl, Qok_gval 6 53 true _ rfl rfl rfl rfl (Ev_bini rfl rfl fun _ => bin_add_i _ _ (16*(i:Int) + 16) (by omega) (by omega))⟩, trivial⟩ rfl (Cok_gstep 6 53 true _ rfl rfl rfl rfl (Step_callN 26 [.agg (cu8 key).toArray] _ (Cl_func [.agg (cu8 key).toArray] Try.call26 rfl) (fun w1 hw1 => rkeys_c key w1 hk))) ?_
  rintro v1 L1 ⟨_, ⟨nb5, sp1, cp1, hc1, hs1, rfl, rfl⟩, rfl⟩
  refine ⟨[(15, Slc nb5 (16*i) 16 (cp1 - 16*i))], ?_⟩
  show DP _ _ _ _ _ _ _ _ [⟨nb1, cu8 key, 28, (0, 0)⟩, ⟨nb2, cu8 (rkL key) ++ cu8 thereL ++ cu8 backL, 106, (0, 0)⟩, ⟨nb3, cu8 (mid (rkL key) (16*i) 16), 27, (0, 0)⟩, ⟨nb4, cu8 (mid (rkL (zr8 16)) (16*i) 16), 27, (0, 0)⟩, ⟨nb5, cu8 (rkeysL key) ++ sp1, 5, (0, 0)⟩]
  have hl3 : (mid (rkeysL key) (16*i) 16).length = 16 := mid_len (by rw [(rkeysL_len key hk)]; omega)
  refine DP_one ⟨[9], [0, 1, 2, 3, 4, 5, 6, 7, 8, 10, 11, 12, 13, 14, 15], [0, 1, 2, 3, 4, 5, 6, 8], [7, 10, 11, 12, 13, 14, 15], [16]⟩ 16 _ rfl rfl (by decide +kernel) rfl ⟨⟨_, rfl, Qok_gval 6 53 true _ rfl rfl rfl rfl (Ev_sliceA 16 5 1 0 16 0 16 Try.underlying27 Try.sizeOf5 rfl rfl rfl (by omega) (by omega) (by omega) (by omega) (by omega) 16 (by omega))⟩, ⟨_, rfl, Qok_gval 6 53 true _ rfl rfl rfl rfl (Ev_move rfl)⟩, ⟨_, rfl, Qok_gval 6 53 true _ rfl rfl rfl rfl (Ev_bini rfl rfl fun _ => bin_mul_i _ _ (16*(i:Int)) (by omega) (by omega))⟩, ⟨_, rfl, Qok_gval 6 53 true _ rfl rfl rfl rfl (Ev_move rfl)⟩, ⟨_, rfl, Qok_gval 6 53 true _ rfl rfl rfl rfl (Ev_bini rfl rfl fun _ => bin_mul_i _ _ (16*(i:Int)) (by omega) (by omega))⟩, ⟨_, rfl, Qok_gval 6 53 true _ rfl rfl rfl rfl (Ev_bini rfl rfl fun _ => bin_add_i _ _ (16*(i:Int) + 16) (by omega) (by omega))⟩, ⟨_, rfl, Qok_gval 6 53 true _ rfl rfl rfl rfl (Ev_slice 5 1 (16*i) (16*i + 16) (16*i) (cp1 - 16*i) Try.underlying38 Try.sizeOf5 rfl rfl rfl (by omega) (by omega) (by omega) (by omega) (by omega) 16 (by omega))⟩, trivial⟩ rfl (Cok_gstep 6 53 true _ rfl rfl rfl rfl (Step_callP 25 [Slc nb3 0 16 16, Slc nb5 (16*i) 16 (cp1 - 16*i)] (.bool (decide ((mid (rkL key) (16*i) 16) = (mid (rkeysL key) (16*i) 16)))) (Cl_func [Slc nb3 0 16 16, Slc nb5 (16*i) 16 (cp1 - 16*i)] Try.call25 rfl) (fun w1 hw1 => bytes_c (some ⟨nb3, 0, none⟩) (some ⟨nb5, (16*i), none⟩) 16 16 16 (cp1 - 16*i) (mid (rkL key) (16*i) 16) (mid (rkeysL key) (16*i) 16) w1 hl1 hl3 (RdB.of hw1 (MemAt.ent 2 rfl (Seg.whole _)) (by simp)) (RdB.of hw1 (MemAt.ent 4 rfl (Seg.left (segm_u8 (16*i) 16 (by rw [(rkeysL_len key hk)]; omega)))) (by simp))))) ?_
  rintro v1 L1 ⟨rfl, rfl⟩
  refine ⟨[(17, .bool (decide ((mid (rkL key) (16*i) 16) = (mid (rkeysL key) (16*i) 16)))), (18, .bool (decide ((mid (rkL key) (16*i) 16) = (mid (rkeysL key) (16*i) 16)))), (19, Slc nb4 0 16 16), (20, .agg (cu8 (zr8 16)).toArray), (22, I64 ((i:Int))), (23, I64 (16*(i:Int))), (24, I64 ((i:Int))), (25, I64 (16*(i:Int))), (26, I64 (16*(i:Int) + 16))], ?_⟩
  show DP _ _ _ _ _ _ _ _ [⟨nb1, cu8 key, 28, (0, 0)⟩, ⟨nb2, cu8 (rkL key) ++ cu8 thereL ++ cu8 backL, 106, (0, 0)⟩, ⟨nb3, cu8 (mid (rkL key) (16*i) 16), 27, (0, 0)⟩, ⟨nb4, cu8 (mid (rkL (zr8 16)) (16*i) 16), 27, (0, 0)⟩, ⟨nb5, cu8 (rkeysL key) ++ sp1, 5, (0, 0)⟩]
  refine DP_one ⟨[9, 16], [0, 1, 2, 3, 4, 5, 6, 7, 8, 10, 11, 12, 13, 14, 15, 17, 18, 19, 20, 22, 23, 24, 25, 26], [0, 1, 2, 3, 4, 5, 6, 7, 8, 10, 11, 12, 13, 14, 15], [17, 18, 19, 20, 22, 23, 24, 25, 26], [21]⟩ 21 _ rfl rfl (by decide +kernel) rfl ⟨⟨_, rfl, Qok_val rfl (Ev_pickT _ rfl rfl rfl)⟩, ⟨_, rfl, Qok_val rfl (Ev_move rfl)⟩, ⟨_, rfl, Qok_gval 18 65 true _ rfl rfl rfl (decide_eq_true (by rw [rkeys_rk _ hk])) (Ev_sliceA 16 5 1 0 16 0 16 Try.underlying27 Try.sizeOf5 rfl rfl rfl (by omega) (by omega) (by omega) (by omega) (by omega) 16 (by omega))⟩, ⟨_, rfl, Qok_gval 18 65 true _ rfl rfl rfl (decide_eq_true (by rw [rkeys_rk _ hk])) (Ev_build [] _ rfl (fun _ => by kernel_rfl))⟩, ⟨_, rfl, Qok_gval 18 65 true _ rfl rfl rfl (decide_eq_true (by rw [rkeys_rk _ hk])) (Ev_move rfl)⟩, ⟨_, rfl, Qok_gval 18 65 true _ rfl rfl rfl (decide_eq_true (by rw [rkeys_rk _ hk])) (Ev_bini rfl rfl fun _ => bin_mul_i _ _ (16*(i:Int)) (by omega) (by omega))⟩, ⟨_, rfl, Qok_gval 18 65 true _ rfl rfl rfl (decide_eq_true (by rw [rkeys_rk _ hk])) (Ev_move rfl)⟩, ⟨_, rfl, Qok_gval 18 65 true _ rfl rfl rfl (decide_eq_true (by rw [rkeys_rk _ hk])) (Ev_bini rfl rfl fun _ => bin_mul_i _ _ (16*(i:Int)) (by omega) (by omega))⟩, ⟨_, rfl, Qok_gval 18 65 true _ rfl rfl rfl (decide_eq_true (by rw [rkeys_rk _ hk])) (Ev_bini rfl rfl fun _ => bin_add_i _ _ (16*(i:Int) + 16) (by omega) (by omega))⟩, trivial⟩ rfl (Cok_gstep 18 65 true _ rfl rfl rfl (decide_eq_true (by rw [rkeys_rk _ hk])) (Step_callN 26 [.agg (cu8 (zr8 16)).toArray] _ (Cl_func [.agg (cu8 (zr8 16)).toArray] Try.call26 rfl) (fun w1 hw1 => rkeys_c (zr8 16) w1 (zr8_len 16)))) ?_
  rintro v1 L1 ⟨_, ⟨nb6, sp2, cp2, hc2, hs2, rfl, rfl⟩, rfl⟩
  refine ⟨[(27, Slc nb6 (16*i) 16 (cp2 - 16*i))], ?_⟩
  show DP _ _ _ _ _ _ _ _ [⟨nb1, cu8 key, 28, (0, 0)⟩, ⟨nb2, cu8 (rkL key) ++ cu8 thereL ++ cu8 backL, 106, (0, 0)⟩, ⟨nb3, cu8 (mid (rkL key) (16*i) 16), 27, (0, 0)⟩, ⟨nb4, cu8 (mid (rkL (zr8 16)) (16*i) 16), 27, (0, 0)⟩, ⟨nb5, cu8 (rkeysL key) ++ sp1, 5, (0, 0)⟩, ⟨nb6, cu8 (rkeysL (zr8 16)) ++ sp2, 5, (0, 0)⟩]
  have hl4 : (mid (rkeysL (zr8 16)) (16*i) 16).length = 16 := mid_len (by rw [(rkeysL_len (zr8 16) (zr8_len 16))]; omega)
  refine DP_one ⟨[9, 16, 21], [0, 1, 2, 3, 4, 5, 6, 7, 8, 10, 11, 12, 13, 14, 15, 17, 18, 19, 20, 22, 23, 24, 25, 26, 27], [0, 1, 2, 3, 4, 5, 6, 7, 8, 10, 11, 12, 13, 14, 15, 17, 18, 20], [19, 22, 23, 24, 25, 26, 27], [28]⟩ 28 _ rfl rfl (by decide +kernel) rfl ⟨⟨_, rfl, Qok_gval 18 65 true _ rfl rfl rfl (decide_eq_true (by rw [rkeys_rk _ hk])) (Ev_sliceA 16 5 1 0 16 0 16 Try.underlying27 Try.sizeOf5 rfl rfl rfl (by omega) (by omega) (by omega) (by omega) (by omega) 16 (by omega))⟩, ⟨_, rfl, Qok_gval 18 65 true _ rfl rfl rfl (decide_eq_true (by rw [rkeys_rk _ hk])) (Ev_move rfl)⟩, ⟨_, rfl, Qok_gval 18 65 true _ rfl rfl rfl (decide_eq_true (by rw [rkeys_rk _ hk])) (Ev_bini rfl rfl fun _ => bin_mul_i _ _ (16*(i:Int)) (by omega) (by omega))⟩, ⟨_, rfl, Qok_gval 18 65 true _ rfl rfl rfl (decide_eq_true (by rw [rkeys_rk _ hk])) (Ev_move rfl)⟩, ⟨_, rfl, Qok_gval 18 65 true _ rfl rfl rfl (decide_eq_true (by rw [rkeys_rk _ hk])) (Ev_bini rfl rfl fun _ => bin_mul_i _ _ (16*(i:Int)) (by omega) (by omega))⟩, ⟨_, rfl, Qok_gval 18 65 true _ rfl rfl rfl (decide_eq_true (by rw [rkeys_rk _ hk])) (Ev_bini rfl rfl fun _ => bin_add_i _ _ (16*(i:Int) + 16) (by omega) (by omega))⟩, ⟨_, rfl, Qok_gval 18 65 true _ rfl rfl rfl (decide_eq_true (by rw [rkeys_rk _ hk])) (Ev_slice 5 1 (16*i) (16*i + 16) (16*i) (cp2 - 16*i) Try.underlying38 Try.sizeOf5 rfl rfl rfl (by omega) (by omega) (by omega) (by omega) (by omega) 16 (by omega))⟩, trivial⟩ rfl (Cok_gstep 18 65 true _ rfl rfl rfl (decide_eq_true (by rw [rkeys_rk _ hk])) (Step_callP 25 [Slc nb4 0 16 16, Slc nb6 (16*i) 16 (cp2 - 16*i)] (.bool (decide ((mid (rkL (zr8 16)) (16*i) 16) = (mid (rkeysL (zr8 16)) (16*i) 16)))) (Cl_func [Slc nb4 0 16 16, Slc nb6 (16*i) 16 (cp2 - 16*i)] Try.call25 rfl) (fun w1 hw1 => bytes_c (some ⟨nb4, 0, none⟩) (some ⟨nb6, (16*i), none⟩) 16 16 16 (cp2 - 16*i) (mid (rkL (zr8 16)) (16*i) 16) (mid (rkeysL (zr8 16)) (16*i) 16) w1 hl2 hl4 (RdB.of hw1 (MemAt.ent 3 rfl (Seg.whole _)) (by simp)) (RdB.of hw1 (MemAt.ent 5 rfl (Seg.left (segm_u8 (16*i) 16 (by rw [(rkeysL_len (zr8 16) (zr8_len 16))]; omega)))) (by simp))))) ?_
  rintro v1 L1 ⟨rfl, rfl⟩
  refine ⟨[(29, .bool (decide ((mid (rkL (zr8 16)) (16*i) 16) = (mid (rkeysL (zr8 16)) (16*i) 16)))), (30, .bool (decide ((mid (rkL (zr8 16)) (16*i) 16) = (mid (rkeysL (zr8 16)) (16*i) 16))))], ?_⟩
  show DP _ _ _ _ _ _ _ _ [⟨nb1, cu8 key, 28, (0, 0)⟩, ⟨nb2, cu8 (rkL key) ++ cu8 thereL ++ cu8 backL, 106, (0, 0)⟩, ⟨nb3, cu8 (mid (rkL key) (16*i) 16), 27, (0, 0)⟩, ⟨nb4, cu8 (mid (rkL (zr8 16)) (16*i) 16), 27, (0, 0)⟩, ⟨nb5, cu8 (rkeysL key) ++ sp1, 5, (0, 0)⟩, ⟨nb6, cu8 (rkeysL (zr8 16)) ++ sp2, 5, (0, 0)⟩]
  refine DP_end ⟨[9, 16, 21, 28], [0, 1, 2, 3, 4, 5, 6, 7, 8, 10, 11, 12, 13, 14, 15, 17, 18, 19, 20, 22, 23, 24, 25, 26, 27, 29, 30], [0, 1, 2, 3, 4, 5, 6, 7, 8, 10, 11, 12, 13, 14, 15, 17, 18, 19, 20, 22, 23, 24, 25, 26, 27], [29, 30], []⟩ rfl rfl (by decide +kernel) rfl ⟨⟨_, rfl, Qok_val rfl (Ev_pickT _ rfl (decide_eq_true (by rw [rkeys_rk _ hk])) rfl)⟩, ⟨_, rfl, Qok_val rfl (Ev_assign rfl)⟩, trivial⟩ ?_
  refine K_sub (F' := [(4, .bool (decide ((mid (rkL (zr8 16)) (16*i) 16) = (mid (rkeysL (zr8 16)) (16*i) 16))))]) (Sub.cons (by kernel_rfl) (Sub.nil)) ?_
  show JQ _ _ _ [(4, .bool (decide ((mid (rkL (zr8 16)) (16*i) 16) = (mid (rkeysL (zr8 16)) (16*i) 16))))] _
  refine JQ_then ?_
  refine JC_ret ?_
  refine JQ_ret (.bool (decide ((mid (rkL (zr8 16)) (16*i) 16) = (mid (rkeysL (zr8 16)) (16*i) 16)))) (res1 Try.results5 (RV_tmp rfl)) fun w1 hw1 => ?_
  exact ⟨_, [], rfl, ⟨by rw [show (decide ((mid (rkL (zr8 16)) (16*i) 16) = (mid (rkeysL (zr8 16)) (16*i) 16))) = true from (decide_eq_true (by rw [rkeys_rk _ (zr8_len 16)]))], rfl⟩, hw1.sub (by simp) (by simp)⟩

set_option maxHeartbeats 4000000 in
theorem aesEncrypts_c (key b : List UInt8) (w : World) (hk : key.length = 16) (hb : b.length = 16) : Calls Try.prog 6 #[.agg (cu8 key).toArray, .agg (cu8 b).toArray] w (Post w [] (fun v L => v = .bool true ∧ L = [])) := by
  refine enter w [] 56 [] [.agg (cu8 key).toArray, .agg (cu8 b).toArray] Try.func6 rfl rfl (by simp) (Hp.start (by simp) (by simp) (by simp)) ?_
  show JC _ _ _ [(0, .agg (cu8 key).toArray), (1, .agg (cu8 b).toArray)] _
  refine JC_seq ?_
  refine JC_region ?_
  refine JL_step (Step_box (.agg (cu8 key).toArray) (cu8 key) rfl (by first | rfl | simp)) rfl ?_
  rintro v1 L1 ⟨nb1, hnb1, rfl, rfl⟩
  show JL _ _ _ _ ((2, Ptr nb1 0) :: _) [⟨nb1, cu8 key, 28, (0, 0)⟩]
  refine JL_step (Step_box (.agg (cu8 b).toArray) (cu8 b) rfl (by first | rfl | simp)) rfl ?_
  rintro v1 L1 ⟨nb2, hnb2, rfl, rfl⟩
  show JL _ _ _ _ ((3, Ptr nb2 0) :: _) [⟨nb1, cu8 key, 28, (0, 0)⟩, ⟨nb2, cu8 b, 27, (0, 0)⟩]
  refine JL_val _ (Ev_assign rfl) rfl ?_
  refine JL_nil ?_
  refine JQ_then ?_
  refine JC_seq ?_
  refine JC_seq ?_
  refine JC_region ?_
  refine JL_step (Step_callP 15 [] (.bool true) (Cl_func [] Try.call15 rfl) (fun w1 _ => alive4_c  w1)) rfl ?_
  rintro v1 L1 ⟨rfl, rfl⟩
  show JL _ _ _ _ ((8, .bool true) :: _) [⟨nb1, cu8 key, 28, (0, 0)⟩, ⟨nb2, cu8 b, 27, (0, 0)⟩]
  refine JL_val (.bool (!true)) (Ev_not rfl) rfl ?_
  refine JL_nil ?_
  refine JQ_then ?_
  refine JC_condF _ rfl rfl ?_
  refine JC_skip ?_
  refine JQ_then ?_
  refine JC_seq ?_
  refine JC_region ?_
  refine JL_val (.agg (cu8 key).toArray) (Ev_load rfl (Ld_agg Try.isAgg28 Try.sizeOf28 (len_cu8 hk) (MemAt.ent 0 rfl (Seg.whole _)))) rfl ?_
  refine JL_step (Step_callN 22 [.agg (cu8 key).toArray] _ (Cl_func [.agg (cu8 key).toArray] Try.call22 rfl) (fun w1 hw1 => new_c key w1 hk)) rfl ?_
  rintro v1 L1 ⟨_, ⟨nb3, rfl, rfl⟩, rfl⟩
  show JL _ _ _ _ ((11, Ptr nb3 0) :: _) [⟨nb1, cu8 key, 28, (0, 0)⟩, ⟨nb2, cu8 b, 27, (0, 0)⟩, ⟨nb3, cu8 (rkL key) ++ cu8 thereL ++ cu8 backL, 106, (0, 0)⟩]
  refine JL_val _ (Ev_assign rfl) rfl ?_
  refine JL_nil ?_
  refine JQ_then ?_
  refine JC_seq ?_
  refine JC_region ?_
  refine JL_val _ (Ev_assign rfl) rfl ?_
  refine JL_nil ?_
  refine JQ_then ?_
  refine JC_seq ?_
  refine JC_region ?_
  refine JL_val _ (Ev_move rfl) rfl ?_
  refine JL_val (.agg (cu8 b).toArray) (Ev_load rfl (Ld_agg Try.isAgg27 Try.sizeOf27 (len_cu8 hb) (MemAt.ent 1 rfl (Seg.whole _)))) rfl ?_
  refine JL_step (Step_callP 27 [Ptr nb3 0, .agg (cu8 b).toArray] (.agg (cu8 (encL (rkL key) b)).toArray) (Cl_func [Ptr nb3 0, .agg (cu8 b).toArray] Try.call27 rfl) (fun w1 hw1 => enc_c nb3 (rkL key) b w1 hb (rkL_len key hk) (hw1.ent _ (List.mem_of_getElem? (i := 2) rfl)))) rfl ?_
  rintro v1 L1 ⟨rfl, rfl⟩
  show JL _ _ _ _ ((14, .agg (cu8 (encL (rkL key) b)).toArray) :: _) [⟨nb1, cu8 key, 28, (0, 0)⟩, ⟨nb2, cu8 b, 27, (0, 0)⟩, ⟨nb3, cu8 (rkL key) ++ cu8 thereL ++ cu8 backL, 106, (0, 0)⟩]
  refine JL_step (Step_alloc _ (cu8 (zr8 16)) Try.zeroValue27 (by kernel_rfl)) rfl ?_
  rintro v1 L1 ⟨nb4, hnb4, rfl, rfl⟩
  show JL _ _ _ _ ((7, Ptr nb4 0) :: _) [⟨nb1, cu8 key, 28, (0, 0)⟩, ⟨nb2, cu8 b, 27, (0, 0)⟩, ⟨nb3, cu8 (rkL key) ++ cu8 thereL ++ cu8 backL, 106, (0, 0)⟩, ⟨nb4, cu8 (zr8 16), 27, (0, 0)⟩]
  refine JL_step (Step_store 3 nb4 0 16 (cu8 (zr8 16)) 27 (.agg (cu8 (encL (rkL key) b)).toArray) (cu8 (encL (rkL key) b)) (cu8 (encL (rkL key) b)) rfl rfl rfl (by first | rfl | simp) Try.sizeOf27 (len_cu8 (encL_len _ _ hb)) (by first | exact one_u8 | exact one_u32 | exact one_u64 | (simp [cu8, cu32, cu64, Value.oneCell']; done)) (by simp [(zr8_len 16)]) (lay_whole (by simp [(zr8_len 16), (encL_len _ _ hb)]))) rfl ?_
  rintro v1 L1 ⟨rfl, rfl⟩
  show JL _ _ _ _ _ [⟨nb1, cu8 key, 28, (0, 0)⟩, ⟨nb2, cu8 b, 27, (0, 0)⟩, ⟨nb3, cu8 (rkL key) ++ cu8 thereL ++ cu8 backL, 106, (0, 0)⟩, ⟨nb4, cu8 (encL (rkL key) b), 27, (0, 0)⟩]
  refine JL_nil ?_
  refine JQ_then ?_
  refine JC_seq ?_
  refine JC_draw 56 11 [(0, .agg (cu8 (encL (rkL key) b)).toArray), (1, .agg (cu8 key).toArray), (3, .agg (cu8 b).toArray)] Try.mixed rfl (by decide +kernel) ?_
  refine DP_one ⟨[], [0, 1, 3], [], [0, 1, 3], [2]⟩ 2 _ rfl rfl (by decide +kernel) rfl ⟨⟨_, rfl, Qok_val rfl (Ev_load rfl (Ld_agg Try.isAgg27 Try.sizeOf27 (len_cu8 (encL_len _ _ hb)) (MemAt.ent 3 rfl (Seg.whole _))))⟩, ⟨_, rfl, Qok_val rfl (Ev_load rfl (Ld_agg Try.isAgg28 Try.sizeOf28 (len_cu8 hk) (MemAt.ent 0 rfl (Seg.whole _))))⟩, ⟨_, rfl, Qok_val rfl (Ev_load rfl (Ld_agg Try.isAgg27 Try.sizeOf27 (len_cu8 hb) (MemAt.ent 1 rfl (Seg.whole _))))⟩, trivial⟩ rfl (Cok_step rfl (Step_callN 26 [.agg (cu8 key).toArray] _ (Cl_func [.agg (cu8 key).toArray] Try.call26 rfl) (fun w1 hw1 => rkeys_c key w1 hk))) ?_
  rintro v1 L1 ⟨_, ⟨nb5, sp1, cp1, hc1, hs1, rfl, rfl⟩, rfl⟩
  refine ⟨[], ?_⟩
  show DP _ _ _ _ _ _ _ _ [⟨nb1, cu8 key, 28, (0, 0)⟩, ⟨nb2, cu8 b, 27, (0, 0)⟩, ⟨nb3, cu8 (rkL key) ++ cu8 thereL ++ cu8 backL, 106, (0, 0)⟩, ⟨nb4, cu8 (encL (rkL key) b), 27, (0, 0)⟩, ⟨nb5, cu8 (rkeysL key) ++ sp1, 5, (0, 0)⟩]
  refine DP_one ⟨[2], [0, 1, 3], [1], [0, 3], [4]⟩ 4 _ rfl rfl (by decide +kernel) rfl ⟨⟨_, rfl, Qok_val rfl (Ev_load rfl (Ld_agg Try.isAgg27 Try.sizeOf27 (len_cu8 (encL_len _ _ hb)) (MemAt.ent 3 rfl (Seg.whole _))))⟩, ⟨_, rfl, Qok_val rfl (Ev_load rfl (Ld_agg Try.isAgg27 Try.sizeOf27 (len_cu8 hb) (MemAt.ent 1 rfl (Seg.whole _))))⟩, trivial⟩ rfl (Cok_step rfl (Step_callP 28 [Slc nb5 0 176 cp1, .agg (cu8 b).toArray] (.agg (cu8 (rencL (rkeysL key) b)).toArray) (Cl_func [Slc nb5 0 176 cp1, .agg (cu8 b).toArray] Try.call28 rfl) (fun w1 hw1 => renc_c b (rkeysL key) nb5 cp1 w1 hb (rkeysL_len key hk) (RdA.of hw1 (MemAt.ent 4 rfl (Seg.left (Seg.whole _))) (by simp [(rkeysL_len key hk)]))))) ?_
  rintro v1 L1 ⟨rfl, rfl⟩
  refine ⟨[(5, .bool (decide ((encL (rkL key) b) = (rencL (rkeysL key) b)))), (6, .bool (decide ((encL (rkL key) b) = (rencL (rkeysL key) b)))), (7, Ptr nb3 0), (8, .agg (cu8 (encL (rkL key) b)).toArray), (10, .agg (cu8 b).toArray)], ?_⟩
  show DP _ _ _ _ _ _ _ _ [⟨nb1, cu8 key, 28, (0, 0)⟩, ⟨nb2, cu8 b, 27, (0, 0)⟩, ⟨nb3, cu8 (rkL key) ++ cu8 thereL ++ cu8 backL, 106, (0, 0)⟩, ⟨nb4, cu8 (encL (rkL key) b), 27, (0, 0)⟩, ⟨nb5, cu8 (rkeysL key) ++ sp1, 5, (0, 0)⟩]
  refine DP_one ⟨[2, 4], [0, 1, 3, 5, 6, 7, 8, 10], [1, 3], [0, 5, 6, 7, 8, 10], [9]⟩ 9 _ rfl rfl (by decide +kernel) rfl ⟨⟨_, rfl, Qok_val rfl (Ev_load rfl (Ld_agg Try.isAgg27 Try.sizeOf27 (len_cu8 (encL_len _ _ hb)) (MemAt.ent 3 rfl (Seg.whole _))))⟩, ⟨_, rfl, Qok_val rfl (Ev_bin _ _ _ rfl rfl (fun _ => eqGuard_agg _ _ _ _ _ _ (by kernel_rfl)) fun _ => eql_arr8 Try.underlying27 Try.underlying5 Try.isAgg5 Try.cells5 Try.has5 (by simp [(encL_len _ _ hb)]) (by simp [(rencL_len _ _ hb)]))⟩, ⟨_, rfl, Qok_val rfl (Ev_move rfl)⟩, ⟨_, rfl, Qok_gval 6 21 true _ rfl rfl rfl (decide_eq_true (renc_enc _ _ hk hb)) (Ev_move rfl)⟩, ⟨_, rfl, Qok_gval 6 21 true _ rfl rfl rfl (decide_eq_true (renc_enc _ _ hk hb)) (Ev_load rfl (Ld_agg Try.isAgg27 Try.sizeOf27 (len_cu8 (encL_len _ _ hb)) (MemAt.ent 3 rfl (Seg.whole _))))⟩, ⟨_, rfl, Qok_gval 6 21 true _ rfl rfl rfl (decide_eq_true (renc_enc _ _ hk hb)) (Ev_load rfl (Ld_agg Try.isAgg27 Try.sizeOf27 (len_cu8 hb) (MemAt.ent 1 rfl (Seg.whole _))))⟩, trivial⟩ rfl (Cok_gstep 6 21 true _ rfl rfl rfl (decide_eq_true (renc_enc _ _ hk hb)) (Step_callP 29 [Ptr nb3 0, .agg (cu8 (encL (rkL key) b)).toArray] (.agg (cu8 (decL (rkL key) (encL (rkL key) b))).toArray) (Cl_func [Ptr nb3 0, .agg (cu8 (encL (rkL key) b)).toArray] Try.call29 rfl) (fun w1 hw1 => dec_c nb3 (rkL key) (encL (rkL key) b) w1 (encL_len _ _ hb) (rkL_len key hk) (hw1.ent _ (List.mem_of_getElem? (i := 2) rfl))))) ?_
  rintro v1 L1 ⟨rfl, rfl⟩
  refine ⟨[(11, .bool (decide ((decL (rkL key) (encL (rkL key) b)) = b))), (12, .bool (decide ((decL (rkL key) (encL (rkL key) b)) = b))), (13, .bool (decide ((decL (rkL key) (encL (rkL key) b)) = b))), (14, Ptr nb3 0), (15, Ptr nb3 0), (16, .agg (cu8 b).toArray), (19, .agg (cu8 b).toArray)], ?_⟩
  show DP _ _ _ _ _ _ _ _ [⟨nb1, cu8 key, 28, (0, 0)⟩, ⟨nb2, cu8 b, 27, (0, 0)⟩, ⟨nb3, cu8 (rkL key) ++ cu8 thereL ++ cu8 backL, 106, (0, 0)⟩, ⟨nb4, cu8 (encL (rkL key) b), 27, (0, 0)⟩, ⟨nb5, cu8 (rkeysL key) ++ sp1, 5, (0, 0)⟩]
  refine DP_one ⟨[2, 4, 9], [0, 1, 3, 5, 6, 7, 8, 10, 11, 12, 13, 14, 15, 16, 19], [0, 1, 3, 5, 6, 7, 8], [10, 11, 12, 13, 14, 15, 16, 19], [17]⟩ 17 _ rfl rfl (by decide +kernel) rfl ⟨⟨_, rfl, Qok_gval 6 21 true _ rfl rfl rfl (decide_eq_true (renc_enc _ _ hk hb)) (Ev_load rfl (Ld_agg Try.isAgg27 Try.sizeOf27 (len_cu8 hb) (MemAt.ent 1 rfl (Seg.whole _))))⟩, ⟨_, rfl, Qok_gval 6 21 true _ rfl rfl rfl (decide_eq_true (renc_enc _ _ hk hb)) (Ev_bin _ _ _ rfl rfl (fun _ => eqGuard_agg _ _ _ _ _ _ (by kernel_rfl)) fun _ => eql_arr8 Try.underlying27 Try.underlying5 Try.isAgg5 Try.cells5 Try.has5 (by simp [(decL_len _ _ (encL_len _ _ hb))]) (by simp [hb]))⟩, ⟨_, rfl, Qok_val rfl (Ev_pickT _ rfl (decide_eq_true (renc_enc _ _ hk hb)) rfl)⟩, ⟨_, rfl, Qok_val rfl (Ev_move rfl)⟩, ⟨_, rfl, Qok_gval 13 28 true _ rfl rfl rfl (decide_eq_true (dec_enc _ _ (rkL_len key hk) hb)) (Ev_move rfl)⟩, ⟨_, rfl, Qok_gval 13 28 true _ rfl rfl rfl (decide_eq_true (dec_enc _ _ (rkL_len key hk) hb)) (Ev_move rfl)⟩, ⟨_, rfl, Qok_gval 13 28 true _ rfl rfl rfl (decide_eq_true (dec_enc _ _ (rkL_len key hk) hb)) (Ev_load rfl (Ld_agg Try.isAgg27 Try.sizeOf27 (len_cu8 hb) (MemAt.ent 1 rfl (Seg.whole _))))⟩, ⟨_, rfl, Qok_gval 13 28 true _ rfl rfl rfl (decide_eq_true (dec_enc _ _ (rkL_len key hk) hb)) (Ev_load rfl (Ld_agg Try.isAgg27 Try.sizeOf27 (len_cu8 hb) (MemAt.ent 1 rfl (Seg.whole _))))⟩, trivial⟩ rfl (Cok_gstep 13 28 true _ rfl rfl rfl (decide_eq_true (dec_enc _ _ (rkL_len key hk) hb)) (Step_callP 29 [Ptr nb3 0, .agg (cu8 b).toArray] (.agg (cu8 (decL (rkL key) b)).toArray) (Cl_func [Ptr nb3 0, .agg (cu8 b).toArray] Try.call29 rfl) (fun w1 hw1 => dec_c nb3 (rkL key) b w1 hb (rkL_len key hk) (hw1.ent _ (List.mem_of_getElem? (i := 2) rfl))))) ?_
  rintro v1 L1 ⟨rfl, rfl⟩
  refine ⟨[], ?_⟩
  show DP _ _ _ _ _ _ _ _ [⟨nb1, cu8 key, 28, (0, 0)⟩, ⟨nb2, cu8 b, 27, (0, 0)⟩, ⟨nb3, cu8 (rkL key) ++ cu8 thereL ++ cu8 backL, 106, (0, 0)⟩, ⟨nb4, cu8 (encL (rkL key) b), 27, (0, 0)⟩, ⟨nb5, cu8 (rkeysL key) ++ sp1, 5, (0, 0)⟩]
  refine DP_one ⟨[2, 4, 9, 17], [0, 1, 3, 5, 6, 7, 8, 10, 11, 12, 13, 14, 15, 16, 19], [0, 1, 3, 5, 6, 7, 8, 10, 11, 12, 13, 15, 16], [14, 19], [18]⟩ 18 _ rfl rfl (by decide +kernel) rfl ⟨⟨_, rfl, Qok_gval 13 28 true _ rfl rfl rfl (decide_eq_true (dec_enc _ _ (rkL_len key hk) hb)) (Ev_move rfl)⟩, ⟨_, rfl, Qok_gval 13 28 true _ rfl rfl rfl (decide_eq_true (dec_enc _ _ (rkL_len key hk) hb)) (Ev_load rfl (Ld_agg Try.isAgg27 Try.sizeOf27 (len_cu8 hb) (MemAt.ent 1 rfl (Seg.whole _))))⟩, trivial⟩ rfl (Cok_gstep 13 28 true _ rfl rfl rfl (decide_eq_true (dec_enc _ _ (rkL_len key hk) hb)) (Step_callP 27 [Ptr nb3 0, .agg (cu8 (decL (rkL key) b)).toArray] (.agg (cu8 (encL (rkL key) (decL (rkL key) b))).toArray) (Cl_func [Ptr nb3 0, .agg (cu8 (decL (rkL key) b)).toArray] Try.call27 rfl) (fun w1 hw1 => enc_c nb3 (rkL key) (decL (rkL key) b) w1 (decL_len _ _ hb) (rkL_len key hk) (hw1.ent _ (List.mem_of_getElem? (i := 2) rfl))))) ?_
  rintro v1 L1 ⟨rfl, rfl⟩
  refine ⟨[(20, .bool (decide ((encL (rkL key) (decL (rkL key) b)) = b))), (21, .bool (decide ((encL (rkL key) (decL (rkL key) b)) = b))), (22, .bool (decide ((encL (rkL key) (decL (rkL key) b)) = b))), (23, .pointer none), (24, .agg (cu8 b).toArray), (26, .agg (cu8 (zr8 16)).toArray), (28, .agg (cu8 b).toArray)], ?_⟩
  show DP _ _ _ _ _ _ _ _ [⟨nb1, cu8 key, 28, (0, 0)⟩, ⟨nb2, cu8 b, 27, (0, 0)⟩, ⟨nb3, cu8 (rkL key) ++ cu8 thereL ++ cu8 backL, 106, (0, 0)⟩, ⟨nb4, cu8 (encL (rkL key) b), 27, (0, 0)⟩, ⟨nb5, cu8 (rkeysL key) ++ sp1, 5, (0, 0)⟩]
  refine DP_one ⟨[2, 4, 9, 17, 18], [0, 1, 3, 5, 6, 7, 8, 10, 11, 12, 13, 14, 15, 16, 19, 20, 21, 22, 23, 24, 26, 28], [0, 1, 3, 5, 6, 7, 8, 10, 11, 12, 13, 14, 15, 16], [19, 20, 21, 22, 23, 24, 26, 28], [25]⟩ 25 _ rfl rfl (by decide +kernel) rfl ⟨⟨_, rfl, Qok_gval 13 28 true _ rfl rfl rfl (decide_eq_true (dec_enc _ _ (rkL_len key hk) hb)) (Ev_load rfl (Ld_agg Try.isAgg27 Try.sizeOf27 (len_cu8 hb) (MemAt.ent 1 rfl (Seg.whole _))))⟩, ⟨_, rfl, Qok_gval 13 28 true _ rfl rfl rfl (decide_eq_true (dec_enc _ _ (rkL_len key hk) hb)) (Ev_bin _ _ _ rfl rfl (fun _ => eqGuard_agg _ _ _ _ _ _ (by kernel_rfl)) fun _ => eql_arr8 Try.underlying27 Try.underlying5 Try.isAgg5 Try.cells5 Try.has5 (by simp [(encL_len _ _ (decL_len _ _ hb))]) (by simp [hb]))⟩, ⟨_, rfl, Qok_val rfl (Ev_pickT _ rfl (decide_eq_true (dec_enc _ _ (rkL_len key hk) hb)) rfl)⟩, ⟨_, rfl, Qok_val rfl (Ev_move rfl)⟩, ⟨_, rfl, Qok_gval 22 37 true _ rfl rfl rfl (decide_eq_true (enc_dec _ _ (rkL_len key hk) hb)) (Ev_move rfl)⟩, ⟨_, rfl, Qok_gval 22 37 true _ rfl rfl rfl (decide_eq_true (enc_dec _ _ (rkL_len key hk) hb)) (Ev_load rfl (Ld_agg Try.isAgg27 Try.sizeOf27 (len_cu8 hb) (MemAt.ent 1 rfl (Seg.whole _))))⟩, ⟨_, rfl, Qok_gval 22 37 true _ rfl rfl rfl (decide_eq_true (enc_dec _ _ (rkL_len key hk) hb)) (Ev_build [] _ rfl (fun _ => by kernel_rfl))⟩, ⟨_, rfl, Qok_gval 22 37 true _ rfl rfl rfl (decide_eq_true (enc_dec _ _ (rkL_len key hk) hb)) (Ev_load rfl (Ld_agg Try.isAgg27 Try.sizeOf27 (len_cu8 hb) (MemAt.ent 1 rfl (Seg.whole _))))⟩, trivial⟩ rfl (Cok_gstep 22 37 true _ rfl rfl rfl (decide_eq_true (enc_dec _ _ (rkL_len key hk) hb)) (Step_callP 27 [.pointer none, .agg (cu8 b).toArray] (.agg (cu8 (encL (rkL (zr8 16)) b)).toArray) (Cl_func [.pointer none, .agg (cu8 b).toArray] Try.call27 rfl) (fun w1 hw1 => encnil_c b w1 hb))) ?_
  rintro v1 L1 ⟨rfl, rfl⟩
  refine ⟨[], ?_⟩
  show DP _ _ _ _ _ _ _ _ [⟨nb1, cu8 key, 28, (0, 0)⟩, ⟨nb2, cu8 b, 27, (0, 0)⟩, ⟨nb3, cu8 (rkL key) ++ cu8 thereL ++ cu8 backL, 106, (0, 0)⟩, ⟨nb4, cu8 (encL (rkL key) b), 27, (0, 0)⟩, ⟨nb5, cu8 (rkeysL key) ++ sp1, 5, (0, 0)⟩]
  refine DP_one ⟨[2, 4, 9, 17, 18, 25], [0, 1, 3, 5, 6, 7, 8, 10, 11, 12, 13, 14, 15, 16, 19, 20, 21, 22, 23, 24, 26, 28], [0, 1, 3, 5, 6, 7, 8, 10, 11, 12, 13, 14, 15, 16, 19, 20, 21, 22, 23, 24], [26, 28], [27]⟩ 27 _ rfl rfl (by decide +kernel) rfl ⟨⟨_, rfl, Qok_gval 22 37 true _ rfl rfl rfl (decide_eq_true (enc_dec _ _ (rkL_len key hk) hb)) (Ev_build [] _ rfl (fun _ => by kernel_rfl))⟩, ⟨_, rfl, Qok_gval 22 37 true _ rfl rfl rfl (decide_eq_true (enc_dec _ _ (rkL_len key hk) hb)) (Ev_load rfl (Ld_agg Try.isAgg27 Try.sizeOf27 (len_cu8 hb) (MemAt.ent 1 rfl (Seg.whole _))))⟩, trivial⟩ rfl (Cok_gstep 22 37 true _ rfl rfl rfl (decide_eq_true (enc_dec _ _ (rkL_len key hk) hb)) (Step_callN 22 [.agg (cu8 (zr8 16)).toArray] _ (Cl_func [.agg (cu8 (zr8 16)).toArray] Try.call22 rfl) (fun w1 hw1 => new_c (zr8 16) w1 (zr8_len 16)))) ?_
  rintro v1 L1 ⟨_, ⟨nb6, rfl, rfl⟩, rfl⟩
  refine ⟨[], ?_⟩
  show DP _ _ _ _ _ _ _ _ [⟨nb1, cu8 key, 28, (0, 0)⟩, ⟨nb2, cu8 b, 27, (0, 0)⟩, ⟨nb3, cu8 (rkL key) ++ cu8 thereL ++ cu8 backL, 106, (0, 0)⟩, ⟨nb4, cu8 (encL (rkL key) b), 27, (0, 0)⟩, ⟨nb5, cu8 (rkeysL key) ++ sp1, 5, (0, 0)⟩, ⟨nb6, cu8 (rkL (zr8 16)) ++ cu8 thereL ++ cu8 backL, 106, (0, 0)⟩]
  refine DP_one ⟨[2, 4, 9, 17, 18, 25, 27], [0, 1, 3, 5, 6, 7, 8, 10, 11, 12, 13, 14, 15, 16, 19, 20, 21, 22, 23, 24, 26, 28], [0, 1, 3, 5, 6, 7, 8, 10, 11, 12, 13, 14, 15, 16, 19, 20, 21, 22, 23, 24, 26], [28], [29]⟩ 29 _ rfl rfl (by decide +kernel) rfl ⟨⟨_, rfl, Qok_gval 22 37 true _ rfl rfl rfl (decide_eq_true (enc_dec _ _ (rkL_len key hk) hb)) (Ev_load rfl (Ld_agg Try.isAgg27 Try.sizeOf27 (len_cu8 hb) (MemAt.ent 1 rfl (Seg.whole _))))⟩, trivial⟩ rfl (Cok_gstep 22 37 true _ rfl rfl rfl (decide_eq_true (enc_dec _ _ (rkL_len key hk) hb)) (Step_callP 27 [Ptr nb6 0, .agg (cu8 b).toArray] (.agg (cu8 (encL (rkL (zr8 16)) b)).toArray) (Cl_func [Ptr nb6 0, .agg (cu8 b).toArray] Try.call27 rfl) (fun w1 hw1 => enc_c nb6 (rkL (zr8 16)) b w1 hb (rkL_len (zr8 16) (zr8_len 16)) (hw1.ent _ (List.mem_of_getElem? (i := 5) rfl))))) ?_
  rintro v1 L1 ⟨rfl, rfl⟩
  refine ⟨[(30, .bool (decide ((encL (rkL (zr8 16)) b) = (encL (rkL (zr8 16)) b)))), (31, .bool (decide ((encL (rkL (zr8 16)) b) = (encL (rkL (zr8 16)) b)))), (32, .bool (decide ((encL (rkL (zr8 16)) b) = (encL (rkL (zr8 16)) b)))), (33, .pointer none), (34, .pointer none), (35, .agg (cu8 b).toArray), (38, .agg (cu8 b).toArray)], ?_⟩
  show DP _ _ _ _ _ _ _ _ [⟨nb1, cu8 key, 28, (0, 0)⟩, ⟨nb2, cu8 b, 27, (0, 0)⟩, ⟨nb3, cu8 (rkL key) ++ cu8 thereL ++ cu8 backL, 106, (0, 0)⟩, ⟨nb4, cu8 (encL (rkL key) b), 27, (0, 0)⟩, ⟨nb5, cu8 (rkeysL key) ++ sp1, 5, (0, 0)⟩, ⟨nb6, cu8 (rkL (zr8 16)) ++ cu8 thereL ++ cu8 backL, 106, (0, 0)⟩]
  refine DP_one ⟨[2, 4, 9, 17, 18, 25, 27, 29], [0, 1, 3, 5, 6, 7, 8, 10, 11, 12, 13, 14, 15, 16, 19, 20, 21, 22, 23, 24, 26, 28, 30, 31, 32, 33, 34, 35, 38], [0, 1, 3, 5, 6, 7, 8, 10, 11, 12, 13, 14, 15, 16, 19, 20, 21, 22, 23, 24, 26, 28], [30, 31, 32, 33, 34, 35, 38], [36]⟩ 36 _ rfl rfl (by decide +kernel) rfl ⟨⟨_, rfl, Qok_gval 22 37 true _ rfl rfl rfl (decide_eq_true (enc_dec _ _ (rkL_len key hk) hb)) (Ev_bin _ _ _ rfl rfl (fun _ => eqGuard_agg _ _ _ _ _ _ (by kernel_rfl)) fun _ => eql_arr8 Try.underlying27 Try.underlying5 Try.isAgg5 Try.cells5 Try.has5 (by simp [(encL_len _ _ hb)]) (by simp [(encL_len _ _ hb)]))⟩, ⟨_, rfl, Qok_val rfl (Ev_pickT _ rfl (decide_eq_true (enc_dec _ _ (rkL_len key hk) hb)) rfl)⟩, ⟨_, rfl, Qok_val rfl (Ev_move rfl)⟩, ⟨_, rfl, Qok_gval 32 47 true _ rfl rfl rfl (decide_eq_true (rfl)) (Ev_move rfl)⟩, ⟨_, rfl, Qok_gval 32 47 true _ rfl rfl rfl (decide_eq_true (rfl)) (Ev_move rfl)⟩, ⟨_, rfl, Qok_gval 32 47 true _ rfl rfl rfl (decide_eq_true (rfl)) (Ev_load rfl (Ld_agg Try.isAgg27 Try.sizeOf27 (len_cu8 hb) (MemAt.ent 1 rfl (Seg.whole _))))⟩, ⟨_, rfl, Qok_gval 32 47 true _ rfl rfl rfl (decide_eq_true (rfl)) (Ev_load rfl (Ld_agg Try.isAgg27 Try.sizeOf27 (len_cu8 hb) (MemAt.ent 1 rfl (Seg.whole _))))⟩, trivial⟩ rfl (Cok_gstep 32 47 true _ rfl rfl rfl (decide_eq_true (rfl)) (Step_callP 27 [.pointer none, .agg (cu8 b).toArray] (.agg (cu8 (encL (rkL (zr8 16)) b)).toArray) (Cl_func [.pointer none, .agg (cu8 b).toArray] Try.call27 rfl) (fun w1 hw1 => encnil_c b w1 hb))) ?_
  rintro v1 L1 ⟨rfl, rfl⟩
  refine ⟨[], ?_⟩
  show DP _ _ _ _ _ _ _ _ [⟨nb1, cu8 key, 28, (0, 0)⟩, ⟨nb2, cu8 b, 27, (0, 0)⟩, ⟨nb3, cu8 (rkL key) ++ cu8 thereL ++ cu8 backL, 106, (0, 0)⟩, ⟨nb4, cu8 (encL (rkL key) b), 27, (0, 0)⟩, ⟨nb5, cu8 (rkeysL key) ++ sp1, 5, (0, 0)⟩, ⟨nb6, cu8 (rkL (zr8 16)) ++ cu8 thereL ++ cu8 backL, 106, (0, 0)⟩]
  refine DP_one ⟨[2, 4, 9, 17, 18, 25, 27, 29, 36], [0, 1, 3, 5, 6, 7, 8, 10, 11, 12, 13, 14, 15, 16, 19, 20, 21, 22, 23, 24, 26, 28, 30, 31, 32, 33, 34, 35, 38], [0, 1, 3, 5, 6, 7, 8, 10, 11, 12, 13, 14, 15, 16, 19, 20, 21, 22, 23, 24, 26, 28, 30, 31, 32, 34, 35], [33, 38], [37]⟩ 37 _ rfl rfl (by decide +kernel) rfl ⟨⟨_, rfl, Qok_gval 32 47 true _ rfl rfl rfl (decide_eq_true (rfl)) (Ev_move rfl)⟩, ⟨_, rfl, Qok_gval 32 47 true _ rfl rfl rfl (decide_eq_true (rfl)) (Ev_load rfl (Ld_agg Try.isAgg27 Try.sizeOf27 (len_cu8 hb) (MemAt.ent 1 rfl (Seg.whole _))))⟩, trivial⟩ rfl (Cok_gstep 32 47 true _ rfl rfl rfl (decide_eq_true (rfl)) (Step_callP 29 [.pointer none, .agg (cu8 (encL (rkL (zr8 16)) b)).toArray] (.agg (cu8 (decL (rkL (zr8 16)) (encL (rkL (zr8 16)) b))).toArray) (Cl_func [.pointer none, .agg (cu8 (encL (rkL (zr8 16)) b)).toArray] Try.call29 rfl) (fun w1 hw1 => decnil_c (encL (rkL (zr8 16)) b) w1 (encL_len _ _ hb)))) ?_
  rintro v1 L1 ⟨rfl, rfl⟩
  refine ⟨[(39, .bool (decide ((decL (rkL (zr8 16)) (encL (rkL (zr8 16)) b)) = b))), (40, .bool (decide ((decL (rkL (zr8 16)) (encL (rkL (zr8 16)) b)) = b))), (41, .bool (decide ((decL (rkL (zr8 16)) (encL (rkL (zr8 16)) b)) = b)))], ?_⟩
  show DP _ _ _ _ _ _ _ _ [⟨nb1, cu8 key, 28, (0, 0)⟩, ⟨nb2, cu8 b, 27, (0, 0)⟩, ⟨nb3, cu8 (rkL key) ++ cu8 thereL ++ cu8 backL, 106, (0, 0)⟩, ⟨nb4, cu8 (encL (rkL key) b), 27, (0, 0)⟩, ⟨nb5, cu8 (rkeysL key) ++ sp1, 5, (0, 0)⟩, ⟨nb6, cu8 (rkL (zr8 16)) ++ cu8 thereL ++ cu8 backL, 106, (0, 0)⟩]
  refine DP_end ⟨[2, 4, 9, 17, 18, 25, 27, 29, 36, 37], [0, 1, 3, 5, 6, 7, 8, 10, 11, 12, 13, 14, 15, 16, 19, 20, 21, 22, 23, 24, 26, 28, 30, 31, 32, 33, 34, 35, 38, 39, 40, 41], [0, 1, 3, 5, 6, 7, 8, 10, 11, 12, 13, 14, 15, 16, 19, 20, 21, 22, 23, 24, 26, 28, 30, 31, 32, 33, 34, 35], [38, 39, 40, 41], []⟩ rfl rfl (by decide +kernel) rfl ⟨⟨_, rfl, Qok_gval 32 47 true _ rfl rfl rfl (decide_eq_true (rfl)) (Ev_load rfl (Ld_agg Try.isAgg27 Try.sizeOf27 (len_cu8 hb) (MemAt.ent 1 rfl (Seg.whole _))))⟩, ⟨_, rfl, Qok_gval 32 47 true _ rfl rfl rfl (decide_eq_true (rfl)) (Ev_bin _ _ _ rfl rfl (fun _ => eqGuard_agg _ _ _ _ _ _ (by kernel_rfl)) fun _ => eql_arr8 Try.underlying27 Try.underlying5 Try.isAgg5 Try.cells5 Try.has5 (by simp [(decL_len _ _ (encL_len _ _ hb))]) (by simp [hb]))⟩, ⟨_, rfl, Qok_val rfl (Ev_pickT _ rfl (decide_eq_true (rfl)) rfl)⟩, ⟨_, rfl, Qok_val rfl (Ev_assign rfl)⟩, trivial⟩ ?_
  refine K_sub (F' := [(4, .bool (decide ((decL (rkL (zr8 16)) (encL (rkL (zr8 16)) b)) = b)))]) (Sub.cons (by kernel_rfl) (Sub.nil)) ?_
  show JQ _ _ _ [(4, .bool (decide ((decL (rkL (zr8 16)) (encL (rkL (zr8 16)) b)) = b)))] _
  refine JQ_then ?_
  refine JC_ret ?_
  refine JQ_ret (.bool (decide ((decL (rkL (zr8 16)) (encL (rkL (zr8 16)) b)) = b))) (res1 Try.results6 (RV_tmp rfl)) fun w1 hw1 => ?_
  exact ⟨_, [], rfl, ⟨by rw [show (decide ((decL (rkL (zr8 16)) (encL (rkL (zr8 16)) b)) = b)) = true from (decide_eq_true (dec_enc _ _ (rkL_len _ (zr8_len 16)) hb))], rfl⟩, hw1.sub (by simp) (by simp)⟩

end Go.Proofs.Ytncoifiafklkjaa
