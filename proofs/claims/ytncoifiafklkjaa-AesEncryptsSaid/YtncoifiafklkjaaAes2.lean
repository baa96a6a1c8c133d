import Derived.Test.YtncoifiafklkjaaFx
import Derived.Test.YtncoifiafklkjaaAesSub
import Derived.Test.YtncoifiafklkjaaAes1
namespace Go.Proofs.Ytncoifiafklkjaa
open Go Go.Sx
set_option linter.unusedVariables false
set_option linter.unusedSimpArgs false
theorem subst_same (a b : UInt8) : ((decide (subst1 a = subst1 b)) == (decide (a = b))) = true := by
  by_cases h : a = b
  · subst h; simp
  · have h2 : subst1 a ≠ subst1 b := fun e => h (subst_inj e)
    simp [h, h2]
theorem not_not_of {p : Prop} (h : p) : ¬ ¬ p := fun k => k h
theorem alive4_c  (w : World) : Calls Try.prog 15 #[] w (Post w [] (fun v L => v = .bool true ∧ L = [])) := by
  refine enter w [] 7 [] [] Try.func15 rfl rfl (by simp) (Hp.start (by simp) (by simp) (by simp)) ?_
  show JC _ _ _ [] _
  refine JC_seq ?_
  refine JC_region ?_
  refine JL_val _ (Ev_assign rfl) rfl ?_
  refine JL_nil ?_
  refine JQ_then ?_
  refine JC_seq ?_
  refine JC_region ?_
  refine JL_step (Step_callP 20 [U8 (0:UInt8)] (U8 (subst1 (0:UInt8))) (Cl_func [U8 (0:UInt8)] Try.call20 rfl) (fun w1 _ => substitute_c (0:UInt8) w1)) rfl ?_
  rintro v1 L1 ⟨rfl, rfl⟩
  show JL _ _ _ _ ((1, U8 (subst1 (0:UInt8))) :: _) []
  refine JL_val (.bool (decide ((subst1 (0:UInt8)) = (99:UInt8)))) (Ev_bini rfl rfl fun _ => bin_eql_u8 (subst1 (0:UInt8)) (99:UInt8)) rfl ?_
  refine JL_val _ (Ev_move rfl) rfl ?_
  refine JL_gstep 2 3 true _ rfl rfl (by decide +kernel) (Step_callP 20 [U8 (1:UInt8)] (U8 (subst1 (1:UInt8))) (Cl_func [U8 (1:UInt8)] Try.call20 rfl) (fun w1 _ => substitute_c (1:UInt8) w1)) rfl ?_
  rintro v1 L1 ⟨rfl, rfl⟩
  show JL _ _ _ _ ((4, U8 (subst1 (1:UInt8))) :: _) []
  refine JL_gval 2 3 true _ (.bool (decide ((subst1 (1:UInt8)) = (124:UInt8)))) rfl rfl (by decide +kernel) (Ev_bini rfl rfl fun _ => bin_eql_u8 (subst1 (1:UInt8)) (124:UInt8)) rfl ?_
  refine JL_val _ (Ev_pickT _ rfl (by decide +kernel) rfl) rfl ?_
  refine JL_val _ (Ev_assign rfl) rfl ?_
  refine JL_nil ?_
  refine JQ_then ?_
  refine JC_ret ?_
  refine JQ_ret (.bool (decide ((subst1 (1:UInt8)) = (124:UInt8)))) (res1 Try.results15 (RV_tmp rfl)) fun w1 hw1 => ?_
  exact ⟨_, [], rfl, ⟨by rw [show (decide ((subst1 (1:UInt8)) = (124:UInt8))) = true from (by decide +kernel)], rfl⟩, hw1.sub (by simp) (by simp)⟩

theorem aesElements_c (a b : UInt8) (w : World) : Calls Try.prog 3 #[U8 a, U8 b] w (Post w [] (fun v L => v = .bool true ∧ L = [])) := by
  refine enter w [] 35 [] [U8 a, U8 b] Try.func3 rfl rfl (by simp) (Hp.start (by simp) (by simp) (by simp)) ?_
  show JC _ _ _ [(0, U8 a), (1, U8 b)] _
  refine JC_seq ?_
  refine JC_region ?_
  refine JL_val _ (Ev_assign rfl) rfl ?_
  refine JL_nil ?_
  refine JQ_then ?_
  refine JC_seq ?_
  refine JC_seq ?_
  refine JC_region ?_
  refine JL_step (Step_callP 15 [] (.bool true) (Cl_func [] Try.call15 rfl) (fun w1 _ => alive4_c  w1)) rfl ?_
  rintro v1 L1 ⟨rfl, rfl⟩
  show JL _ _ _ _ ((5, .bool true) :: _) []
  refine JL_val (.bool (!true)) (Ev_not rfl) rfl ?_
  refine JL_nil ?_
  refine JQ_then ?_
  refine JC_condF _ rfl rfl ?_
  refine JC_skip ?_
  refine JQ_then ?_
  refine JC_seq ?_
  refine JC_draw 35 8 [(0, U8 a), (1, U8 b), (3, U8 a), (4, U8 b)] Try.mixed rfl (by decide +kernel) ?_
  refine DP_one ⟨[], [0, 1, 3, 4], [], [0, 1, 3, 4], [2]⟩ 2 _ rfl rfl (by decide +kernel) rfl ⟨⟨_, rfl, Qok_val rfl (Ev_move rfl)⟩, ⟨_, rfl, Qok_val rfl (Ev_move rfl)⟩, ⟨_, rfl, Qok_val rfl (Ev_move rfl)⟩, ⟨_, rfl, Qok_val rfl (Ev_move rfl)⟩, trivial⟩ rfl (Cok_step rfl (Step_callP 16 [U8 a, U8 b] (U8 (gmul a b)) (Cl_func [U8 a, U8 b] Try.call16 rfl) (fun w1 _ => product_c a b w1))) ?_
  rintro v1 L1 ⟨rfl, rfl⟩
  refine ⟨[], ?_⟩
  show DP _ _ _ _ _ _ _ _ []
  refine DP_one ⟨[2], [0, 1, 3, 4], [0, 1], [3, 4], [5]⟩ 5 _ rfl rfl (by decide +kernel) rfl ⟨⟨_, rfl, Qok_val rfl (Ev_move rfl)⟩, ⟨_, rfl, Qok_val rfl (Ev_move rfl)⟩, trivial⟩ rfl (Cok_step rfl (Step_callP 17 [U8 a, U8 b] (U8 (rmul a b)) (Cl_func [U8 a, U8 b] Try.call17 rfl) (fun w1 _ => rproduct_c a b w1))) ?_
  rintro v1 L1 ⟨rfl, rfl⟩
  refine ⟨[(6, .bool (decide ((gmul a b) = (rmul a b)))), (7, .bool (decide ((gmul a b) = (rmul a b)))), (8, U8 a), (10, U8 a)], ?_⟩
  show DP _ _ _ _ _ _ _ _ []
  refine DP_one ⟨[2, 5], [0, 1, 3, 4, 6, 7, 8, 10], [0, 1, 3, 4], [6, 7, 8, 10], [9]⟩ 9 _ rfl rfl (by decide +kernel) rfl ⟨⟨_, rfl, Qok_val rfl (Ev_bini rfl rfl fun _ => bin_eql_u8 (gmul a b) (rmul a b))⟩, ⟨_, rfl, Qok_val rfl (Ev_move rfl)⟩, ⟨_, rfl, Qok_gval 7 14 true _ rfl rfl rfl (decide_eq_true (gmul_rmul a b)) (Ev_move rfl)⟩, ⟨_, rfl, Qok_gval 7 14 true _ rfl rfl rfl (decide_eq_true (gmul_rmul a b)) (Ev_move rfl)⟩, trivial⟩ rfl (Cok_gstep 7 14 true _ rfl rfl rfl (decide_eq_true (gmul_rmul a b)) (Step_callP 18 [U8 a] (U8 (ginv a)) (Cl_func [U8 a] Try.call18 rfl) (fun w1 _ => inverse_c a w1))) ?_
  rintro v1 L1 ⟨rfl, rfl⟩
  refine ⟨[], ?_⟩
  show DP _ _ _ _ _ _ _ _ []
  refine DP_one ⟨[2, 5, 9], [0, 1, 3, 4, 6, 7, 8, 10], [0, 1, 3, 4, 6, 7, 8], [10], [11]⟩ 11 _ rfl rfl (by decide +kernel) rfl ⟨⟨_, rfl, Qok_gval 7 14 true _ rfl rfl rfl (decide_eq_true (gmul_rmul a b)) (Ev_move rfl)⟩, trivial⟩ rfl (Cok_gstep 7 14 true _ rfl rfl rfl (decide_eq_true (gmul_rmul a b)) (Step_callP 19 [U8 a] (U8 (rinv a)) (Cl_func [U8 a] Try.call19 rfl) (fun w1 _ => rinverse_c a w1))) ?_
  rintro v1 L1 ⟨rfl, rfl⟩
  refine ⟨[(12, .bool (decide ((ginv a) = (rinv a)))), (13, .bool (decide ((ginv a) = (rinv a)))), (14, .bool (decide ((ginv a) = (rinv a)))), (15, U8 a), (17, U8 a)], ?_⟩
  show DP _ _ _ _ _ _ _ _ []
  refine DP_one ⟨[2, 5, 9, 11], [0, 1, 3, 4, 6, 7, 8, 10, 12, 13, 14, 15, 17], [0, 1, 3, 4, 6, 7, 8, 10], [12, 13, 14, 15, 17], [16]⟩ 16 _ rfl rfl (by decide +kernel) rfl ⟨⟨_, rfl, Qok_gval 7 14 true _ rfl rfl rfl (decide_eq_true (gmul_rmul a b)) (Ev_bini rfl rfl fun _ => bin_eql_u8 (ginv a) (rinv a))⟩, ⟨_, rfl, Qok_val rfl (Ev_pickT _ rfl (decide_eq_true (gmul_rmul a b)) rfl)⟩, ⟨_, rfl, Qok_val rfl (Ev_move rfl)⟩, ⟨_, rfl, Qok_gval 14 21 true _ rfl rfl rfl (decide_eq_true (ginv_rinv a)) (Ev_move rfl)⟩, ⟨_, rfl, Qok_gval 14 21 true _ rfl rfl rfl (decide_eq_true (ginv_rinv a)) (Ev_move rfl)⟩, trivial⟩ rfl (Cok_gstep 14 21 true _ rfl rfl rfl (decide_eq_true (ginv_rinv a)) (Step_callP 20 [U8 a] (U8 (subst1 a)) (Cl_func [U8 a] Try.call20 rfl) (fun w1 _ => substitute_c a w1))) ?_
  rintro v1 L1 ⟨rfl, rfl⟩
  refine ⟨[], ?_⟩
  show DP _ _ _ _ _ _ _ _ []
  refine DP_one ⟨[2, 5, 9, 11, 16], [0, 1, 3, 4, 6, 7, 8, 10, 12, 13, 14, 15, 17], [0, 1, 3, 4, 6, 7, 8, 10, 12, 13, 14, 15], [17], [18]⟩ 18 _ rfl rfl (by decide +kernel) rfl ⟨⟨_, rfl, Qok_gval 14 21 true _ rfl rfl rfl (decide_eq_true (ginv_rinv a)) (Ev_move rfl)⟩, trivial⟩ rfl (Cok_gstep 14 21 true _ rfl rfl rfl (decide_eq_true (ginv_rinv a)) (Step_callP 21 [U8 a] (U8 (bent (rinv a))) (Cl_func [U8 a] Try.call21 rfl) (fun w1 _ => rsub_c a w1))) ?_
  rintro v1 L1 ⟨rfl, rfl⟩
  refine ⟨[(19, .bool (decide ((subst1 a) = (bent (rinv a))))), (20, .bool (decide ((subst1 a) = (bent (rinv a))))), (21, .bool (decide ((subst1 a) = (bent (rinv a))))), (22, U8 a), (23, U8 (g8 subsL a.toNat)), (24, U8 a)], ?_⟩
  show DP _ _ _ _ _ _ _ _ []
  refine DP_one ⟨[2, 5, 9, 11, 16, 18], [0, 1, 3, 4, 6, 7, 8, 10, 12, 13, 14, 15, 17, 19, 20, 21, 22, 23, 24], [0, 1, 3, 4, 6, 7, 8, 10, 12, 13, 14, 15, 17], [19, 20, 21, 22, 23, 24], [25]⟩ 25 _ rfl rfl (by decide +kernel) rfl ⟨⟨_, rfl, Qok_gval 14 21 true _ rfl rfl rfl (decide_eq_true (ginv_rinv a)) (Ev_bini rfl rfl fun _ => bin_eql_u8 (subst1 a) (bent (rinv a)))⟩, ⟨_, rfl, Qok_val rfl (Ev_pickT _ rfl (decide_eq_true (ginv_rinv a)) rfl)⟩, ⟨_, rfl, Qok_val rfl (Ev_move rfl)⟩, ⟨_, rfl, Qok_gval 21 28 true _ rfl rfl rfl (decide_eq_true (subst_rinv a)) (Ev_move rfl)⟩, ⟨_, rfl, Qok_gval 21 28 true _ rfl rfl rfl (decide_eq_true (subst_rinv a)) (Ev_indexStrL subsL a.toNat Try.underlying9 rfl rfl (by have := UInt8.toNat_lt a; omega) (by rw [subsL_len]; have := UInt8.toNat_lt a; omega))⟩, ⟨_, rfl, Qok_gval 21 28 true _ rfl rfl rfl (decide_eq_true (subst_rinv a)) (Ev_move rfl)⟩, trivial⟩ rfl (Cok_gstep 21 28 true _ rfl rfl rfl (decide_eq_true (subst_rinv a)) (Step_callP 21 [U8 a] (U8 (bent (rinv a))) (Cl_func [U8 a] Try.call21 rfl) (fun w1 _ => rsub_c a w1))) ?_
  rintro v1 L1 ⟨rfl, rfl⟩
  refine ⟨[(26, .bool (decide ((g8 subsL a.toNat) = (bent (rinv a))))), (27, .bool (decide ((g8 subsL a.toNat) = (bent (rinv a))))), (28, .bool (decide ((g8 subsL a.toNat) = (bent (rinv a)))))], ?_⟩
  show DP _ _ _ _ _ _ _ _ []
  refine DP_end ⟨[2, 5, 9, 11, 16, 18, 25], [0, 1, 3, 4, 6, 7, 8, 10, 12, 13, 14, 15, 17, 19, 20, 21, 22, 23, 24, 26, 27, 28], [0, 1, 3, 4, 6, 7, 8, 10, 12, 13, 14, 15, 17, 19, 20, 21, 24], [22, 23, 26, 27, 28], []⟩ rfl rfl (by decide +kernel) rfl ⟨⟨_, rfl, Qok_gval 21 28 true _ rfl rfl rfl (decide_eq_true (subst_rinv a)) (Ev_move rfl)⟩, ⟨_, rfl, Qok_gval 21 28 true _ rfl rfl rfl (decide_eq_true (subst_rinv a)) (Ev_indexStrL subsL a.toNat Try.underlying9 rfl rfl (by have := UInt8.toNat_lt a; omega) (by rw [subsL_len]; have := UInt8.toNat_lt a; omega))⟩, ⟨_, rfl, Qok_gval 21 28 true _ rfl rfl rfl (decide_eq_true (subst_rinv a)) (Ev_bini rfl rfl fun _ => bin_eql_u8 (g8 subsL a.toNat) (bent (rinv a)))⟩, ⟨_, rfl, Qok_val rfl (Ev_pickT _ rfl (decide_eq_true (subst_rinv a)) rfl)⟩, ⟨_, rfl, Qok_val rfl (Ev_assign rfl)⟩, trivial⟩ ?_
  refine K_sub (F' := [(4, .bool (decide ((g8 subsL a.toNat) = (bent (rinv a)))))]) (Sub.cons (by kernel_rfl) (Sub.nil)) ?_
  show JQ _ _ _ [(4, .bool (decide ((g8 subsL a.toNat) = (bent (rinv a)))))] _
  refine JQ_then ?_
  refine JC_ret ?_
  refine JQ_ret (.bool (decide ((g8 subsL a.toNat) = (bent (rinv a))))) (res1 Try.results3 (RV_tmp rfl)) fun w1 hw1 => ?_
  exact ⟨_, [], rfl, ⟨by rw [show (decide ((g8 subsL a.toNat) = (bent (rinv a)))) = true from (decide_eq_true ((subs_subst a).trans (subst_rinv a)))], rfl⟩, hw1.sub (by simp) (by simp)⟩

theorem aesApart_c (a b c : UInt8) (w : World) : Calls Try.prog 4 #[U8 a, U8 b, U8 c] w (Post w [] (fun v L => v = .bool true ∧ L = [])) := by
  refine enter w [] 69 [] [U8 a, U8 b, U8 c] Try.func4 rfl rfl (by simp) (Hp.start (by simp) (by simp) (by simp)) ?_
  show JC _ _ _ [(0, U8 a), (1, U8 b), (2, U8 c)] _
  refine JC_seq ?_
  refine JC_region ?_
  refine JL_val _ (Ev_assign rfl) rfl ?_
  refine JL_nil ?_
  refine JQ_then ?_
  refine JC_seq ?_
  refine JC_seq ?_
  refine JC_region ?_
  refine JL_step (Step_callP 15 [] (.bool true) (Cl_func [] Try.call15 rfl) (fun w1 _ => alive4_c  w1)) rfl ?_
  rintro v1 L1 ⟨rfl, rfl⟩
  show JL _ _ _ _ ((7, .bool true) :: _) []
  refine JL_val (.bool (!true)) (Ev_not rfl) rfl ?_
  refine JL_nil ?_
  refine JQ_then ?_
  refine JC_condF _ rfl rfl ?_
  refine JC_skip ?_
  refine JQ_then ?_
  refine JC_seq ?_
  refine JC_seq ?_
  refine JC_region ?_
  refine JL_val _ (Ev_move rfl) rfl ?_
  refine JL_step (Step_callP 20 [U8 a] (U8 (subst1 a)) (Cl_func [U8 a] Try.call20 rfl) (fun w1 _ => substitute_c a w1)) rfl ?_
  rintro v1 L1 ⟨rfl, rfl⟩
  show JL _ _ _ _ ((10, U8 (subst1 a)) :: _) []
  refine JL_val _ (Ev_move rfl) rfl ?_
  refine JL_step (Step_callP 20 [U8 b] (U8 (subst1 b)) (Cl_func [U8 b] Try.call20 rfl) (fun w1 _ => substitute_c b w1)) rfl ?_
  rintro v1 L1 ⟨rfl, rfl⟩
  show JL _ _ _ _ ((12, U8 (subst1 b)) :: _) []
  refine JL_val (.bool (decide ((subst1 a) = (subst1 b)))) (Ev_bini rfl rfl fun _ => bin_eql_u8 (subst1 a) (subst1 b)) rfl ?_
  refine JL_val _ (Ev_move rfl) rfl ?_
  refine JL_val _ (Ev_move rfl) rfl ?_
  refine JL_val (.bool (decide (a = b))) (Ev_bini rfl rfl fun _ => bin_eql_u8 a b) rfl ?_
  refine JL_val (.bool (!((decide ((subst1 a) = (subst1 b))) == (decide (a = b))))) (Ev_bin _ _ _ rfl rfl (fun _ => eqGuard_bool ..) fun _ => neq_bool Try.underlying4) rfl ?_
  refine JL_val _ (Ev_move rfl) rfl ?_
  refine JL_gval 9 18 false _ _ rfl rfl (by rw [show ((decide ((subst1 a) = (subst1 b))) == (decide (a = b))) = true from (subst_same a b)]; rfl) (Ev_move rfl) rfl ?_
  refine JL_gstep 9 18 false _ rfl rfl (by rw [show ((decide ((subst1 a) = (subst1 b))) == (decide (a = b))) = true from (subst_same a b)]; rfl) (Step_callP 18 [U8 a] (U8 (ginv a)) (Cl_func [U8 a] Try.call18 rfl) (fun w1 _ => inverse_c a w1)) rfl ?_
  rintro v1 L1 ⟨rfl, rfl⟩
  show JL _ _ _ _ ((20, U8 (ginv a)) :: _) []
  refine JL_gstep 9 18 false _ rfl rfl (by rw [show ((decide ((subst1 a) = (subst1 b))) == (decide (a = b))) = true from (subst_same a b)]; rfl) (Step_callP 18 [U8 (ginv a)] (U8 (ginv (ginv a))) (Cl_func [U8 (ginv a)] Try.call18 rfl) (fun w1 _ => inverse_c (ginv a) w1)) rfl ?_
  rintro v1 L1 ⟨rfl, rfl⟩
  show JL _ _ _ _ ((21, U8 (ginv (ginv a))) :: _) []
  refine JL_gval 9 18 false _ _ rfl rfl (by rw [show ((decide ((subst1 a) = (subst1 b))) == (decide (a = b))) = true from (subst_same a b)]; rfl) (Ev_move rfl) rfl ?_
  refine JL_gval 9 18 false _ (.bool (decide ((ginv (ginv a)) ≠ a))) rfl rfl (by rw [show ((decide ((subst1 a) = (subst1 b))) == (decide (a = b))) = true from (subst_same a b)]; rfl) (Ev_bini rfl rfl fun _ => bin_neq_u8 (ginv (ginv a)) a) rfl ?_
  refine JL_val _ (Ev_pickF _ rfl (by rw [show ((decide ((subst1 a) = (subst1 b))) == (decide (a = b))) = true from (subst_same a b)]; rfl) rfl) rfl ?_
  refine JL_nil ?_
  refine JQ_then ?_
  refine JC_condF _ rfl (decide_eq_false (not_not_of (ginv_ginv a))) ?_
  refine JC_skip ?_
  refine JQ_then ?_
  refine JC_seq ?_
  refine JC_seq ?_
  refine JC_region ?_
  refine JL_val _ (Ev_move rfl) rfl ?_
  refine JL_val (.bool (decide (a ≠ (0:UInt8)))) (Ev_bini rfl rfl fun _ => bin_neq_u8 a (0:UInt8)) rfl ?_
  refine JL_val _ (Ev_move rfl) rfl ?_
  rcases Bool.eq_false_or_eq_true (decide (a ≠ (0:UInt8))) with hb1 | hb1
  ·
    have hp1 : a ≠ (0:UInt8) := of_decide_eq_true hb1
    refine JL_gval 2 27 true _ _ rfl rfl hb1 (Ev_move rfl) rfl ?_
    refine JL_gval 2 27 true _ _ rfl rfl hb1 (Ev_move rfl) rfl ?_
    refine JL_gstep 2 27 true _ rfl rfl hb1 (Step_callP 18 [U8 a] (U8 (ginv a)) (Cl_func [U8 a] Try.call18 rfl) (fun w1 _ => inverse_c a w1)) rfl ?_
    rintro v1 L1 ⟨rfl, rfl⟩
    show JL _ _ _ _ ((30, U8 (ginv a)) :: _) []
    refine JL_gstep 2 27 true _ rfl rfl hb1 (Step_callP 16 [U8 a, U8 (ginv a)] (U8 (gmul a (ginv a))) (Cl_func [U8 a, U8 (ginv a)] Try.call16 rfl) (fun w1 _ => product_c a (ginv a) w1)) rfl ?_
    rintro v1 L1 ⟨rfl, rfl⟩
    show JL _ _ _ _ ((31, U8 (gmul a (ginv a))) :: _) []
    refine JL_gval 2 27 true _ (.bool (decide ((gmul a (ginv a)) ≠ (1:UInt8)))) rfl rfl hb1 (Ev_bini rfl rfl fun _ => bin_neq_u8 (gmul a (ginv a)) (1:UInt8)) rfl ?_
    refine JL_val _ (Ev_pickT _ rfl hb1 rfl) rfl ?_
    refine JL_nil ?_
    refine JQ_then ?_
    refine JC_condF _ rfl (decide_eq_false (not_not_of (ginv_mul a (of_decide_eq_true hb1)))) ?_
    refine JC_skip ?_
    refine JQ_then ?_
    refine JC_seq ?_
    refine JC_region ?_
    refine JL_val _ (Ev_move rfl) rfl ?_
    refine JL_val _ (Ev_move rfl) rfl ?_
    refine JL_step (Step_callP 16 [U8 a, U8 b] (U8 (gmul a b)) (Cl_func [U8 a, U8 b] Try.call16 rfl) (fun w1 _ => product_c a b w1)) rfl ?_
    rintro v1 L1 ⟨rfl, rfl⟩
    show JL _ _ _ _ ((36, U8 (gmul a b)) :: _) []
    refine JL_val _ (Ev_move rfl) rfl ?_
    refine JL_val _ (Ev_move rfl) rfl ?_
    refine JL_step (Step_callP 16 [U8 b, U8 a] (U8 (gmul b a)) (Cl_func [U8 b, U8 a] Try.call16 rfl) (fun w1 _ => product_c b a w1)) rfl ?_
    rintro v1 L1 ⟨rfl, rfl⟩
    show JL _ _ _ _ ((39, U8 (gmul b a)) :: _) []
    refine JL_val (.bool (decide ((gmul a b) = (gmul b a)))) (Ev_bini rfl rfl fun _ => bin_eql_u8 (gmul a b) (gmul b a)) rfl ?_
    refine JL_val _ (Ev_move rfl) rfl ?_
    refine JL_gval 7 41 true _ _ rfl rfl (decide_eq_true (gmul_comm a b)) (Ev_move rfl) rfl ?_
    refine JL_gval 7 41 true _ _ rfl rfl (decide_eq_true (gmul_comm a b)) (Ev_move rfl) rfl ?_
    refine JL_gval 7 41 true _ _ rfl rfl (decide_eq_true (gmul_comm a b)) (Ev_move rfl) rfl ?_
    refine JL_gval 7 41 true _ (U8 (b ^^^ c)) rfl rfl (decide_eq_true (gmul_comm a b)) (Ev_bini rfl rfl fun _ => bin_xor_u8 b c) rfl ?_
    refine JL_gstep 7 41 true _ rfl rfl (decide_eq_true (gmul_comm a b)) (Step_callP 16 [U8 a, U8 (b ^^^ c)] (U8 (gmul a (b ^^^ c))) (Cl_func [U8 a, U8 (b ^^^ c)] Try.call16 rfl) (fun w1 _ => product_c a (b ^^^ c) w1)) rfl ?_
    rintro v1 L1 ⟨rfl, rfl⟩
    show JL _ _ _ _ ((46, U8 (gmul a (b ^^^ c))) :: _) []
    refine JL_gval 7 41 true _ _ rfl rfl (decide_eq_true (gmul_comm a b)) (Ev_move rfl) rfl ?_
    refine JL_gval 7 41 true _ _ rfl rfl (decide_eq_true (gmul_comm a b)) (Ev_move rfl) rfl ?_
    refine JL_gstep 7 41 true _ rfl rfl (decide_eq_true (gmul_comm a b)) (Step_callP 16 [U8 a, U8 b] (U8 (gmul a b)) (Cl_func [U8 a, U8 b] Try.call16 rfl) (fun w1 _ => product_c a b w1)) rfl ?_
    rintro v1 L1 ⟨rfl, rfl⟩
    show JL _ _ _ _ ((49, U8 (gmul a b)) :: _) []
    refine JL_gval 7 41 true _ _ rfl rfl (decide_eq_true (gmul_comm a b)) (Ev_move rfl) rfl ?_
    refine JL_gval 7 41 true _ _ rfl rfl (decide_eq_true (gmul_comm a b)) (Ev_move rfl) rfl ?_
    refine JL_gstep 7 41 true _ rfl rfl (decide_eq_true (gmul_comm a b)) (Step_callP 16 [U8 a, U8 c] (U8 (gmul a c)) (Cl_func [U8 a, U8 c] Try.call16 rfl) (fun w1 _ => product_c a c w1)) rfl ?_
    rintro v1 L1 ⟨rfl, rfl⟩
    show JL _ _ _ _ ((52, U8 (gmul a c)) :: _) []
    refine JL_gval 7 41 true _ (U8 ((gmul a b) ^^^ (gmul a c))) rfl rfl (decide_eq_true (gmul_comm a b)) (Ev_bini rfl rfl fun _ => bin_xor_u8 (gmul a b) (gmul a c)) rfl ?_
    refine JL_gval 7 41 true _ (.bool (decide ((gmul a (b ^^^ c)) = ((gmul a b) ^^^ (gmul a c))))) rfl rfl (decide_eq_true (gmul_comm a b)) (Ev_bini rfl rfl fun _ => bin_eql_u8 (gmul a (b ^^^ c)) ((gmul a b) ^^^ (gmul a c))) rfl ?_
    refine JL_val _ (Ev_pickT _ rfl (decide_eq_true (gmul_comm a b)) rfl) rfl ?_
    refine JL_val _ (Ev_move rfl) rfl ?_
    refine JL_gval 22 56 true _ _ rfl rfl (decide_eq_true (gmul_xor a b c)) (Ev_move rfl) rfl ?_
    refine JL_gval 22 56 true _ _ rfl rfl (decide_eq_true (gmul_xor a b c)) (Ev_move rfl) rfl ?_
    refine JL_gval 22 56 true _ _ rfl rfl (decide_eq_true (gmul_xor a b c)) (Ev_move rfl) rfl ?_
    refine JL_gstep 22 56 true _ rfl rfl (decide_eq_true (gmul_xor a b c)) (Step_callP 16 [U8 b, U8 c] (U8 (gmul b c)) (Cl_func [U8 b, U8 c] Try.call16 rfl) (fun w1 _ => product_c b c w1)) rfl ?_
    rintro v1 L1 ⟨rfl, rfl⟩
    show JL _ _ _ _ ((60, U8 (gmul b c)) :: _) []
    refine JL_gstep 22 56 true _ rfl rfl (decide_eq_true (gmul_xor a b c)) (Step_callP 16 [U8 a, U8 (gmul b c)] (U8 (gmul a (gmul b c))) (Cl_func [U8 a, U8 (gmul b c)] Try.call16 rfl) (fun w1 _ => product_c a (gmul b c) w1)) rfl ?_
    rintro v1 L1 ⟨rfl, rfl⟩
    show JL _ _ _ _ ((61, U8 (gmul a (gmul b c))) :: _) []
    refine JL_gval 22 56 true _ _ rfl rfl (decide_eq_true (gmul_xor a b c)) (Ev_move rfl) rfl ?_
    refine JL_gval 22 56 true _ _ rfl rfl (decide_eq_true (gmul_xor a b c)) (Ev_move rfl) rfl ?_
    refine JL_gstep 22 56 true _ rfl rfl (decide_eq_true (gmul_xor a b c)) (Step_callP 16 [U8 a, U8 b] (U8 (gmul a b)) (Cl_func [U8 a, U8 b] Try.call16 rfl) (fun w1 _ => product_c a b w1)) rfl ?_
    rintro v1 L1 ⟨rfl, rfl⟩
    show JL _ _ _ _ ((64, U8 (gmul a b)) :: _) []
    refine JL_gval 22 56 true _ _ rfl rfl (decide_eq_true (gmul_xor a b c)) (Ev_move rfl) rfl ?_
    refine JL_gstep 22 56 true _ rfl rfl (decide_eq_true (gmul_xor a b c)) (Step_callP 16 [U8 (gmul a b), U8 c] (U8 (gmul (gmul a b) c)) (Cl_func [U8 (gmul a b), U8 c] Try.call16 rfl) (fun w1 _ => product_c (gmul a b) c w1)) rfl ?_
    rintro v1 L1 ⟨rfl, rfl⟩
    show JL _ _ _ _ ((66, U8 (gmul (gmul a b) c)) :: _) []
    refine JL_gval 22 56 true _ (.bool (decide ((gmul a (gmul b c)) = (gmul (gmul a b) c)))) rfl rfl (decide_eq_true (gmul_xor a b c)) (Ev_bini rfl rfl fun _ => bin_eql_u8 (gmul a (gmul b c)) (gmul (gmul a b) c)) rfl ?_
    refine JL_val _ (Ev_pickT _ rfl (decide_eq_true (gmul_xor a b c)) rfl) rfl ?_
    refine JL_val _ (Ev_assign rfl) rfl ?_
    refine JL_nil ?_
    refine JQ_then ?_
    refine JC_ret ?_
    refine JQ_ret (.bool (decide ((gmul a (gmul b c)) = (gmul (gmul a b) c)))) (res1 Try.results4 (RV_tmp rfl)) fun w1 hw1 => ?_
    exact ⟨_, [], rfl, ⟨by rw [show (decide ((gmul a (gmul b c)) = (gmul (gmul a b) c))) = true from (decide_eq_true (gmul_assoc a b c))], rfl⟩, hw1.sub (by simp) (by simp)⟩
  ·
    have hp1 : ¬ (a ≠ (0:UInt8)) := of_decide_eq_false hb1
    refine JL_gskip 2 27 true _ rfl rfl hb1 rfl ?_
    refine JL_gskip 2 27 true _ rfl rfl hb1 rfl ?_
    refine JL_gskip 2 27 true _ rfl rfl hb1 rfl ?_
    refine JL_gskip 2 27 true _ rfl rfl hb1 rfl ?_
    refine JL_gskip 2 27 true _ rfl rfl hb1 rfl ?_
    refine JL_val _ (Ev_pickF _ rfl hb1 rfl) rfl ?_
    refine JL_nil ?_
    refine JQ_then ?_
    refine JC_condF _ rfl rfl ?_
    refine JC_skip ?_
    refine JQ_then ?_
    refine JC_seq ?_
    refine JC_region ?_
    refine JL_val _ (Ev_move rfl) rfl ?_
    refine JL_val _ (Ev_move rfl) rfl ?_
    refine JL_step (Step_callP 16 [U8 a, U8 b] (U8 (gmul a b)) (Cl_func [U8 a, U8 b] Try.call16 rfl) (fun w1 _ => product_c a b w1)) rfl ?_
    rintro v1 L1 ⟨rfl, rfl⟩
    show JL _ _ _ _ ((36, U8 (gmul a b)) :: _) []
    refine JL_val _ (Ev_move rfl) rfl ?_
    refine JL_val _ (Ev_move rfl) rfl ?_
    refine JL_step (Step_callP 16 [U8 b, U8 a] (U8 (gmul b a)) (Cl_func [U8 b, U8 a] Try.call16 rfl) (fun w1 _ => product_c b a w1)) rfl ?_
    rintro v1 L1 ⟨rfl, rfl⟩
    show JL _ _ _ _ ((39, U8 (gmul b a)) :: _) []
    refine JL_val (.bool (decide ((gmul a b) = (gmul b a)))) (Ev_bini rfl rfl fun _ => bin_eql_u8 (gmul a b) (gmul b a)) rfl ?_
    refine JL_val _ (Ev_move rfl) rfl ?_
    refine JL_gval 7 41 true _ _ rfl rfl (decide_eq_true (gmul_comm a b)) (Ev_move rfl) rfl ?_
    refine JL_gval 7 41 true _ _ rfl rfl (decide_eq_true (gmul_comm a b)) (Ev_move rfl) rfl ?_
    refine JL_gval 7 41 true _ _ rfl rfl (decide_eq_true (gmul_comm a b)) (Ev_move rfl) rfl ?_
    refine JL_gval 7 41 true _ (U8 (b ^^^ c)) rfl rfl (decide_eq_true (gmul_comm a b)) (Ev_bini rfl rfl fun _ => bin_xor_u8 b c) rfl ?_
    refine JL_gstep 7 41 true _ rfl rfl (decide_eq_true (gmul_comm a b)) (Step_callP 16 [U8 a, U8 (b ^^^ c)] (U8 (gmul a (b ^^^ c))) (Cl_func [U8 a, U8 (b ^^^ c)] Try.call16 rfl) (fun w1 _ => product_c a (b ^^^ c) w1)) rfl ?_
    rintro v1 L1 ⟨rfl, rfl⟩
    show JL _ _ _ _ ((46, U8 (gmul a (b ^^^ c))) :: _) []
    refine JL_gval 7 41 true _ _ rfl rfl (decide_eq_true (gmul_comm a b)) (Ev_move rfl) rfl ?_
    refine JL_gval 7 41 true _ _ rfl rfl (decide_eq_true (gmul_comm a b)) (Ev_move rfl) rfl ?_
    refine JL_gstep 7 41 true _ rfl rfl (decide_eq_true (gmul_comm a b)) (Step_callP 16 [U8 a, U8 b] (U8 (gmul a b)) (Cl_func [U8 a, U8 b] Try.call16 rfl) (fun w1 _ => product_c a b w1)) rfl ?_
    rintro v1 L1 ⟨rfl, rfl⟩
    show JL _ _ _ _ ((49, U8 (gmul a b)) :: _) []
    refine JL_gval 7 41 true _ _ rfl rfl (decide_eq_true (gmul_comm a b)) (Ev_move rfl) rfl ?_
    refine JL_gval 7 41 true _ _ rfl rfl (decide_eq_true (gmul_comm a b)) (Ev_move rfl) rfl ?_
    refine JL_gstep 7 41 true _ rfl rfl (decide_eq_true (gmul_comm a b)) (Step_callP 16 [U8 a, U8 c] (U8 (gmul a c)) (Cl_func [U8 a, U8 c] Try.call16 rfl) (fun w1 _ => product_c a c w1)) rfl ?_
    rintro v1 L1 ⟨rfl, rfl⟩
    show JL _ _ _ _ ((52, U8 (gmul a c)) :: _) []
    refine JL_gval 7 41 true _ (U8 ((gmul a b) ^^^ (gmul a c))) rfl rfl (decide_eq_true (gmul_comm a b)) (Ev_bini rfl rfl fun _ => bin_xor_u8 (gmul a b) (gmul a c)) rfl ?_
    refine JL_gval 7 41 true _ (.bool (decide ((gmul a (b ^^^ c)) = ((gmul a b) ^^^ (gmul a c))))) rfl rfl (decide_eq_true (gmul_comm a b)) (Ev_bini rfl rfl fun _ => bin_eql_u8 (gmul a (b ^^^ c)) ((gmul a b) ^^^ (gmul a c))) rfl ?_
    refine JL_val _ (Ev_pickT _ rfl (decide_eq_true (gmul_comm a b)) rfl) rfl ?_
    refine JL_val _ (Ev_move rfl) rfl ?_
    refine JL_gval 22 56 true _ _ rfl rfl (decide_eq_true (gmul_xor a b c)) (Ev_move rfl) rfl ?_
    refine JL_gval 22 56 true _ _ rfl rfl (decide_eq_true (gmul_xor a b c)) (Ev_move rfl) rfl ?_
    refine JL_gval 22 56 true _ _ rfl rfl (decide_eq_true (gmul_xor a b c)) (Ev_move rfl) rfl ?_
    refine JL_gstep 22 56 true _ rfl rfl (decide_eq_true (gmul_xor a b c)) (Step_callP 16 [U8 b, U8 c] (U8 (gmul b c)) (Cl_func [U8 b, U8 c] Try.call16 rfl) (fun w1 _ => product_c b c w1)) rfl ?_
    rintro v1 L1 ⟨rfl, rfl⟩
    show JL _ _ _ _ ((60, U8 (gmul b c)) :: _) []
    refine JL_gstep 22 56 true _ rfl rfl (decide_eq_true (gmul_xor a b c)) (Step_callP 16 [U8 a, U8 (gmul b c)] (U8 (gmul a (gmul b c))) (Cl_func [U8 a, U8 (gmul b c)] Try.call16 rfl) (fun w1 _ => product_c a (gmul b c) w1)) rfl ?_
    rintro v1 L1 ⟨rfl, rfl⟩
    show JL _ _ _ _ ((61, U8 (gmul a (gmul b c))) :: _) []
    refine JL_gval 22 56 true _ _ rfl rfl (decide_eq_true (gmul_xor a b c)) (Ev_move rfl) rfl ?_
    refine JL_gval 22 56 true _ _ rfl rfl (decide_eq_true (gmul_xor a b c)) (Ev_move rfl) rfl ?_
    refine JL_gstep 22 56 true _ rfl rfl (decide_eq_true (gmul_xor a b c)) (Step_callP 16 [U8 a, U8 b] (U8 (gmul a b)) (Cl_func [U8 a, U8 b] Try.call16 rfl) (fun w1 _ => product_c a b w1)) rfl ?_
    rintro v1 L1 ⟨rfl, rfl⟩
    show JL _ _ _ _ ((64, U8 (gmul a b)) :: _) []
    refine JL_gval 22 56 true _ _ rfl rfl (decide_eq_true (gmul_xor a b c)) (Ev_move rfl) rfl ?_
    refine JL_gstep 22 56 true _ rfl rfl (decide_eq_true (gmul_xor a b c)) (Step_callP 16 [U8 (gmul a b), U8 c] (U8 (gmul (gmul a b) c)) (Cl_func [U8 (gmul a b), U8 c] Try.call16 rfl) (fun w1 _ => product_c (gmul a b) c w1)) rfl ?_
    rintro v1 L1 ⟨rfl, rfl⟩
    show JL _ _ _ _ ((66, U8 (gmul (gmul a b) c)) :: _) []
    refine JL_gval 22 56 true _ (.bool (decide ((gmul a (gmul b c)) = (gmul (gmul a b) c)))) rfl rfl (decide_eq_true (gmul_xor a b c)) (Ev_bini rfl rfl fun _ => bin_eql_u8 (gmul a (gmul b c)) (gmul (gmul a b) c)) rfl ?_
    refine JL_val _ (Ev_pickT _ rfl (decide_eq_true (gmul_xor a b c)) rfl) rfl ?_
    refine JL_val _ (Ev_assign rfl) rfl ?_
    refine JL_nil ?_
    refine JQ_then ?_
    refine JC_ret ?_
    refine JQ_ret (.bool (decide ((gmul a (gmul b c)) = (gmul (gmul a b) c)))) (res1 Try.results4 (RV_tmp rfl)) fun w1 hw1 => ?_
    exact ⟨_, [], rfl, ⟨by rw [show (decide ((gmul a (gmul b c)) = (gmul (gmul a b) c))) = true from (decide_eq_true (gmul_assoc a b c))], rfl⟩, hw1.sub (by simp) (by simp)⟩

end Go.Proofs.Ytncoifiafklkjaa
