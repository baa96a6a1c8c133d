import Derived.Test.YtncoifiafklkjaaFx
import Derived.Test.YtncoifiafklkjaaAesLaw
namespace Go.Proofs.Ytncoifiafklkjaa
open Go Go.Sx
set_option linter.unusedVariables false
set_option linter.unusedSimpArgs false
theorem double_c (a : UInt8) (w : World) : Calls Try.prog 68 #[U8 a] w (Post w [] (fun v L => v = U8 (dbl a) ∧ L = [])) := by
  refine enter w [] 9 [] [U8 a] Try.func68 rfl rfl (by simp) (Hp.start (by simp) (by simp) (by simp)) ?_
  show JC _ _ _ [(0, U8 a)] _
  refine JC_seq ?_
  refine JC_region ?_
  refine JL_val _ (Ev_assign rfl) rfl ?_
  refine JL_nil ?_
  refine JQ_then ?_
  refine JC_seq ?_
  refine JC_region ?_
  refine JL_val _ (Ev_move rfl) rfl ?_
  refine JL_val (U8 (a <<< (1:UInt8))) (Ev_bini rfl rfl fun _ => bin_shl_u8 a _ _ 1 (by decide) rfl) rfl ?_
  refine JL_val _ (Ev_move rfl) rfl ?_
  refine JL_val (U8 (a >>> (7:UInt8))) (Ev_bini rfl rfl fun _ => bin_shr_u8 a _ _ 7 (by decide) rfl) rfl ?_
  refine JL_val (U8 ((27:UInt8) * (a >>> (7:UInt8)))) (Ev_bini rfl rfl fun _ => bin_mul_u8 (27:UInt8) (a >>> (7:UInt8))) rfl ?_
  refine JL_val (U8 ((a <<< (1:UInt8)) ^^^ ((27:UInt8) * (a >>> (7:UInt8))))) (Ev_bini rfl rfl fun _ => bin_xor_u8 (a <<< (1:UInt8)) ((27:UInt8) * (a >>> (7:UInt8)))) rfl ?_
  refine JL_val _ (Ev_assign rfl) rfl ?_
  refine JL_nil ?_
  refine JQ_then ?_
  refine JC_ret ?_
  refine JQ_ret (U8 ((a <<< (1:UInt8)) ^^^ ((27:UInt8) * (a >>> (7:UInt8))))) (res1 Try.results68 (RV_tmp rfl)) fun w1 hw1 => ?_
  exact ⟨_, [], rfl, ⟨rfl, rfl⟩, hw1.sub (by simp) (by simp)⟩

theorem product_c (a b : UInt8) (w : World) : Calls Try.prog 16 #[U8 a, U8 b] w (Post w [] (fun v L => v = U8 (gmul a b) ∧ L = [])) := by
  refine enter w [] 19 [] [U8 a, U8 b] Try.func16 rfl rfl (by simp) (Hp.start (by simp) (by simp) (by simp)) ?_
  show JC _ _ _ [(0, U8 a), (1, U8 b)] _
  refine JC_seq ?_
  refine JC_region ?_
  refine JL_val _ (Ev_assign rfl) rfl ?_
  refine JL_nil ?_
  refine JQ_then ?_
  refine JC_seq ?_
  refine JC_region ?_
  refine JL_val _ (Ev_assign rfl) rfl ?_
  refine JL_nil ?_
  refine JQ_then ?_
  refine JC_seq ?_
  refine JC_block ?_
  refine JC_loop (ι := Nat × UInt8 × UInt8 × UInt8) (fun ⟨n, a1, b1, o⟩ => [(4, U8 (0:UInt8)), (0, U8 a1), (1, U8 b1), (5, U8 o)]) (fun ⟨n, a1, b1, o⟩ => []) (fun ⟨n, a1, b1, o⟩ => b1.toNat < 2 ^ n ∧ mulN n a1 b1 o = mulN 8 a b 0) (fun ⟨n, a1, b1, o⟩ => b1.toNat) (8, a, b, 0) ⟨b.toNat_lt, rfl⟩ (Sub.cons rfl (Sub.cons rfl (Sub.cons rfl (Sub.cons rfl (Sub.nil))))) rfl ?_
  rintro ⟨n, a1, b1, o⟩ ⟨hx1, hx2⟩
  show JC _ _ _ [(4, U8 (0:UInt8)), (0, U8 a1), (1, U8 b1), (5, U8 o)] []
  refine JC_seq ?_
  refine JC_seq ?_
  refine JC_region ?_
  refine JL_val _ (Ev_move rfl) rfl ?_
  refine JL_val (.bool (decide ((0:UInt8) < b1))) (Ev_bini rfl rfl fun _ => bin_gtr_u8 b1 (0:UInt8)) rfl ?_
  refine JL_nil ?_
  refine JQ_then ?_
  refine JC_cond (decide ((0:UInt8) < b1)) rfl (fun hb1 => ?_) (fun hb1 => ?_)
  ·
    have hp1 : (0:UInt8) < b1 := of_decide_eq_true hb1
    refine JC_skip ?_
    refine JQ_then ?_
    refine JC_block ?_
    refine JC_seq ?_
    refine JC_region ?_
    refine JL_val _ (Ev_move rfl) rfl ?_
    refine JL_val _ (Ev_move rfl) rfl ?_
    refine JL_val _ (Ev_move rfl) rfl ?_
    refine JL_val (U8 (b1 &&& (1:UInt8))) (Ev_bini rfl rfl fun _ => bin_and_u8 b1 (1:UInt8)) rfl ?_
    refine JL_val (U8 (a1 * (b1 &&& (1:UInt8)))) (Ev_bini rfl rfl fun _ => bin_mul_u8 a1 (b1 &&& (1:UInt8))) rfl ?_
    refine JL_val (U8 (o ^^^ (a1 * (b1 &&& (1:UInt8))))) (Ev_bini rfl rfl fun _ => bin_xor_u8 o (a1 * (b1 &&& (1:UInt8)))) rfl ?_
    refine JL_val _ (Ev_assign rfl) rfl ?_
    refine JL_nil ?_
    refine JQ_then ?_
    refine JC_region ?_
    refine JL_val _ (Ev_move rfl) rfl ?_
    refine JL_step (Step_callP 68 [U8 a1] (U8 (dbl a1)) (Cl_func [U8 a1] Try.call68 rfl) (fun w1 _ => double_c a1 w1)) rfl ?_
    rintro v1 L1 ⟨rfl, rfl⟩
    show JL _ _ _ _ ((15, U8 (dbl a1)) :: _) []
    refine JL_val _ (Ev_move rfl) rfl ?_
    refine JL_val (U8 (b1 >>> (1:UInt8))) (Ev_bini rfl rfl fun _ => bin_shr_u8 b1 _ _ 1 (by decide) rfl) rfl ?_
    refine JL_val _ (Ev_assign rfl) rfl ?_
    refine JL_val _ (Ev_assign rfl) rfl ?_
    refine JL_nil ?_
    refine JQ_in_normal ?_
    refine JQ_thenK ?_
    refine K_next (n - 1, dbl a1, b1 >>> (1:UInt8), o ^^^ (a1 * (b1 &&& (1:UInt8)))) (mulN_step hp1 hx1 hx2) (shr_lt hp1) (Sub.cons rfl (Sub.cons rfl (Sub.cons rfl (Sub.cons rfl (Sub.nil))))) rfl
  ·
    have hp1 : ¬ ((0:UInt8) < b1) := of_decide_eq_false hb1
    refine JC_exit ?_
    refine JQ_then_exit ?_
    refine JQ_then_exit ?_
    refine JQ_in_same ?_
    refine JQ_then ?_
    refine JC_seq ?_
    refine JC_region ?_
    refine JL_val _ (Ev_move rfl) rfl ?_
    refine JL_val _ (Ev_assign rfl) rfl ?_
    refine JL_nil ?_
    refine JQ_then ?_
    refine JC_ret ?_
    refine JQ_ret (U8 o) (res1 Try.results16 (RV_tmp rfl)) fun w1 hw1 => ?_
    exact ⟨_, [], rfl, ⟨by rw [show o = gmul a b from mulN_end hp1 hx2], rfl⟩, hw1.sub (by simp) (by simp)⟩

theorem inverse_c (a : UInt8) (w : World) : Calls Try.prog 18 #[U8 a] w (Post w [] (fun v L => v = U8 (ginv a) ∧ L = [])) := by
  refine enter w [] 16 [] [U8 a] Try.func18 rfl rfl (by simp) (Hp.start (by simp) (by simp) (by simp)) ?_
  show JC _ _ _ [(0, U8 a)] _
  refine JC_seq ?_
  refine JC_region ?_
  refine JL_val _ (Ev_assign rfl) rfl ?_
  refine JL_nil ?_
  refine JQ_then ?_
  refine JC_seq ?_
  refine JC_region ?_
  refine JL_val _ (Ev_move rfl) rfl ?_
  refine JL_val _ (Ev_assign rfl) rfl ?_
  refine JL_val _ (Ev_assign rfl) rfl ?_
  refine JL_nil ?_
  refine JQ_then ?_
  refine JC_seq ?_
  refine JC_seq ?_
  refine JC_region ?_
  refine JL_val _ (Ev_move rfl) rfl ?_
  refine JL_nil ?_
  refine JQ_then ?_
  refine JC_block ?_
  refine JC_loop (ι := Nat × UInt8 × UInt8) (fun ⟨k, o, q⟩ => [(2, U8 (0:UInt8)), (3, U8 o), (4, U8 q), (6, I64 ((k:Int)))]) (fun ⟨k, o, q⟩ => []) (fun ⟨k, o, q⟩ => k ≤ 7 ∧ (o, q) = invN a k) (fun ⟨k, o, q⟩ => 7 - k) (0, 1, a) ⟨by omega, rfl⟩ (Sub.cons rfl (Sub.cons rfl (Sub.cons rfl (Sub.cons rfl (Sub.nil))))) rfl ?_
  rintro ⟨k, o, q⟩ ⟨hx1, hx2⟩
  show JC _ _ _ [(2, U8 (0:UInt8)), (3, U8 o), (4, U8 q), (6, I64 ((k:Int)))] []
  refine JC_seq ?_
  refine JC_region ?_
  refine JL_val (.bool (decide (((k:Int)) < (7:Int)))) (Ev_bini rfl rfl fun _ => bin_lss_i _ _) rfl ?_
  refine JL_nil ?_
  refine JQ_then ?_
  refine JC_seq ?_
  refine JC_cond (decide (((k:Int)) < (7:Int))) rfl (fun hb1 => ?_) (fun hb1 => ?_)
  ·
    have hp1 : ((k:Int)) < (7:Int) := of_decide_eq_true hb1
    refine JC_skip ?_
    refine JQ_then ?_
    refine JC_seq ?_
    refine JC_block ?_
    refine JC_seq ?_
    refine JC_region ?_
    refine JL_val _ (Ev_move rfl) rfl ?_
    refine JL_val _ (Ev_move rfl) rfl ?_
    refine JL_step (Step_callP 16 [U8 q, U8 q] (U8 (gmul q q)) (Cl_func [U8 q, U8 q] Try.call16 rfl) (fun w1 _ => product_c q q w1)) rfl ?_
    rintro v1 L1 ⟨rfl, rfl⟩
    show JL _ _ _ _ ((10, U8 (gmul q q)) :: _) []
    refine JL_val _ (Ev_assign rfl) rfl ?_
    refine JL_nil ?_
    refine JQ_then ?_
    refine JC_region ?_
    refine JL_val _ (Ev_move rfl) rfl ?_
    refine JL_val _ (Ev_move rfl) rfl ?_
    refine JL_step (Step_callP 16 [U8 o, U8 (gmul q q)] (U8 (gmul o (gmul q q))) (Cl_func [U8 o, U8 (gmul q q)] Try.call16 rfl) (fun w1 _ => product_c o (gmul q q) w1)) rfl ?_
    rintro v1 L1 ⟨rfl, rfl⟩
    show JL _ _ _ _ ((13, U8 (gmul o (gmul q q))) :: _) []
    refine JL_val _ (Ev_assign rfl) rfl ?_
    refine JL_nil ?_
    refine JQ_in_normal ?_
    refine JQ_then ?_
    refine JC_region ?_
    refine JL_val (I64 ((k:Int) + 1)) (Ev_bini rfl rfl fun _ => bin_add_i _ _ ((k:Int) + 1) (by omega) (by omega)) rfl ?_
    refine JL_val _ (Ev_move rfl) rfl ?_
    refine JL_nil ?_
    refine JQ_thenK ?_
    refine K_next (k + 1, gmul o (gmul q q), gmul q q) ⟨by omega, by rw [invN, ← hx2]⟩ (by simp; omega) (Sub.cons rfl (Sub.cons rfl (Sub.cons rfl (Sub.cons rfl (Sub.nil))))) rfl
  ·
    have hp1 : ¬ (((k:Int)) < (7:Int)) := of_decide_eq_false hb1
    refine JC_exit ?_
    refine JQ_then_exit ?_
    refine JQ_then_exit ?_
    refine JQ_in_same ?_
    refine JQ_then ?_
    refine JC_seq ?_
    refine JC_region ?_
    refine JL_val _ (Ev_move rfl) rfl ?_
    refine JL_val _ (Ev_assign rfl) rfl ?_
    refine JL_nil ?_
    refine JQ_then ?_
    refine JC_ret ?_
    refine JQ_ret (U8 o) (res1 Try.results18 (RV_tmp rfl)) fun w1 hw1 => ?_
    exact ⟨_, [], rfl, ⟨by rw [show o = ginv a from by rw [ginv, ← (show k = 7 from by omega), ← hx2]], rfl⟩, hw1.sub (by simp) (by simp)⟩

theorem rl8_c (x : UInt8) (k : Nat) (w : World) (hk : 1 ≤ k ∧ k ≤ 7) : Calls Try.prog 85 #[U8 x, I64 ((k:Int))] w (Post w [] (fun v L => v = U8 (rl8 x k) ∧ L = [])) := by
  obtain ⟨hk1, hk2⟩ := rl8_facts hk
  refine enter w [] 17 [] [U8 x, I64 ((k:Int))] Try.func85 rfl rfl (by simp) (Hp.start (by simp) (by simp) (by simp)) ?_
  show JC _ _ _ [(0, U8 x), (1, I64 ((k:Int)))] _
  refine JC_seq ?_
  refine JC_region ?_
  refine JL_val _ (Ev_assign rfl) rfl ?_
  refine JL_nil ?_
  refine JQ_then ?_
  refine JC_seq ?_
  refine JC_region ?_
  refine JL_val _ (Ev_move rfl) rfl ?_
  refine JL_val (U64 (UInt64.ofNat k)) (Ev_conv _ _ rfl fun _ => conv_i64_u64 (by rw [Try.underlying3]; rfl) Try.underlying49 k _ (by omega)) rfl ?_
  refine JL_val (U64 ((UInt64.ofNat k) &&& (7:UInt64))) (Ev_bini rfl rfl fun _ => bin_and_u64 (UInt64.ofNat k) (7:UInt64)) rfl ?_
  refine JL_val _ (Ev_assign rfl) rfl ?_
  refine JL_nil ?_
  refine JQ_then ?_
  refine JC_seq ?_
  refine JC_region ?_
  refine JL_val _ (Ev_move rfl) rfl ?_
  refine JL_val _ (Ev_move rfl) rfl ?_
  refine JL_val (U8 (x <<< UInt8.ofNat (((UInt64.ofNat k) &&& (7:UInt64)).toNat))) (Ev_bini rfl rfl fun _ => bin_shl_u8 x _ _ (((UInt64.ofNat k) &&& (7:UInt64)).toNat) (by omega) (by omega)) rfl ?_
  refine JL_val _ (Ev_move rfl) rfl ?_
  refine JL_val _ (Ev_move rfl) rfl ?_
  refine JL_val (U64 ((8:UInt64) - ((UInt64.ofNat k) &&& (7:UInt64)))) (Ev_bini rfl rfl fun _ => bin_sub_u64 (8:UInt64) ((UInt64.ofNat k) &&& (7:UInt64))) rfl ?_
  refine JL_val (U8 (x >>> UInt8.ofNat (((8:UInt64) - ((UInt64.ofNat k) &&& (7:UInt64))).toNat))) (Ev_bini rfl rfl fun _ => bin_shr_u8 x _ _ (((8:UInt64) - ((UInt64.ofNat k) &&& (7:UInt64))).toNat) (by omega) (by omega)) rfl ?_
  refine JL_val (U8 ((x <<< UInt8.ofNat (((UInt64.ofNat k) &&& (7:UInt64)).toNat)) ||| (x >>> UInt8.ofNat (((8:UInt64) - ((UInt64.ofNat k) &&& (7:UInt64))).toNat)))) (Ev_bini rfl rfl fun _ => bin_or_u8 (x <<< UInt8.ofNat (((UInt64.ofNat k) &&& (7:UInt64)).toNat)) (x >>> UInt8.ofNat (((8:UInt64) - ((UInt64.ofNat k) &&& (7:UInt64))).toNat))) rfl ?_
  refine JL_val _ (Ev_assign rfl) rfl ?_
  refine JL_nil ?_
  refine JQ_then ?_
  refine JC_ret ?_
  refine JQ_ret (U8 ((x <<< UInt8.ofNat (((UInt64.ofNat k) &&& (7:UInt64)).toNat)) ||| (x >>> UInt8.ofNat (((8:UInt64) - ((UInt64.ofNat k) &&& (7:UInt64))).toNat)))) (res1 Try.results85 (RV_tmp rfl)) fun w1 hw1 => ?_
  exact ⟨_, [], rfl, ⟨by rw [hk1, hk2]; rfl, rfl⟩, hw1.sub (by simp) (by simp)⟩

theorem bent_c (x : UInt8) (w : World) : Calls Try.prog 70 #[U8 x] w (Post w [] (fun v L => v = U8 (bent x) ∧ L = [])) := by
  refine enter w [] 18 [] [U8 x] Try.func70 rfl rfl (by simp) (Hp.start (by simp) (by simp) (by simp)) ?_
  show JC _ _ _ [(0, U8 x)] _
  refine JC_seq ?_
  refine JC_region ?_
  refine JL_val _ (Ev_assign rfl) rfl ?_
  refine JL_nil ?_
  refine JQ_then ?_
  refine JC_seq ?_
  refine JC_region ?_
  refine JL_val _ (Ev_move rfl) rfl ?_
  refine JL_val (U8 (x ^^^ (99:UInt8))) (Ev_bini rfl rfl fun _ => bin_xor_u8 x (99:UInt8)) rfl ?_
  refine JL_val _ (Ev_assign rfl) rfl ?_
  refine JL_nil ?_
  refine JQ_then ?_
  refine JC_seq ?_
  refine JC_seq ?_
  refine JC_region ?_
  refine JL_val _ (Ev_move rfl) rfl ?_
  refine JL_nil ?_
  refine JQ_then ?_
  refine JC_block ?_
  refine JC_loop (ι := Nat × UInt8) (fun ⟨k, o⟩ => [(0, U8 x), (2, U8 (0:UInt8)), (3, U8 o), (7, I64 ((k:Int)))]) (fun ⟨k, o⟩ => []) (fun ⟨k, o⟩ => k ≤ 4 ∧ o = bentN x k) (fun ⟨k, o⟩ => 4 - k) (0, x ^^^ (99:UInt8)) ⟨by omega, rfl⟩ (Sub.cons rfl (Sub.cons rfl (Sub.cons rfl (Sub.cons rfl (Sub.nil))))) rfl ?_
  rintro ⟨k, o⟩ ⟨hx1, hx2⟩
  show JC _ _ _ [(0, U8 x), (2, U8 (0:UInt8)), (3, U8 o), (7, I64 ((k:Int)))] []
  refine JC_seq ?_
  refine JC_region ?_
  refine JL_val (.bool (decide (((k:Int)) < (4:Int)))) (Ev_bini rfl rfl fun _ => bin_lss_i _ _) rfl ?_
  refine JL_nil ?_
  refine JQ_then ?_
  refine JC_seq ?_
  refine JC_cond (decide (((k:Int)) < (4:Int))) rfl (fun hb1 => ?_) (fun hb1 => ?_)
  ·
    have hp1 : ((k:Int)) < (4:Int) := of_decide_eq_true hb1
    refine JC_skip ?_
    refine JQ_then ?_
    refine JC_seq ?_
    refine JC_block ?_
    refine JC_seq ?_
    refine JC_region ?_
    refine JL_val _ (Ev_move rfl) rfl ?_
    refine JL_val _ (Ev_assign rfl) rfl ?_
    refine JL_nil ?_
    refine JQ_then ?_
    refine JC_region ?_
    refine JL_val _ (Ev_move rfl) rfl ?_
    refine JL_val _ (Ev_move rfl) rfl ?_
    refine JL_val _ (Ev_move rfl) rfl ?_
    refine JL_val (I64 ((k:Int) + 1)) (Ev_bini rfl rfl fun _ => bin_add_i _ _ ((k:Int) + 1) (by omega) (by omega)) rfl ?_
    refine JL_step (Step_callP 85 [U8 x, I64 ((k:Int) + 1)] (U8 (rl8 x (k + 1))) (Cl_func [U8 x, I64 ((k:Int) + 1)] Try.call85 rfl) (fun w1 _ => rl8_c x (k + 1) w1 (by omega))) rfl ?_
    rintro v1 L1 ⟨rfl, rfl⟩
    show JL _ _ _ _ ((14, U8 (rl8 x (k + 1))) :: _) []
    refine JL_val (U8 (o ^^^ (rl8 x (k + 1)))) (Ev_bini rfl rfl fun _ => bin_xor_u8 o (rl8 x (k + 1))) rfl ?_
    refine JL_val _ (Ev_assign rfl) rfl ?_
    refine JL_nil ?_
    refine JQ_in_normal ?_
    refine JQ_then ?_
    refine JC_region ?_
    refine JL_val (I64 ((k:Int) + 1)) (Ev_bini rfl rfl fun _ => bin_add_i _ _ ((k:Int) + 1) (by omega) (by omega)) rfl ?_
    refine JL_val _ (Ev_move rfl) rfl ?_
    refine JL_nil ?_
    refine JQ_thenK ?_
    refine K_next (k + 1, o ^^^ (rl8 x (k + 1))) ⟨by omega, by rw [bentN, ← hx2]⟩ (by simp; omega) (Sub.cons rfl (Sub.cons rfl (Sub.cons rfl (Sub.cons rfl (Sub.nil))))) rfl
  ·
    have hp1 : ¬ (((k:Int)) < (4:Int)) := of_decide_eq_false hb1
    refine JC_exit ?_
    refine JQ_then_exit ?_
    refine JQ_then_exit ?_
    refine JQ_in_same ?_
    refine JQ_then ?_
    refine JC_seq ?_
    refine JC_region ?_
    refine JL_val _ (Ev_move rfl) rfl ?_
    refine JL_val _ (Ev_assign rfl) rfl ?_
    refine JL_nil ?_
    refine JQ_then ?_
    refine JC_ret ?_
    refine JQ_ret (U8 o) (res1 Try.results70 (RV_tmp rfl)) fun w1 hw1 => ?_
    exact ⟨_, [], rfl, ⟨by rw [show o = bent x from by rw [bent, ← (show k = 4 from by omega), ← hx2]], rfl⟩, hw1.sub (by simp) (by simp)⟩

theorem substitute_c (a : UInt8) (w : World) : Calls Try.prog 20 #[U8 a] w (Post w [] (fun v L => v = U8 (subst1 a) ∧ L = [])) := by
  refine enter w [] 6 [] [U8 a] Try.func20 rfl rfl (by simp) (Hp.start (by simp) (by simp) (by simp)) ?_
  show JC _ _ _ [(0, U8 a)] _
  refine JC_seq ?_
  refine JC_region ?_
  refine JL_val _ (Ev_assign rfl) rfl ?_
  refine JL_nil ?_
  refine JQ_then ?_
  refine JC_seq ?_
  refine JC_region ?_
  refine JL_val _ (Ev_move rfl) rfl ?_
  refine JL_step (Step_callP 18 [U8 a] (U8 (ginv a)) (Cl_func [U8 a] Try.call18 rfl) (fun w1 _ => inverse_c a w1)) rfl ?_
  rintro v1 L1 ⟨rfl, rfl⟩
  show JL _ _ _ _ ((4, U8 (ginv a)) :: _) []
  refine JL_step (Step_callP 70 [U8 (ginv a)] (U8 (bent (ginv a))) (Cl_func [U8 (ginv a)] Try.call70 rfl) (fun w1 _ => bent_c (ginv a) w1)) rfl ?_
  rintro v1 L1 ⟨rfl, rfl⟩
  show JL _ _ _ _ ((5, U8 (bent (ginv a))) :: _) []
  refine JL_val _ (Ev_assign rfl) rfl ?_
  refine JL_nil ?_
  refine JQ_then ?_
  refine JC_ret ?_
  refine JQ_ret (U8 (bent (ginv a))) (res1 Try.results20 (RV_tmp rfl)) fun w1 hw1 => ?_
  exact ⟨_, [], rfl, ⟨rfl, rfl⟩, hw1.sub (by simp) (by simp)⟩

theorem rdouble_c (a : UInt8) (w : World) : Calls Try.prog 69 #[U8 a] w (Post w [] (fun v L => v = U8 (rdbl a) ∧ L = [])) := by
  refine enter w [] 11 [] [U8 a] Try.func69 rfl rfl (by simp) (Hp.start (by simp) (by simp) (by simp)) ?_
  show JC _ _ _ [(0, U8 a)] _
  refine JC_seq ?_
  refine JC_region ?_
  refine JL_val _ (Ev_assign rfl) rfl ?_
  refine JL_nil ?_
  refine JQ_then ?_
  refine JC_seq ?_
  refine JC_seq ?_
  refine JC_region ?_
  refine JL_val _ (Ev_move rfl) rfl ?_
  refine JL_val (.bool (decide ((128:UInt8) ≤ a))) (Ev_bini rfl rfl fun _ => bin_geq_u8 a (128:UInt8)) rfl ?_
  refine JL_nil ?_
  refine JQ_then ?_
  refine JC_cond (decide ((128:UInt8) ≤ a)) rfl (fun hb1 => ?_) (fun hb1 => ?_)
  ·
    have hp1 : (128:UInt8) ≤ a := of_decide_eq_true hb1
    refine JC_seq ?_
    refine JC_region ?_
    refine JL_val _ (Ev_move rfl) rfl ?_
    refine JL_val (U8 (a - (128:UInt8))) (Ev_bini rfl rfl fun _ => bin_sub_u8 a (128:UInt8)) rfl ?_
    refine JL_val (U8 ((a - (128:UInt8)) * (2:UInt8))) (Ev_bini rfl rfl fun _ => bin_mul_u8 (a - (128:UInt8)) (2:UInt8)) rfl ?_
    refine JL_val (U8 (((a - (128:UInt8)) * (2:UInt8)) ^^^ (27:UInt8))) (Ev_bini rfl rfl fun _ => bin_xor_u8 ((a - (128:UInt8)) * (2:UInt8)) (27:UInt8)) rfl ?_
    refine JL_val _ (Ev_assign rfl) rfl ?_
    refine JL_nil ?_
    refine JQ_then ?_
    refine JC_ret ?_
    refine JQ_then_ret ?_
    refine JQ_ret (U8 (((a - (128:UInt8)) * (2:UInt8)) ^^^ (27:UInt8))) (res1 Try.results69 (RV_tmp rfl)) fun w1 hw1 => ?_
    exact ⟨_, [], rfl, ⟨by simp [rdbl, hp1], rfl⟩, hw1.sub (by simp) (by simp)⟩
  ·
    have hp1 : ¬ ((128:UInt8) ≤ a) := of_decide_eq_false hb1
    refine JC_skip ?_
    refine JQ_then ?_
    refine JC_seq ?_
    refine JC_region ?_
    refine JL_val _ (Ev_move rfl) rfl ?_
    refine JL_val (U8 (a * (2:UInt8))) (Ev_bini rfl rfl fun _ => bin_mul_u8 a (2:UInt8)) rfl ?_
    refine JL_val _ (Ev_assign rfl) rfl ?_
    refine JL_nil ?_
    refine JQ_then ?_
    refine JC_ret ?_
    refine JQ_ret (U8 (a * (2:UInt8))) (res1 Try.results69 (RV_tmp rfl)) fun w1 hw1 => ?_
    exact ⟨_, [], rfl, ⟨by simp [rdbl, hp1], rfl⟩, hw1.sub (by simp) (by simp)⟩

theorem rproduct_c (a b : UInt8) (w : World) : Calls Try.prog 17 #[U8 a, U8 b] w (Post w [] (fun v L => v = U8 (rmul a b) ∧ L = [])) := by
  refine enter w [] 31 [] [U8 a, U8 b] Try.func17 rfl rfl (by simp) (Hp.start (by simp) (by simp) (by simp)) ?_
  show JC _ _ _ [(0, U8 a), (1, U8 b)] _
  refine JC_seq ?_
  refine JC_region ?_
  refine JL_val _ (Ev_assign rfl) rfl ?_
  refine JL_nil ?_
  refine JQ_then ?_
  refine JC_seq ?_
  refine JC_region ?_
  refine JL_val _ (Ev_assign rfl) rfl ?_
  refine JL_nil ?_
  refine JQ_then ?_
  refine JC_seq ?_
  refine JC_seq ?_
  refine JC_region ?_
  refine JL_val _ (Ev_assign rfl) rfl ?_
  refine JL_nil ?_
  refine JQ_then ?_
  refine JC_block ?_
  refine JC_loop (ι := Nat × UInt8) (fun ⟨k, o⟩ => [(0, U8 a), (1, U8 b), (4, U8 (0:UInt8)), (5, U8 o), (6, I64 ((k:Int)))]) (fun ⟨k, o⟩ => []) (fun ⟨k, o⟩ => k ≤ 8 ∧ o = rmulN a b k) (fun ⟨k, o⟩ => 8 - k) (0, 0) ⟨by omega, rfl⟩ (Sub.cons rfl (Sub.cons rfl (Sub.cons rfl (Sub.cons rfl (Sub.cons rfl (Sub.nil)))))) rfl ?_
  rintro ⟨k, o⟩ ⟨hx1, hx2⟩
  show JC _ _ _ [(0, U8 a), (1, U8 b), (4, U8 (0:UInt8)), (5, U8 o), (6, I64 ((k:Int)))] []
  have hk64 : (UInt64.ofNat k).toNat = k := by simp; omega
  refine JC_seq ?_
  refine JC_seq ?_
  refine JC_region ?_
  refine JL_val _ (Ev_move rfl) rfl ?_
  refine JL_val (.bool (decide (((k:Int)) < (8:Int)))) (Ev_bini rfl rfl fun _ => bin_lss_i _ _) rfl ?_
  refine JL_nil ?_
  refine JQ_then ?_
  refine JC_cond (decide (((k:Int)) < (8:Int))) rfl (fun hb1 => ?_) (fun hb1 => ?_)
  ·
    have hp1 : ((k:Int)) < (8:Int) := of_decide_eq_true hb1
    refine JC_skip ?_
    refine JQ_then ?_
    refine JC_seq ?_
    refine JC_block ?_
    refine JC_seq ?_
    refine JC_region ?_
    refine JL_val _ (Ev_move rfl) rfl ?_
    refine JL_val _ (Ev_assign rfl) rfl ?_
    refine JL_nil ?_
    refine JQ_then ?_
    refine JC_seq ?_
    refine JC_seq ?_
    refine JC_region ?_
    refine JL_val _ (Ev_assign rfl) rfl ?_
    refine JL_nil ?_
    refine JQ_then ?_
    refine JC_block ?_
    refine JC_loop (ι := Nat × UInt8) (fun ⟨i, x⟩ => [(0, U8 a), (1, U8 b), (4, U8 (0:UInt8)), (5, U8 o), (6, I64 ((k:Int))), (9, I64 ((k:Int))), (10, .bool (decide (((k:Int)) < (8:Int)))), (13, U8 b), (7, U8 x), (8, I64 ((i:Int)))]) (fun ⟨i, x⟩ => []) (fun ⟨i, x⟩ => i ≤ k ∧ x = dblN b i) (fun ⟨i, x⟩ => k - i) (0, b) ⟨by omega, rfl⟩ (Sub.cons rfl (Sub.cons rfl (Sub.cons rfl (Sub.cons rfl (Sub.cons rfl (Sub.cons rfl (Sub.cons rfl (Sub.cons rfl (Sub.cons rfl (Sub.cons rfl (Sub.nil))))))))))) rfl ?_
    rintro ⟨i, x⟩ ⟨hy1, hy2⟩
    show JC _ _ _ [(0, U8 a), (1, U8 b), (4, U8 (0:UInt8)), (5, U8 o), (6, I64 ((k:Int))), (9, I64 ((k:Int))), (10, .bool (decide (((k:Int)) < (8:Int)))), (13, U8 b), (7, U8 x), (8, I64 ((i:Int)))] []
    refine JC_seq ?_
    refine JC_seq ?_
    refine JC_region ?_
    refine JL_val _ (Ev_move rfl) rfl ?_
    refine JL_val _ (Ev_move rfl) rfl ?_
    refine JL_val (.bool (decide (((i:Int)) < ((k:Int))))) (Ev_bini rfl rfl fun _ => bin_lss_i _ _) rfl ?_
    refine JL_nil ?_
    refine JQ_then ?_
    refine JC_cond (decide (((i:Int)) < ((k:Int)))) rfl (fun hb2 => ?_) (fun hb2 => ?_)
    ·
      have hp2 : ((i:Int)) < ((k:Int)) := of_decide_eq_true hb2
      refine JC_skip ?_
      refine JQ_then ?_
      refine JC_seq ?_
      refine JC_block ?_
      refine JC_region ?_
      refine JL_val _ (Ev_move rfl) rfl ?_
      refine JL_step (Step_callP 69 [U8 x] (U8 (rdbl x)) (Cl_func [U8 x] Try.call69 rfl) (fun w1 _ => rdouble_c x w1)) rfl ?_
      rintro v1 L1 ⟨rfl, rfl⟩
      show JL _ _ _ _ ((20, U8 (rdbl x)) :: _) []
      refine JL_val _ (Ev_assign rfl) rfl ?_
      refine JL_nil ?_
      refine JQ_in_normal ?_
      refine JQ_then ?_
      refine JC_region ?_
      refine JL_val _ (Ev_move rfl) rfl ?_
      refine JL_val (I64 ((i:Int) + 1)) (Ev_bini rfl rfl fun _ => bin_add_i _ _ ((i:Int) + 1) (by omega) (by omega)) rfl ?_
      refine JL_val _ (Ev_assign rfl) rfl ?_
      refine JL_nil ?_
      refine JQ_thenK ?_
      refine K_next (i + 1, rdbl x) ⟨by omega, by rw [dblN, ← hy2]⟩ (by simp; omega) (Sub.cons rfl (Sub.cons rfl (Sub.cons rfl (Sub.cons rfl (Sub.cons rfl (Sub.cons rfl (Sub.cons rfl (Sub.cons rfl (Sub.cons rfl (Sub.cons rfl (Sub.nil))))))))))) rfl
    ·
      have hp2 : ¬ (((i:Int)) < ((k:Int))) := of_decide_eq_false hb2
      refine JC_exit ?_
      refine JQ_then_exit ?_
      refine JQ_then_exit ?_
      refine JQ_in_same ?_
      refine JQ_then ?_
      refine JC_seq ?_
      refine JC_region ?_
      refine JL_val _ (Ev_move rfl) rfl ?_
      refine JL_val _ (Ev_move rfl) rfl ?_
      refine JL_val (U64 (UInt64.ofNat k)) (Ev_conv _ _ rfl fun _ => conv_i64_u64 (by rw [Try.underlying3]; rfl) Try.underlying49 k _ (by omega)) rfl ?_
      refine JL_val (U8 (a >>> UInt8.ofNat ((UInt64.ofNat k).toNat))) (Ev_bini rfl rfl fun _ => bin_shr_u8 a _ _ ((UInt64.ofNat k).toNat) (by omega) (by omega)) rfl ?_
      refine JL_val (U8 ((a >>> UInt8.ofNat ((UInt64.ofNat k).toNat)) % (2:UInt8))) (Ev_bini rfl rfl fun _ => bin_rem_u8 (a >>> UInt8.ofNat ((UInt64.ofNat k).toNat)) (2:UInt8) (by decide)) rfl ?_
      refine JL_val (.bool (decide (((a >>> UInt8.ofNat ((UInt64.ofNat k).toNat)) % (2:UInt8)) = (1:UInt8)))) (Ev_bini rfl rfl fun _ => bin_eql_u8 ((a >>> UInt8.ofNat ((UInt64.ofNat k).toNat)) % (2:UInt8)) (1:UInt8)) rfl ?_
      refine JL_nil ?_
      refine JQ_then ?_
      refine JC_cond (decide (((a >>> UInt8.ofNat ((UInt64.ofNat k).toNat)) % (2:UInt8)) = (1:UInt8))) rfl (fun hb3 => ?_) (fun hb3 => ?_)
      ·
        have hp3 : ((a >>> UInt8.ofNat ((UInt64.ofNat k).toNat)) % (2:UInt8)) = (1:UInt8) := of_decide_eq_true hb3
        refine JC_region ?_
        refine JL_val _ (Ev_move rfl) rfl ?_
        refine JL_val _ (Ev_move rfl) rfl ?_
        refine JL_val (U8 (o ^^^ x)) (Ev_bini rfl rfl fun _ => bin_xor_u8 o x) rfl ?_
        refine JL_val _ (Ev_assign rfl) rfl ?_
        refine JL_nil ?_
        refine JQ_in_normal ?_
        refine JQ_then ?_
        refine JC_region ?_
        refine JL_val _ (Ev_move rfl) rfl ?_
        refine JL_val (I64 ((k:Int) + 1)) (Ev_bini rfl rfl fun _ => bin_add_i _ _ ((k:Int) + 1) (by omega) (by omega)) rfl ?_
        refine JL_val _ (Ev_assign rfl) rfl ?_
        refine JL_nil ?_
        refine JQ_thenK ?_
        refine K_next (k + 1, o ^^^ x) ⟨by omega, by rw [rmulN, if_pos (by rw [hk64] at hp3; exact hp3), ← hx2, hy2, show i = k from by omega]⟩ (by simp; omega) (Sub.cons rfl (Sub.cons rfl (Sub.cons rfl (Sub.cons rfl (Sub.cons rfl (Sub.nil)))))) rfl
      ·
        have hp3 : ¬ (((a >>> UInt8.ofNat ((UInt64.ofNat k).toNat)) % (2:UInt8)) = (1:UInt8)) := of_decide_eq_false hb3
        refine JC_skip ?_
        refine JQ_in_normal ?_
        refine JQ_then ?_
        refine JC_region ?_
        refine JL_val _ (Ev_move rfl) rfl ?_
        refine JL_val (I64 ((k:Int) + 1)) (Ev_bini rfl rfl fun _ => bin_add_i _ _ ((k:Int) + 1) (by omega) (by omega)) rfl ?_
        refine JL_val _ (Ev_assign rfl) rfl ?_
        refine JL_nil ?_
        refine JQ_thenK ?_
        refine K_next (k + 1, o) ⟨by omega, by rw [rmulN, if_neg (by rw [hk64] at hp3; exact hp3), ← hx2]⟩ (by simp; omega) (Sub.cons rfl (Sub.cons rfl (Sub.cons rfl (Sub.cons rfl (Sub.cons rfl (Sub.nil)))))) rfl
  ·
    have hp1 : ¬ (((k:Int)) < (8:Int)) := of_decide_eq_false hb1
    refine JC_exit ?_
    refine JQ_then_exit ?_
    refine JQ_then_exit ?_
    refine JQ_in_same ?_
    refine JQ_then ?_
    refine JC_seq ?_
    refine JC_region ?_
    refine JL_val _ (Ev_move rfl) rfl ?_
    refine JL_val _ (Ev_assign rfl) rfl ?_
    refine JL_nil ?_
    refine JQ_then ?_
    refine JC_ret ?_
    refine JQ_ret (U8 o) (res1 Try.results17 (RV_tmp rfl)) fun w1 hw1 => ?_
    exact ⟨_, [], rfl, ⟨by rw [show o = rmul a b from by rw [rmul, ← (show k = 8 from by omega), ← hx2]], rfl⟩, hw1.sub (by simp) (by simp)⟩

theorem rinverse_c (a : UInt8) (w : World) : Calls Try.prog 19 #[U8 a] w (Post w [] (fun v L => v = U8 (rinv a) ∧ L = [])) := by
  refine enter w [] 15 [] [U8 a] Try.func19 rfl rfl (by simp) (Hp.start (by simp) (by simp) (by simp)) ?_
  show JC _ _ _ [(0, U8 a)] _
  refine JC_seq ?_
  refine JC_region ?_
  refine JL_val _ (Ev_assign rfl) rfl ?_
  refine JL_nil ?_
  refine JQ_then ?_
  refine JC_seq ?_
  refine JC_seq ?_
  refine JC_region ?_
  refine JL_val _ (Ev_assign rfl) rfl ?_
  refine JL_nil ?_
  refine JQ_then ?_
  refine JC_block ?_
  refine JC_loop (ι := Nat) (fun k => [(0, U8 a), (3, I64 ((k:Int)))]) (fun k => []) (fun k => 1 ≤ k ∧ k ≤ 256 ∧ srch a (256 - k) k = rinv a) (fun k => 256 - k) 1 ⟨by omega, by omega, rfl⟩ (Sub.cons rfl (Sub.cons rfl (Sub.nil))) rfl ?_
  rintro k ⟨hx1, hx2, hx3⟩
  show JC _ _ _ [(0, U8 a), (3, I64 ((k:Int)))] []
  refine JC_seq ?_
  refine JC_seq ?_
  refine JC_region ?_
  refine JL_val _ (Ev_move rfl) rfl ?_
  refine JL_val (.bool (decide (((k:Int)) < (256:Int)))) (Ev_bini rfl rfl fun _ => bin_lss_i _ _) rfl ?_
  refine JL_nil ?_
  refine JQ_then ?_
  refine JC_cond (decide (((k:Int)) < (256:Int))) rfl (fun hb1 => ?_) (fun hb1 => ?_)
  ·
    have hp1 : ((k:Int)) < (256:Int) := of_decide_eq_true hb1
    refine JC_skip ?_
    refine JQ_then ?_
    refine JC_seq ?_
    refine JC_block ?_
    refine JC_seq ?_
    refine JC_region ?_
    refine JL_val _ (Ev_move rfl) rfl ?_
    refine JL_val _ (Ev_move rfl) rfl ?_
    refine JL_val (U8 (UInt8.ofNat k)) (Ev_conv _ _ rfl fun _ => conv_i64_u8 (by rw [Try.underlying3]; rfl) Try.underlying5 k _ (by omega)) rfl ?_
    refine JL_step (Step_callP 17 [U8 a, U8 (UInt8.ofNat k)] (U8 (rmul a (UInt8.ofNat k))) (Cl_func [U8 a, U8 (UInt8.ofNat k)] Try.call17 rfl) (fun w1 _ => rproduct_c a (UInt8.ofNat k) w1)) rfl ?_
    rintro v1 L1 ⟨rfl, rfl⟩
    show JL _ _ _ _ ((11, U8 (rmul a (UInt8.ofNat k))) :: _) []
    refine JL_val (.bool (decide ((rmul a (UInt8.ofNat k)) = (1:UInt8)))) (Ev_bini rfl rfl fun _ => bin_eql_u8 (rmul a (UInt8.ofNat k)) (1:UInt8)) rfl ?_
    refine JL_nil ?_
    refine JQ_then ?_
    refine JC_cond (decide ((rmul a (UInt8.ofNat k)) = (1:UInt8))) rfl (fun hb2 => ?_) (fun hb2 => ?_)
    ·
      have hp2 : (rmul a (UInt8.ofNat k)) = (1:UInt8) := of_decide_eq_true hb2
      refine JC_seq ?_
      refine JC_region ?_
      refine JL_val _ (Ev_move rfl) rfl ?_
      refine JL_val (U8 (UInt8.ofNat k)) (Ev_conv _ _ rfl fun _ => conv_i64_u8 (by rw [Try.underlying3]; rfl) Try.underlying5 k _ (by omega)) rfl ?_
      refine JL_val _ (Ev_assign rfl) rfl ?_
      refine JL_nil ?_
      refine JQ_then ?_
      refine JC_ret ?_
      refine JQ_in_ret ?_
      refine JQ_then_ret ?_
      refine JQ_then_ret ?_
      refine JQ_in_ret ?_
      refine JQ_then_ret ?_
      refine JQ_ret (U8 (UInt8.ofNat k)) (res1 Try.results19 (RV_tmp rfl)) fun w1 hw1 => ?_
      exact ⟨_, [], rfl, ⟨by rw [← hx3, show 256 - k = (256 - (k + 1)) + 1 from by omega, srch, if_pos hp2], rfl⟩, hw1.sub (by simp) (by simp)⟩
    ·
      have hp2 : ¬ ((rmul a (UInt8.ofNat k)) = (1:UInt8)) := of_decide_eq_false hb2
      refine JC_skip ?_
      refine JQ_in_normal ?_
      refine JQ_then ?_
      refine JC_region ?_
      refine JL_val _ (Ev_move rfl) rfl ?_
      refine JL_val (I64 ((k:Int) + 1)) (Ev_bini rfl rfl fun _ => bin_add_i _ _ ((k:Int) + 1) (by omega) (by omega)) rfl ?_
      refine JL_val _ (Ev_assign rfl) rfl ?_
      refine JL_nil ?_
      refine JQ_thenK ?_
      refine K_next (k + 1) ⟨by omega, by omega, by rw [← hx3, show 256 - k = (256 - (k + 1)) + 1 from by omega, srch, if_neg hp2]⟩ (by simp; omega) (Sub.cons rfl (Sub.cons rfl (Sub.nil))) rfl
  ·
    have hp1 : ¬ (((k:Int)) < (256:Int)) := of_decide_eq_false hb1
    refine JC_exit ?_
    refine JQ_then_exit ?_
    refine JQ_then_exit ?_
    refine JQ_in_same ?_
    refine JQ_then ?_
    refine JC_seq ?_
    refine JC_region ?_
    refine JL_val _ (Ev_assign rfl) rfl ?_
    refine JL_nil ?_
    refine JQ_then ?_
    refine JC_ret ?_
    refine JQ_ret (U8 (0:UInt8)) (res1 Try.results19 (RV_tmp rfl)) fun w1 hw1 => ?_
    exact ⟨_, [], rfl, ⟨by rw [← hx3, show 256 - k = 0 from by omega]; rfl, rfl⟩, hw1.sub (by simp) (by simp)⟩

theorem rsub_c (a : UInt8) (w : World) : Calls Try.prog 21 #[U8 a] w (Post w [] (fun v L => v = U8 (bent (rinv a)) ∧ L = [])) := by
  refine enter w [] 27 [] [U8 a] Try.func21 rfl rfl (by simp) (Hp.start (by simp) (by simp) (by simp)) ?_
  show JC _ _ _ [(0, U8 a)] _
  refine JC_seq ?_
  refine JC_region ?_
  refine JL_val _ (Ev_assign rfl) rfl ?_
  refine JL_nil ?_
  refine JQ_then ?_
  refine JC_seq ?_
  refine JC_region ?_
  refine JL_val _ (Ev_move rfl) rfl ?_
  refine JL_step (Step_callP 19 [U8 a] (U8 (rinv a)) (Cl_func [U8 a] Try.call19 rfl) (fun w1 _ => rinverse_c a w1)) rfl ?_
  rintro v1 L1 ⟨rfl, rfl⟩
  show JL _ _ _ _ ((7, U8 (rinv a)) :: _) []
  refine JL_val _ (Ev_assign rfl) rfl ?_
  refine JL_nil ?_
  refine JQ_then ?_
  refine JC_seq ?_
  refine JC_region ?_
  refine JL_val _ (Ev_move rfl) rfl ?_
  refine JL_val (U8 ((rinv a) ^^^ (99:UInt8))) (Ev_bini rfl rfl fun _ => bin_xor_u8 (rinv a) (99:UInt8)) rfl ?_
  refine JL_val _ (Ev_assign rfl) rfl ?_
  refine JL_nil ?_
  refine JQ_then ?_
  refine JC_seq ?_
  refine JC_seq ?_
  refine JC_region ?_
  refine JL_val _ (Ev_assign rfl) rfl ?_
  refine JL_nil ?_
  refine JQ_then ?_
  refine JC_block ?_
  refine JC_loop (ι := Nat × UInt8) (fun ⟨k, o⟩ => [(2, U8 (0:UInt8)), (3, U8 (rinv a)), (4, U8 o), (5, I64 ((k:Int)))]) (fun ⟨k, o⟩ => []) (fun ⟨k, o⟩ => 1 ≤ k ∧ k ≤ 5 ∧ o = bentN (rinv a) (k - 1)) (fun ⟨k, o⟩ => 5 - k) (1, rinv a ^^^ (99:UInt8)) ⟨by omega, by omega, rfl⟩ (Sub.cons rfl (Sub.cons rfl (Sub.cons rfl (Sub.cons rfl (Sub.nil))))) rfl ?_
  rintro ⟨k, o⟩ ⟨hx1, hx2, hx3⟩
  show JC _ _ _ [(2, U8 (0:UInt8)), (3, U8 (rinv a)), (4, U8 o), (5, I64 ((k:Int)))] []
  have hk64 : k < 5 → (UInt64.ofNat k).toNat = k := by intro h; simp; omega
  have hk65 : (UInt64.ofNat (8 - k)).toNat = 8 - k := by simp; omega
  refine JC_seq ?_
  refine JC_seq ?_
  refine JC_region ?_
  refine JL_val _ (Ev_move rfl) rfl ?_
  refine JL_val (.bool (decide (((k:Int)) ≤ (4:Int)))) (Ev_bini rfl rfl fun _ => bin_leq_i _ _) rfl ?_
  refine JL_nil ?_
  refine JQ_then ?_
  refine JC_cond (decide (((k:Int)) ≤ (4:Int))) rfl (fun hb1 => ?_) (fun hb1 => ?_)
  ·
    have hp1 : ((k:Int)) ≤ (4:Int) := of_decide_eq_true hb1
    refine JC_skip ?_
    refine JQ_then ?_
    refine JC_seq ?_
    refine JC_block ?_
    refine JC_region ?_
    refine JL_val _ (Ev_move rfl) rfl ?_
    refine JL_val _ (Ev_move rfl) rfl ?_
    refine JL_val _ (Ev_move rfl) rfl ?_
    refine JL_val (U64 (UInt64.ofNat k)) (Ev_conv _ _ rfl fun _ => conv_i64_u64 (by rw [Try.underlying3]; rfl) Try.underlying49 k _ (by omega)) rfl ?_
    refine JL_val (U8 ((rinv a) <<< UInt8.ofNat ((UInt64.ofNat k).toNat))) (Ev_bini rfl rfl fun _ => bin_shl_u8 (rinv a) _ _ ((UInt64.ofNat k).toNat) (by omega) (by omega)) rfl ?_
    refine JL_val _ (Ev_move rfl) rfl ?_
    refine JL_val _ (Ev_move rfl) rfl ?_
    refine JL_val (I64 (-(k:Int) + 8)) (Ev_bini rfl rfl fun _ => bin_sub_i _ _ (-(k:Int) + 8) (by omega) (by omega)) rfl ?_
    refine JL_val (U64 (UInt64.ofNat (8 - k))) (Ev_conv _ _ rfl fun _ => conv_i64_u64 (by rw [Try.underlying3]; rfl) Try.underlying49 (8 - k) _ (by omega)) rfl ?_
    refine JL_val (U8 ((rinv a) >>> UInt8.ofNat ((UInt64.ofNat (8 - k)).toNat))) (Ev_bini rfl rfl fun _ => bin_shr_u8 (rinv a) _ _ ((UInt64.ofNat (8 - k)).toNat) (by omega) (by omega)) rfl ?_
    refine JL_val (U8 (((rinv a) <<< UInt8.ofNat ((UInt64.ofNat k).toNat)) ||| ((rinv a) >>> UInt8.ofNat ((UInt64.ofNat (8 - k)).toNat)))) (Ev_bini rfl rfl fun _ => bin_or_u8 ((rinv a) <<< UInt8.ofNat ((UInt64.ofNat k).toNat)) ((rinv a) >>> UInt8.ofNat ((UInt64.ofNat (8 - k)).toNat))) rfl ?_
    refine JL_val (U8 (o ^^^ (((rinv a) <<< UInt8.ofNat ((UInt64.ofNat k).toNat)) ||| ((rinv a) >>> UInt8.ofNat ((UInt64.ofNat (8 - k)).toNat))))) (Ev_bini rfl rfl fun _ => bin_xor_u8 o (((rinv a) <<< UInt8.ofNat ((UInt64.ofNat k).toNat)) ||| ((rinv a) >>> UInt8.ofNat ((UInt64.ofNat (8 - k)).toNat)))) rfl ?_
    refine JL_val _ (Ev_assign rfl) rfl ?_
    refine JL_nil ?_
    refine JQ_in_normal ?_
    refine JQ_then ?_
    refine JC_region ?_
    refine JL_val _ (Ev_move rfl) rfl ?_
    refine JL_val (I64 ((k:Int) + 1)) (Ev_bini rfl rfl fun _ => bin_add_i _ _ ((k:Int) + 1) (by omega) (by omega)) rfl ?_
    refine JL_val _ (Ev_assign rfl) rfl ?_
    refine JL_nil ?_
    refine JQ_thenK ?_
    refine K_next (k + 1, o ^^^ (((rinv a) <<< UInt8.ofNat ((UInt64.ofNat k).toNat)) ||| ((rinv a) >>> UInt8.ofNat ((UInt64.ofNat (8 - k)).toNat)))) ⟨by omega, by omega, by rw [hk64 (by omega), hk65]; obtain ⟨j, rfl⟩ : ∃ j, k = j + 1 := ⟨k - 1, by omega⟩; simp only [Nat.add_sub_cancel] at hx3 ⊢; rw [bentN, ← hx3]; rfl⟩ (by simp; omega) (Sub.cons rfl (Sub.cons rfl (Sub.cons rfl (Sub.cons rfl (Sub.nil))))) rfl
  ·
    have hp1 : ¬ (((k:Int)) ≤ (4:Int)) := of_decide_eq_false hb1
    refine JC_exit ?_
    refine JQ_then_exit ?_
    refine JQ_then_exit ?_
    refine JQ_in_same ?_
    refine JQ_then ?_
    refine JC_seq ?_
    refine JC_region ?_
    refine JL_val _ (Ev_move rfl) rfl ?_
    refine JL_val _ (Ev_assign rfl) rfl ?_
    refine JL_nil ?_
    refine JQ_then ?_
    refine JC_ret ?_
    refine JQ_ret (U8 o) (res1 Try.results21 (RV_tmp rfl)) fun w1 hw1 => ?_
    exact ⟨_, [], rfl, ⟨by rw [show o = bent (rinv a) from by rw [bent, ← (show k - 1 = 4 from by omega), ← hx3]], rfl⟩, hw1.sub (by simp) (by simp)⟩

end Go.Proofs.Ytncoifiafklkjaa
