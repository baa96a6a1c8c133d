import Derived.Test.YtncoifiafklkjaaFx
import Derived.Test.YtncoifiafklkjaaSxL
import Derived.Test.YtncoifiafklkjaaAes7b
import Derived.Test.YtncoifiafklkjaaCtrLaw
namespace Go.Proofs.Ytncoifiafklkjaa
open Go Go.Sx
set_option linter.unusedVariables false
set_option linter.unusedSimpArgs false
set_option maxRecDepth 100000
attribute [local irreducible] mid zr8 rkeysL rencL encL decL rkL thereL backL nextL rnextL
theorem next_c (c : List UInt8) (n : UInt64) (w : World) (hc : c.length = 16) : Calls Try.prog 31 #[.agg (cu8 c).toArray, U64 n] w (Post w [] (fun v L => v = .agg (cu8 (nextL c n)).toArray ∧ L = [])) := by
  refine enter w [] 30 [] [.agg (cu8 c).toArray, U64 n] Try.func31 rfl rfl (by simp) (Hp.start (by simp) (by simp) (by simp)) ?_
  show JC _ _ _ [(0, .agg (cu8 c).toArray), (1, U64 n)] _
  refine JC_seq ?_
  refine JC_region ?_
  refine JL_step (Step_box (.agg (cu8 c).toArray) (cu8 c) rfl (by first | rfl | simp)) rfl ?_
  rintro v1 L1 ⟨nb1, hnb1, rfl, rfl⟩
  show JL _ _ _ _ ((2, Ptr nb1 0) :: _) [⟨nb1, cu8 c, 27, (0, 0)⟩]
  refine JL_step (Step_alloc _ (cu8 (zr8 16)) Try.zeroValue27 (by kernel_rfl)) rfl ?_
  rintro v1 L1 ⟨nb2, hnb2, rfl, rfl⟩
  show JL _ _ _ _ ((4, Ptr nb2 0) :: _) [⟨nb1, cu8 c, 27, (0, 0)⟩, ⟨nb2, cu8 (zr8 16), 27, (0, 0)⟩]
  refine JL_nil ?_
  refine JQ_then ?_
  refine JC_seq ?_
  refine JC_region ?_
  refine JL_val _ (Ev_assign rfl) rfl ?_
  refine JL_nil ?_
  refine JQ_then ?_
  refine JC_seq ?_
  refine JC_seq ?_
  refine JC_region ?_
  refine JL_val _ (Ev_assign rfl) rfl ?_
  refine JL_nil ?_
  refine JQ_then ?_
  refine JC_block ?_
  refine JC_loop (ι := Nat × UInt64 × List UInt8 × UInt64) (fun ⟨k, cr, s, m⟩ => [(2, Ptr nb1 0), (4, Ptr nb2 0), (5, U64 cr), (1, U64 m), (6, I64 (-(k:Int) + 15))]) (fun ⟨k, cr, s, m⟩ => [⟨nb1, cu8 s, 27, (0, 0)⟩, ⟨nb2, cu8 (zr8 16), 27, (0, 0)⟩]) (fun ⟨k, cr, s, m⟩ => k ≤ 16 ∧ (cr, s, m) = nxN c n k ∧ s.length = 16) (fun ⟨k, cr, s, m⟩ => 16 - k) (0, 0, c, n) ⟨by omega, rfl, hc⟩ (Sub.cons rfl (Sub.cons rfl (Sub.cons rfl (Sub.cons rfl (Sub.cons rfl (Sub.nil)))))) rfl ?_
  rintro ⟨k, cr, s, m⟩ ⟨hx1, hx2, hs⟩
  show JC _ _ _ [(2, Ptr nb1 0), (4, Ptr nb2 0), (5, U64 cr), (1, U64 m), (6, I64 (-(k:Int) + 15))] [⟨nb1, cu8 s, 27, (0, 0)⟩, ⟨nb2, cu8 (zr8 16), 27, (0, 0)⟩]
  refine JC_seq ?_
  refine JC_seq ?_
  refine JC_region ?_
  refine JL_val _ (Ev_move rfl) rfl ?_
  refine JL_val (.bool (decide ((0:Int) ≤ (-(k:Int) + 15)))) (Ev_bini rfl rfl fun _ => bin_geq_i _ _) rfl ?_
  refine JL_nil ?_
  refine JQ_then ?_
  refine JC_cond (decide ((0:Int) ≤ (-(k:Int) + 15))) rfl (fun hb1 => ?_) (fun hb1 => ?_)
  ·
    have hp1 : (0:Int) ≤ (-(k:Int) + 15) := of_decide_eq_true hb1
    refine JC_skip ?_
    refine JQ_then ?_
    refine JC_seq ?_
    refine JC_block ?_
    refine JC_seq ?_
    refine JC_region ?_
    refine JL_val _ (Ev_move rfl) rfl ?_
    refine JL_val (Ptr nb1 (15 - k)) (Ev_indexArr 16 5 1 (15 - k) Try.underlying27 Try.sizeOf5 rfl rfl (by omega) (by omega) (by omega)) rfl ?_
    refine JL_val (U8 (g8 s (15 - k))) (Ev_load rfl (Ld_one Try.isAgg5 (MemAt.ent 0 rfl (Seg.get (g8_get (i := (15 - k)) (by rw [hs]; omega)))))) rfl ?_
    refine JL_val (U64 ((g8 s (15 - k)).toUInt64)) (Ev_conv _ _ rfl fun _ => conv_u8_u64 (by rw [Try.underlying5]; rfl) Try.underlying44 _) rfl ?_
    refine JL_val _ (Ev_move rfl) rfl ?_
    refine JL_val (U64 (m &&& (255:UInt64))) (Ev_bini rfl rfl fun _ => bin_and_u64 m (255:UInt64)) rfl ?_
    refine JL_val (U64 (((g8 s (15 - k)).toUInt64) + (m &&& (255:UInt64)))) (Ev_bini rfl rfl fun _ => bin_add_u64 ((g8 s (15 - k)).toUInt64) (m &&& (255:UInt64))) rfl ?_
    refine JL_val _ (Ev_move rfl) rfl ?_
    refine JL_val (U64 ((((g8 s (15 - k)).toUInt64) + (m &&& (255:UInt64))) + cr)) (Ev_bini rfl rfl fun _ => bin_add_u64 (((g8 s (15 - k)).toUInt64) + (m &&& (255:UInt64))) cr) rfl ?_
    refine JL_val _ (Ev_assign rfl) rfl ?_
    refine JL_nil ?_
    refine JQ_then ?_
    refine JC_seq ?_
    refine JC_region ?_
    refine JL_val _ (Ev_move rfl) rfl ?_
    refine JL_val _ (Ev_move rfl) rfl ?_
    refine JL_val (U8 (((((g8 s (15 - k)).toUInt64) + (m &&& (255:UInt64))) + cr).toUInt8)) (Ev_conv _ _ rfl fun _ => conv_u64_u8 (by rw [Try.underlying44]; rfl) Try.underlying5 _) rfl ?_
    refine JL_val (Ptr nb1 (15 - k)) (Ev_indexArr 16 5 1 (15 - k) Try.underlying27 Try.sizeOf5 rfl rfl (by omega) (by omega) (by omega)) rfl ?_
    have hl1 : (s.set (15 - k) (((((g8 s (15 - k)).toUInt64) + (m &&& (255:UInt64))) + cr).toUInt8)).length = 16 := by simp [hs]
    refine JL_step (Step_store 0 nb1 (15 - k) 1 (cu8 s) 27 (U8 (((((g8 s (15 - k)).toUInt64) + (m &&& (255:UInt64))) + cr).toUInt8)) ([U8 (((((g8 s (15 - k)).toUInt64) + (m &&& (255:UInt64))) + cr).toUInt8)]) (cu8 (s.set (15 - k) (((((g8 s (15 - k)).toUInt64) + (m &&& (255:UInt64))) + cr).toUInt8))) rfl rfl rfl rfl Try.sizeOf5 rfl (by simp [Value.oneCell']) (by simp [hs]; try omega) (lay8 _ _ _ (by rw [hs]; omega))) rfl ?_
    rintro v1 L1 ⟨rfl, rfl⟩
    show JL _ _ _ _ _ [⟨nb1, cu8 (s.set (15 - k) (((((g8 s (15 - k)).toUInt64) + (m &&& (255:UInt64))) + cr).toUInt8)), 27, (0, 0)⟩, ⟨nb2, cu8 (zr8 16), 27, (0, 0)⟩]
    refine JL_nil ?_
    refine JQ_then ?_
    refine JC_seq ?_
    refine JC_region ?_
    refine JL_val _ (Ev_move rfl) rfl ?_
    refine JL_val (U64 (((((g8 s (15 - k)).toUInt64) + (m &&& (255:UInt64))) + cr) >>> (8:UInt64))) (Ev_bini rfl rfl fun _ => bin_shr_u64 ((((g8 s (15 - k)).toUInt64) + (m &&& (255:UInt64))) + cr) _ _ 8 (by decide) rfl) rfl ?_
    refine JL_val _ (Ev_assign rfl) rfl ?_
    refine JL_nil ?_
    refine JQ_then ?_
    refine JC_region ?_
    refine JL_val _ (Ev_move rfl) rfl ?_
    refine JL_val (U64 (m >>> (8:UInt64))) (Ev_bini rfl rfl fun _ => bin_shr_u64 m _ _ 8 (by decide) rfl) rfl ?_
    refine JL_val _ (Ev_assign rfl) rfl ?_
    refine JL_nil ?_
    refine JQ_in_normal ?_
    refine JQ_then ?_
    refine JC_region ?_
    refine JL_val _ (Ev_move rfl) rfl ?_
    refine JL_val (I64 (-(k:Int) + 14)) (Ev_bini rfl rfl fun _ => bin_sub_i _ _ (-(k:Int) + 14) (by omega) (by omega)) rfl ?_
    refine JL_val _ (Ev_assign rfl) rfl ?_
    refine JL_nil ?_
    refine JQ_thenK ?_
    refine K_next (k + 1, ((((g8 s (15 - k)).toUInt64) + (m &&& (255:UInt64))) + cr) >>> (8:UInt64), s.set (15 - k) (((((g8 s (15 - k)).toUInt64) + (m &&& (255:UInt64))) + cr).toUInt8), m >>> (8:UInt64)) ⟨by omega, by rw [nxN, ← hx2]; rfl, hl1⟩ (by first | (simp; omega) | simp) (Sub.cons rfl (Sub.cons rfl (Sub.cons rfl (Sub.cons rfl (Sub.cons (some_i64 (by omega)) (Sub.nil)))))) rfl
  ·
    have hp1 : ¬ ((0:Int) ≤ (-(k:Int) + 15)) := of_decide_eq_false hb1
    refine JC_exit ?_
    refine JQ_then_exit ?_
    refine JQ_then_exit ?_
    refine JQ_in_same ?_
    refine JQ_then ?_
    refine JC_seq ?_
    refine JC_region ?_
    refine JL_val (.agg (cu8 s).toArray) (Ev_load rfl (Ld_agg Try.isAgg27 Try.sizeOf27 (len_cu8 hs) (MemAt.ent 0 rfl (Seg.whole _)))) rfl ?_
    refine JL_step (Step_store 1 nb2 0 16 (cu8 (zr8 16)) 27 (.agg (cu8 s).toArray) (cu8 s) (cu8 s) rfl rfl rfl (by first | rfl | simp) Try.sizeOf27 (len_cu8 hs) (by first | exact one_u8 | exact one_u32 | exact one_u64 | (simp [cu8, cu32, cu64, Value.oneCell']; done)) (by simp [(zr8_len 16)]) (lay_whole (by simp [(zr8_len 16), hs]))) rfl ?_
    rintro v1 L1 ⟨rfl, rfl⟩
    show JL _ _ _ _ _ [⟨nb1, cu8 s, 27, (0, 0)⟩, ⟨nb2, cu8 s, 27, (0, 0)⟩]
    refine JL_nil ?_
    refine JQ_then ?_
    refine JC_ret ?_
    refine JQ_ret (.agg (cu8 s).toArray) (res1 Try.results31 (RV_cell rfl (Ld_agg Try.isAgg27 Try.sizeOf27 (len_cu8 hs) (MemAt.ent 1 rfl (Seg.whole _))))) fun w1 hw1 => ?_
    have e1 : k = 16 := by omega
    subst e1
    rw [show s = nextL c n by rw [nextL, ← hx2]]
    exact ⟨_, [], rfl, ⟨rfl, rfl⟩, hw1.sub (by simp) (by simp)⟩

theorem rnext_c (c : List UInt8) (n : UInt64) (w : World) (hc : c.length = 16) : Calls Try.prog 32 #[.agg (cu8 c).toArray, U64 n] w (Post w [] (fun v L => v = .agg (cu8 (rnextL c n)).toArray ∧ L = [])) := by
  refine enter w [] 56 [] [.agg (cu8 c).toArray, U64 n] Try.func32 rfl rfl (by simp) (Hp.start (by simp) (by simp) (by simp)) ?_
  show JC _ _ _ [(0, .agg (cu8 c).toArray), (1, U64 n)] _
  refine JC_seq ?_
  refine JC_region ?_
  refine JL_step (Step_box (.agg (cu8 c).toArray) (cu8 c) rfl (by first | rfl | simp)) rfl ?_
  rintro v1 L1 ⟨nb1, hnb1, rfl, rfl⟩
  show JL _ _ _ _ ((2, Ptr nb1 0) :: _) [⟨nb1, cu8 c, 27, (0, 0)⟩]
  refine JL_step (Step_alloc _ (cu8 (zr8 16)) Try.zeroValue27 (by kernel_rfl)) rfl ?_
  rintro v1 L1 ⟨nb2, hnb2, rfl, rfl⟩
  show JL _ _ _ _ ((4, Ptr nb2 0) :: _) [⟨nb1, cu8 c, 27, (0, 0)⟩, ⟨nb2, cu8 (zr8 16), 27, (0, 0)⟩]
  refine JL_nil ?_
  refine JQ_then ?_
  refine JC_seq ?_
  refine JC_region ?_
  refine JL_val _ (Ev_assign rfl) rfl ?_
  refine JL_val _ (Ev_assign rfl) rfl ?_
  refine JL_nil ?_
  refine JQ_then ?_
  refine JC_seq ?_
  refine JC_seq ?_
  refine JC_region ?_
  refine JL_val _ (Ev_assign rfl) rfl ?_
  refine JL_nil ?_
  refine JQ_then ?_
  refine JC_block ?_
  refine JC_loop (ι := Nat × UInt64 × UInt64) (fun ⟨k, lo, hi⟩ => [(1, U64 n), (2, Ptr nb1 0), (4, Ptr nb2 0), (5, U64 lo), (6, U64 hi), (7, I64 ((k:Int)))]) (fun ⟨k, lo, hi⟩ => [⟨nb1, cu8 c, 27, (0, 0)⟩, ⟨nb2, cu8 (zr8 16), 27, (0, 0)⟩]) (fun ⟨k, lo, hi⟩ => k ≤ 8 ∧ (lo, hi) = rvN c k) (fun ⟨k, lo, hi⟩ => 8 - k) (0, 0, 0) ⟨by omega, rfl⟩ (Sub.cons rfl (Sub.cons rfl (Sub.cons rfl (Sub.cons rfl (Sub.cons rfl (Sub.cons rfl (Sub.nil))))))) rfl ?_
  rintro ⟨k, lo, hi⟩ ⟨hx1, hx2⟩
  show JC _ _ _ [(1, U64 n), (2, Ptr nb1 0), (4, Ptr nb2 0), (5, U64 lo), (6, U64 hi), (7, I64 ((k:Int)))] [⟨nb1, cu8 c, 27, (0, 0)⟩, ⟨nb2, cu8 (zr8 16), 27, (0, 0)⟩]
  refine JC_seq ?_
  refine JC_seq ?_
  refine JC_region ?_
  refine JL_val _ (Ev_move rfl) rfl ?_
  refine JL_val (.bool (decide (((k:Int)) < (8:Int)))) (Ev_bini rfl rfl fun _ => bin_lss_i _ _) rfl ?_
  refine JL_nil ?_
  refine JQ_then ?_
  refine JC_cond (decide (((k:Int)) < (8:Int))) rfl (fun hb1 => ?_) (fun hb1 => ?_)
  ·
    have hp1 : ((k:Int)) < (8:Int) := of_decide_eq_true hb1
    refine JC_skip ?_
    refine JQ_then ?_
    refine JC_seq ?_
    refine JC_block ?_
    refine JC_seq ?_
    refine JC_region ?_
    refine JL_val _ (Ev_move rfl) rfl ?_
    refine JL_val (U64 (hi * (256:UInt64))) (Ev_bini rfl rfl fun _ => bin_mul_u64 hi (256:UInt64)) rfl ?_
    refine JL_val _ (Ev_move rfl) rfl ?_
    refine JL_val (Ptr nb1 k) (Ev_indexArr 16 5 1 k Try.underlying27 Try.sizeOf5 rfl rfl (by omega) (by omega) (by omega)) rfl ?_
    refine JL_val (U8 (g8 c k)) (Ev_load rfl (Ld_one Try.isAgg5 (MemAt.ent 0 rfl (Seg.get (g8_get (i := k) (by rw [hc]; omega)))))) rfl ?_
    refine JL_val (U64 ((g8 c k).toUInt64)) (Ev_conv _ _ rfl fun _ => conv_u8_u64 (by rw [Try.underlying5]; rfl) Try.underlying44 _) rfl ?_
    refine JL_val (U64 ((hi * (256:UInt64)) + ((g8 c k).toUInt64))) (Ev_bini rfl rfl fun _ => bin_add_u64 (hi * (256:UInt64)) ((g8 c k).toUInt64)) rfl ?_
    refine JL_val _ (Ev_assign rfl) rfl ?_
    refine JL_nil ?_
    refine JQ_then ?_
    refine JC_region ?_
    refine JL_val _ (Ev_move rfl) rfl ?_
    refine JL_val (U64 (lo * (256:UInt64))) (Ev_bini rfl rfl fun _ => bin_mul_u64 lo (256:UInt64)) rfl ?_
    refine JL_val _ (Ev_move rfl) rfl ?_
    refine JL_val (I64 ((k:Int) + 8)) (Ev_bini rfl rfl fun _ => bin_add_i _ _ ((k:Int) + 8) (by omega) (by omega)) rfl ?_
    refine JL_val (Ptr nb1 (k + 8)) (Ev_indexArr 16 5 1 (k + 8) Try.underlying27 Try.sizeOf5 rfl rfl (by omega) (by omega) (by omega)) rfl ?_
    refine JL_val (U8 (g8 c (k + 8))) (Ev_load rfl (Ld_one Try.isAgg5 (MemAt.ent 0 rfl (Seg.get (g8_get (i := (k + 8)) (by rw [hc]; omega)))))) rfl ?_
    refine JL_val (U64 ((g8 c (k + 8)).toUInt64)) (Ev_conv _ _ rfl fun _ => conv_u8_u64 (by rw [Try.underlying5]; rfl) Try.underlying44 _) rfl ?_
    refine JL_val (U64 ((lo * (256:UInt64)) + ((g8 c (k + 8)).toUInt64))) (Ev_bini rfl rfl fun _ => bin_add_u64 (lo * (256:UInt64)) ((g8 c (k + 8)).toUInt64)) rfl ?_
    refine JL_val _ (Ev_assign rfl) rfl ?_
    refine JL_nil ?_
    refine JQ_in_normal ?_
    refine JQ_then ?_
    refine JC_region ?_
    refine JL_val _ (Ev_move rfl) rfl ?_
    refine JL_val (I64 ((k:Int) + 1)) (Ev_bini rfl rfl fun _ => bin_add_i _ _ ((k:Int) + 1) (by omega) (by omega)) rfl ?_
    refine JL_val _ (Ev_assign rfl) rfl ?_
    refine JL_nil ?_
    refine JQ_thenK ?_
    refine K_next (k + 1, (lo * (256:UInt64)) + ((g8 c (k + 8)).toUInt64), (hi * (256:UInt64)) + ((g8 c k).toUInt64)) ⟨by omega, by rw [rvN, ← hx2]⟩ (by first | (simp; omega) | simp) (Sub.cons rfl (Sub.cons rfl (Sub.cons rfl (Sub.cons rfl (Sub.cons rfl (Sub.cons rfl (Sub.nil))))))) rfl
  ·
    have hp1 : ¬ (((k:Int)) < (8:Int)) := of_decide_eq_false hb1
    refine JC_exit ?_
    refine JQ_then_exit ?_
    refine JQ_then_exit ?_
    refine JQ_in_same ?_
    refine JQ_then ?_
    refine JC_seq ?_
    refine JC_seq ?_
    refine JC_region ?_
    refine JL_val _ (Ev_move rfl) rfl ?_
    refine JL_val _ (Ev_move rfl) rfl ?_
    refine JL_val (U64 (lo + n)) (Ev_bini rfl rfl fun _ => bin_add_u64 lo n) rfl ?_
    refine JL_val _ (Ev_move rfl) rfl ?_
    refine JL_val (.bool (decide ((lo + n) < lo))) (Ev_bini rfl rfl fun _ => bin_lss_u64 (lo + n) lo) rfl ?_
    refine JL_nil ?_
    refine JQ_then ?_
    refine JC_cond (decide ((lo + n) < lo)) rfl (fun hb2 => ?_) (fun hb2 => ?_)
    ·
      have hp2 : (lo + n) < lo := of_decide_eq_true hb2
      refine JC_region ?_
      refine JL_val _ (Ev_move rfl) rfl ?_
      refine JL_val (U64 (hi + (1:UInt64))) (Ev_bini rfl rfl fun _ => bin_add_u64 hi (1:UInt64)) rfl ?_
      refine JL_val _ (Ev_assign rfl) rfl ?_
      refine JL_nil ?_
      refine JQ_then ?_
      refine JC_seq ?_
      refine JC_region ?_
      refine JL_val _ (Ev_move rfl) rfl ?_
      refine JL_val _ (Ev_move rfl) rfl ?_
      refine JL_val (U64 (lo + n)) (Ev_bini rfl rfl fun _ => bin_add_u64 lo n) rfl ?_
      refine JL_val _ (Ev_assign rfl) rfl ?_
      refine JL_nil ?_
      refine JQ_then ?_
      refine JC_seq ?_
      refine JC_seq ?_
      refine JC_region ?_
      refine JL_val _ (Ev_assign rfl) rfl ?_
      refine JL_nil ?_
      refine JQ_then ?_
      refine JC_block ?_
      refine JC_loop (ι := Nat × List UInt8 × UInt64 × UInt64) (fun ⟨j, s, lo2, hi2⟩ => [(2, Ptr nb1 0), (4, Ptr nb2 0), (5, U64 lo2), (6, U64 hi2), (8, I64 (-(j:Int) + 7))]) (fun ⟨j, s, lo2, hi2⟩ => [⟨nb1, cu8 s, 27, (0, 0)⟩, ⟨nb2, cu8 (zr8 16), 27, (0, 0)⟩]) (fun ⟨j, s, lo2, hi2⟩ => j ≤ 8 ∧ (s, lo2, hi2) = rwN c (lo + n) (hi + (1:UInt64)) j ∧ s.length = 16) (fun ⟨j, s, lo2, hi2⟩ => 8 - j) (0, c, lo + n, (hi + (1:UInt64))) ⟨by omega, rfl, hc⟩ (Sub.cons rfl (Sub.cons rfl (Sub.cons rfl (Sub.cons rfl (Sub.cons rfl (Sub.nil)))))) rfl ?_
      rintro ⟨j, s, lo2, hi2⟩ ⟨hy1, hy2, hs⟩
      show JC _ _ _ [(2, Ptr nb1 0), (4, Ptr nb2 0), (5, U64 lo2), (6, U64 hi2), (8, I64 (-(j:Int) + 7))] [⟨nb1, cu8 s, 27, (0, 0)⟩, ⟨nb2, cu8 (zr8 16), 27, (0, 0)⟩]
      refine JC_seq ?_
      refine JC_seq ?_
      refine JC_region ?_
      refine JL_val _ (Ev_move rfl) rfl ?_
      refine JL_val (.bool (decide ((0:Int) ≤ (-(j:Int) + 7)))) (Ev_bini rfl rfl fun _ => bin_geq_i _ _) rfl ?_
      refine JL_nil ?_
      refine JQ_then ?_
      refine JC_cond (decide ((0:Int) ≤ (-(j:Int) + 7))) rfl (fun hb3 => ?_) (fun hb3 => ?_)
      ·
        have hp3 : (0:Int) ≤ (-(j:Int) + 7) := of_decide_eq_true hb3
        refine JC_skip ?_
        refine JQ_then ?_
        refine JC_seq ?_
        refine JC_block ?_
        refine JC_seq ?_
        refine JC_region ?_
        refine JL_val _ (Ev_move rfl) rfl ?_
        refine JL_val _ (Ev_move rfl) rfl ?_
        refine JL_val (U8 hi2.toUInt8) (Ev_conv _ _ rfl fun _ => conv_u64_u8 (by rw [Try.underlying44]; rfl) Try.underlying5 _) rfl ?_
        refine JL_val (Ptr nb1 (7 - j)) (Ev_indexArr 16 5 1 (7 - j) Try.underlying27 Try.sizeOf5 rfl rfl (by omega) (by omega) (by omega)) rfl ?_
        have hl1 : (s.set (7 - j) hi2.toUInt8).length = 16 := by simp [hs]
        refine JL_step (Step_store 0 nb1 (7 - j) 1 (cu8 s) 27 (U8 hi2.toUInt8) ([U8 hi2.toUInt8]) (cu8 (s.set (7 - j) hi2.toUInt8)) rfl rfl rfl rfl Try.sizeOf5 rfl (by simp [Value.oneCell']) (by simp [hs]; try omega) (lay8 _ _ _ (by rw [hs]; omega))) rfl ?_
        rintro v1 L1 ⟨rfl, rfl⟩
        show JL _ _ _ _ _ [⟨nb1, cu8 (s.set (7 - j) hi2.toUInt8), 27, (0, 0)⟩, ⟨nb2, cu8 (zr8 16), 27, (0, 0)⟩]
        refine JL_nil ?_
        refine JQ_then ?_
        refine JC_seq ?_
        refine JC_region ?_
        refine JL_val _ (Ev_move rfl) rfl ?_
        refine JL_val (I64 (-(j:Int) + 15)) (Ev_bini rfl rfl fun _ => bin_add_i _ _ (-(j:Int) + 15) (by omega) (by omega)) rfl ?_
        refine JL_val _ (Ev_move rfl) rfl ?_
        refine JL_val (U8 lo2.toUInt8) (Ev_conv _ _ rfl fun _ => conv_u64_u8 (by rw [Try.underlying44]; rfl) Try.underlying5 _) rfl ?_
        refine JL_val (Ptr nb1 (15 - j)) (Ev_indexArr 16 5 1 (15 - j) Try.underlying27 Try.sizeOf5 rfl rfl (by omega) (by omega) (by omega)) rfl ?_
        have hl2 : ((s.set (7 - j) hi2.toUInt8).set (15 - j) lo2.toUInt8).length = 16 := by simp [hl1]
        refine JL_step (Step_store 0 nb1 (15 - j) 1 (cu8 (s.set (7 - j) hi2.toUInt8)) 27 (U8 lo2.toUInt8) ([U8 lo2.toUInt8]) (cu8 ((s.set (7 - j) hi2.toUInt8).set (15 - j) lo2.toUInt8)) rfl rfl rfl rfl Try.sizeOf5 rfl (by simp [Value.oneCell']) (by simp [hl1]; try omega) (lay8 _ _ _ (by rw [hl1]; omega))) rfl ?_
        rintro v1 L1 ⟨rfl, rfl⟩
        show JL _ _ _ _ _ [⟨nb1, cu8 ((s.set (7 - j) hi2.toUInt8).set (15 - j) lo2.toUInt8), 27, (0, 0)⟩, ⟨nb2, cu8 (zr8 16), 27, (0, 0)⟩]
        refine JL_nil ?_
        refine JQ_then ?_
        refine JC_seq ?_
        refine JC_region ?_
        refine JL_val _ (Ev_move rfl) rfl ?_
        refine JL_val (U64 (hi2 / (256:UInt64))) (Ev_bini rfl rfl fun _ => bin_quo_u64 hi2 (256:UInt64) (by decide)) rfl ?_
        refine JL_val _ (Ev_assign rfl) rfl ?_
        refine JL_nil ?_
        refine JQ_then ?_
        refine JC_region ?_
        refine JL_val _ (Ev_move rfl) rfl ?_
        refine JL_val (U64 (lo2 / (256:UInt64))) (Ev_bini rfl rfl fun _ => bin_quo_u64 lo2 (256:UInt64) (by decide)) rfl ?_
        refine JL_val _ (Ev_assign rfl) rfl ?_
        refine JL_nil ?_
        refine JQ_in_normal ?_
        refine JQ_then ?_
        refine JC_region ?_
        refine JL_val _ (Ev_move rfl) rfl ?_
        refine JL_val (I64 (-(j:Int) + 6)) (Ev_bini rfl rfl fun _ => bin_sub_i _ _ (-(j:Int) + 6) (by omega) (by omega)) rfl ?_
        refine JL_val _ (Ev_assign rfl) rfl ?_
        refine JL_nil ?_
        refine JQ_thenK ?_
        refine K_next (j + 1, (s.set (7 - j) hi2.toUInt8).set (15 - j) lo2.toUInt8, lo2 / (256:UInt64), hi2 / (256:UInt64)) ⟨by omega, by rw [rwN, ← hy2], hl2⟩ (by first | (simp; omega) | simp) (Sub.cons rfl (Sub.cons rfl (Sub.cons rfl (Sub.cons rfl (Sub.cons (some_i64 (by omega)) (Sub.nil)))))) rfl
      ·
        have hp3 : ¬ ((0:Int) ≤ (-(j:Int) + 7)) := of_decide_eq_false hb3
        refine JC_exit ?_
        refine JQ_then_exit ?_
        refine JQ_then_exit ?_
        refine JQ_in_same ?_
        refine JQ_then ?_
        refine JC_seq ?_
        refine JC_region ?_
        refine JL_val (.agg (cu8 s).toArray) (Ev_load rfl (Ld_agg Try.isAgg27 Try.sizeOf27 (len_cu8 hs) (MemAt.ent 0 rfl (Seg.whole _)))) rfl ?_
        refine JL_step (Step_store 1 nb2 0 16 (cu8 (zr8 16)) 27 (.agg (cu8 s).toArray) (cu8 s) (cu8 s) rfl rfl rfl (by first | rfl | simp) Try.sizeOf27 (len_cu8 hs) (by first | exact one_u8 | exact one_u32 | exact one_u64 | (simp [cu8, cu32, cu64, Value.oneCell']; done)) (by simp [(zr8_len 16)]) (lay_whole (by simp [(zr8_len 16), hs]))) rfl ?_
        rintro v1 L1 ⟨rfl, rfl⟩
        show JL _ _ _ _ _ [⟨nb1, cu8 s, 27, (0, 0)⟩, ⟨nb2, cu8 s, 27, (0, 0)⟩]
        refine JL_nil ?_
        refine JQ_then ?_
        refine JC_ret ?_
        refine JQ_ret (.agg (cu8 s).toArray) (res1 Try.results32 (RV_cell rfl (Ld_agg Try.isAgg27 Try.sizeOf27 (len_cu8 hs) (MemAt.ent 1 rfl (Seg.whole _))))) fun w1 hw1 => ?_
        have e1 : k = 8 := by omega
        have e2 : j = 8 := by omega
        subst e1; subst e2
        have e3 := congrArg Prod.fst hx2
        have e4 := congrArg Prod.snd hx2
        dsimp only at e3 e4
        have e5 : s = rnextL c n := by rw [rnextL, ← e3, ← e4, if_pos (of_decide_eq_true hb2), ← hy2]
        rw [e5]
        exact ⟨_, [], rfl, ⟨rfl, rfl⟩, hw1.sub (by simp) (by simp)⟩
    ·
      have hp2 : ¬ ((lo + n) < lo) := of_decide_eq_false hb2
      refine JC_skip ?_
      refine JQ_then ?_
      refine JC_seq ?_
      refine JC_region ?_
      refine JL_val _ (Ev_move rfl) rfl ?_
      refine JL_val _ (Ev_move rfl) rfl ?_
      refine JL_val (U64 (lo + n)) (Ev_bini rfl rfl fun _ => bin_add_u64 lo n) rfl ?_
      refine JL_val _ (Ev_assign rfl) rfl ?_
      refine JL_nil ?_
      refine JQ_then ?_
      refine JC_seq ?_
      refine JC_seq ?_
      refine JC_region ?_
      refine JL_val _ (Ev_assign rfl) rfl ?_
      refine JL_nil ?_
      refine JQ_then ?_
      refine JC_block ?_
      refine JC_loop (ι := Nat × List UInt8 × UInt64 × UInt64) (fun ⟨j, s, lo2, hi2⟩ => [(2, Ptr nb1 0), (4, Ptr nb2 0), (5, U64 lo2), (6, U64 hi2), (8, I64 (-(j:Int) + 7))]) (fun ⟨j, s, lo2, hi2⟩ => [⟨nb1, cu8 s, 27, (0, 0)⟩, ⟨nb2, cu8 (zr8 16), 27, (0, 0)⟩]) (fun ⟨j, s, lo2, hi2⟩ => j ≤ 8 ∧ (s, lo2, hi2) = rwN c (lo + n) hi j ∧ s.length = 16) (fun ⟨j, s, lo2, hi2⟩ => 8 - j) (0, c, lo + n, hi) ⟨by omega, rfl, hc⟩ (Sub.cons rfl (Sub.cons rfl (Sub.cons rfl (Sub.cons rfl (Sub.cons rfl (Sub.nil)))))) rfl ?_
      rintro ⟨j, s, lo2, hi2⟩ ⟨hy1, hy2, hs⟩
      show JC _ _ _ [(2, Ptr nb1 0), (4, Ptr nb2 0), (5, U64 lo2), (6, U64 hi2), (8, I64 (-(j:Int) + 7))] [⟨nb1, cu8 s, 27, (0, 0)⟩, ⟨nb2, cu8 (zr8 16), 27, (0, 0)⟩]
      refine JC_seq ?_
      refine JC_seq ?_
      refine JC_region ?_
      refine JL_val _ (Ev_move rfl) rfl ?_
      refine JL_val (.bool (decide ((0:Int) ≤ (-(j:Int) + 7)))) (Ev_bini rfl rfl fun _ => bin_geq_i _ _) rfl ?_
      refine JL_nil ?_
      refine JQ_then ?_
      refine JC_cond (decide ((0:Int) ≤ (-(j:Int) + 7))) rfl (fun hb4 => ?_) (fun hb4 => ?_)
      ·
        have hp4 : (0:Int) ≤ (-(j:Int) + 7) := of_decide_eq_true hb4
        refine JC_skip ?_
        refine JQ_then ?_
        refine JC_seq ?_
        refine JC_block ?_
        refine JC_seq ?_
        refine JC_region ?_
        refine JL_val _ (Ev_move rfl) rfl ?_
        refine JL_val _ (Ev_move rfl) rfl ?_
        refine JL_val (U8 hi2.toUInt8) (Ev_conv _ _ rfl fun _ => conv_u64_u8 (by rw [Try.underlying44]; rfl) Try.underlying5 _) rfl ?_
        refine JL_val (Ptr nb1 (7 - j)) (Ev_indexArr 16 5 1 (7 - j) Try.underlying27 Try.sizeOf5 rfl rfl (by omega) (by omega) (by omega)) rfl ?_
        have hl3 : (s.set (7 - j) hi2.toUInt8).length = 16 := by simp [hs]
        refine JL_step (Step_store 0 nb1 (7 - j) 1 (cu8 s) 27 (U8 hi2.toUInt8) ([U8 hi2.toUInt8]) (cu8 (s.set (7 - j) hi2.toUInt8)) rfl rfl rfl rfl Try.sizeOf5 rfl (by simp [Value.oneCell']) (by simp [hs]; try omega) (lay8 _ _ _ (by rw [hs]; omega))) rfl ?_
        rintro v1 L1 ⟨rfl, rfl⟩
        show JL _ _ _ _ _ [⟨nb1, cu8 (s.set (7 - j) hi2.toUInt8), 27, (0, 0)⟩, ⟨nb2, cu8 (zr8 16), 27, (0, 0)⟩]
        refine JL_nil ?_
        refine JQ_then ?_
        refine JC_seq ?_
        refine JC_region ?_
        refine JL_val _ (Ev_move rfl) rfl ?_
        refine JL_val (I64 (-(j:Int) + 15)) (Ev_bini rfl rfl fun _ => bin_add_i _ _ (-(j:Int) + 15) (by omega) (by omega)) rfl ?_
        refine JL_val _ (Ev_move rfl) rfl ?_
        refine JL_val (U8 lo2.toUInt8) (Ev_conv _ _ rfl fun _ => conv_u64_u8 (by rw [Try.underlying44]; rfl) Try.underlying5 _) rfl ?_
        refine JL_val (Ptr nb1 (15 - j)) (Ev_indexArr 16 5 1 (15 - j) Try.underlying27 Try.sizeOf5 rfl rfl (by omega) (by omega) (by omega)) rfl ?_
        have hl4 : ((s.set (7 - j) hi2.toUInt8).set (15 - j) lo2.toUInt8).length = 16 := by simp [hl3]
        refine JL_step (Step_store 0 nb1 (15 - j) 1 (cu8 (s.set (7 - j) hi2.toUInt8)) 27 (U8 lo2.toUInt8) ([U8 lo2.toUInt8]) (cu8 ((s.set (7 - j) hi2.toUInt8).set (15 - j) lo2.toUInt8)) rfl rfl rfl rfl Try.sizeOf5 rfl (by simp [Value.oneCell']) (by simp [hl3]; try omega) (lay8 _ _ _ (by rw [hl3]; omega))) rfl ?_
        rintro v1 L1 ⟨rfl, rfl⟩
        show JL _ _ _ _ _ [⟨nb1, cu8 ((s.set (7 - j) hi2.toUInt8).set (15 - j) lo2.toUInt8), 27, (0, 0)⟩, ⟨nb2, cu8 (zr8 16), 27, (0, 0)⟩]
        refine JL_nil ?_
        refine JQ_then ?_
        refine JC_seq ?_
        refine JC_region ?_
        refine JL_val _ (Ev_move rfl) rfl ?_
        refine JL_val (U64 (hi2 / (256:UInt64))) (Ev_bini rfl rfl fun _ => bin_quo_u64 hi2 (256:UInt64) (by decide)) rfl ?_
        refine JL_val _ (Ev_assign rfl) rfl ?_
        refine JL_nil ?_
        refine JQ_then ?_
        refine JC_region ?_
        refine JL_val _ (Ev_move rfl) rfl ?_
        refine JL_val (U64 (lo2 / (256:UInt64))) (Ev_bini rfl rfl fun _ => bin_quo_u64 lo2 (256:UInt64) (by decide)) rfl ?_
        refine JL_val _ (Ev_assign rfl) rfl ?_
        refine JL_nil ?_
        refine JQ_in_normal ?_
        refine JQ_then ?_
        refine JC_region ?_
        refine JL_val _ (Ev_move rfl) rfl ?_
        refine JL_val (I64 (-(j:Int) + 6)) (Ev_bini rfl rfl fun _ => bin_sub_i _ _ (-(j:Int) + 6) (by omega) (by omega)) rfl ?_
        refine JL_val _ (Ev_assign rfl) rfl ?_
        refine JL_nil ?_
        refine JQ_thenK ?_
        refine K_next (j + 1, (s.set (7 - j) hi2.toUInt8).set (15 - j) lo2.toUInt8, lo2 / (256:UInt64), hi2 / (256:UInt64)) ⟨by omega, by rw [rwN, ← hy2], hl4⟩ (by first | (simp; omega) | simp) (Sub.cons rfl (Sub.cons rfl (Sub.cons rfl (Sub.cons rfl (Sub.cons (some_i64 (by omega)) (Sub.nil)))))) rfl
      ·
        have hp4 : ¬ ((0:Int) ≤ (-(j:Int) + 7)) := of_decide_eq_false hb4
        refine JC_exit ?_
        refine JQ_then_exit ?_
        refine JQ_then_exit ?_
        refine JQ_in_same ?_
        refine JQ_then ?_
        refine JC_seq ?_
        refine JC_region ?_
        refine JL_val (.agg (cu8 s).toArray) (Ev_load rfl (Ld_agg Try.isAgg27 Try.sizeOf27 (len_cu8 hs) (MemAt.ent 0 rfl (Seg.whole _)))) rfl ?_
        refine JL_step (Step_store 1 nb2 0 16 (cu8 (zr8 16)) 27 (.agg (cu8 s).toArray) (cu8 s) (cu8 s) rfl rfl rfl (by first | rfl | simp) Try.sizeOf27 (len_cu8 hs) (by first | exact one_u8 | exact one_u32 | exact one_u64 | (simp [cu8, cu32, cu64, Value.oneCell']; done)) (by simp [(zr8_len 16)]) (lay_whole (by simp [(zr8_len 16), hs]))) rfl ?_
        rintro v1 L1 ⟨rfl, rfl⟩
        show JL _ _ _ _ _ [⟨nb1, cu8 s, 27, (0, 0)⟩, ⟨nb2, cu8 s, 27, (0, 0)⟩]
        refine JL_nil ?_
        refine JQ_then ?_
        refine JC_ret ?_
        refine JQ_ret (.agg (cu8 s).toArray) (res1 Try.results32 (RV_cell rfl (Ld_agg Try.isAgg27 Try.sizeOf27 (len_cu8 hs) (MemAt.ent 1 rfl (Seg.whole _))))) fun w1 hw1 => ?_
        have e1 : k = 8 := by omega
        have e2 : j = 8 := by omega
        subst e1; subst e2
        have e3 := congrArg Prod.fst hx2
        have e4 := congrArg Prod.snd hx2
        dsimp only at e3 e4
        have e5 : s = rnextL c n := by rw [rnextL, ← e3, ← e4, if_neg (of_decide_eq_false hb2), ← hy2]
        rw [e5]
        exact ⟨_, [], rfl, ⟨rfl, rfl⟩, hw1.sub (by simp) (by simp)⟩

def CiphM (w : World) (M : List Nat) (po : Option Addr) (ks : List UInt8) : Prop :=
  (po = none ∧ ks = rkL (zr8 16)) ∨ ∃ c, po = some ⟨c, 0, none⟩ ∧ c < w.heap.size ∧ c ∉ M ∧ ks.length = 176 ∧ w.heap[c]? = some (.cells (cu8 ks ++ cu8 thereL ++ cu8 backL).toArray 106 (0, 0))
def rbOf : Option Addr → List Nat
  | none => []
  | some a => [a.block]
theorem CiphM.len {w : World} {M : List Nat} {po : Option Addr} {ks : List UInt8} (h : CiphM w M po ks) : ks.length = 176 := by
  rcases h with ⟨_, rfl⟩ | ⟨c, _, _, _, h, _⟩
  · exact rkL_len _ (zr8_len 16)
  · exact h
theorem CiphM.at {C : Cx} {L : List Ent} {w : World} {M : List Nat} {po : Option Addr} {ks : List UInt8} (hw : Hp C.w0 C.M L w) (h : CiphM C.w0 C.M po ks) (hM : ∀ b, b < C.w0.heap.size → b ∉ C.M → b ∉ M := by simp) : CiphM w M po ks := by
  rcases h with h | ⟨c, h1, h2, h3, h4, h5⟩
  · exact .inl h
  · exact .inr ⟨c, h1, Nat.lt_of_lt_of_le h2 hw.le, hM c h2 h3, h4, hw.heap h5 h3⟩
theorem CiphM.rb {w W : World} {M M' : List Nat} {po : Option Addr} {ks : List UInt8} {l : Nat} (h : CiphM w M po ks) (hR : ∀ b ∈ rbOf po, b ∉ M' ∧ W.heap[b]? = w.heap[b]? ∧ b ≠ l) : CiphM W M' po ks := by
  rcases h with h | ⟨c, rfl, h2, h3, h4, h5⟩
  · exact .inl h
  · obtain ⟨h6, h7, _⟩ := hR c (by simp [rbOf])
    exact .inr ⟨c, rfl, (Array.getElem?_eq_some_iff.1 (h7.trans h5)).1, h6, h4, h7.trans h5⟩
theorem CiphM.rbM {w : World} {M : List Nat} {po : Option Addr} {ks : List UInt8} (h : CiphM w M po ks) : ∀ b ∈ rbOf po, b < w.heap.size ∧ b ∉ M := by
  rcases h with ⟨rfl, _⟩ | ⟨c, rfl, h2, h3, _, _⟩
  · intro b hb; simp [rbOf] at hb
  · intro b hb; simp [rbOf] at hb; subst hb; exact ⟨h2, h3⟩
theorem encG_c (po : Option Addr) (ks b : List UInt8) (w : World) (hb : b.length = 16) (hC : CiphM w [] po ks) : Calls Try.prog 27 #[.pointer po, .agg (cu8 b).toArray] w (Post w [] (fun v L => v = .agg (cu8 (encL ks b)).toArray ∧ L = [])) := by
  rcases hC with ⟨rfl, rfl⟩ | ⟨c, rfl, h2, h3, h4, h5⟩
  · exact encnil_c b w hb
  · exact enc_c c ks b w hb h4 h5

theorem blocks_c (po : Option Addr) (c : List UInt8) (w : World) (hc : c.length = 16) : Calls Try.prog 34 #[.pointer po, .agg (cu8 c).toArray] w (Post w [] (fun v L => ∃ b1 b2, v = .func (.func 78) #[] #[Ptr b1 0, Ptr b2 0] ∧ L = [⟨b1, [.pointer po], 32, (0, 0)⟩, ⟨b2, cu8 c, 27, (0, 0)⟩])) := by
  refine enter w [] 6 [] [.pointer po, .agg (cu8 c).toArray] Try.func34 rfl rfl (by simp) (Hp.start (by simp) (by simp) (by simp)) ?_
  show JC _ _ _ [(0, .pointer po), (1, .agg (cu8 c).toArray)] _
  refine JC_seq ?_
  refine JC_region ?_
  refine JL_step (Step_box (.pointer po) ([.pointer po]) rfl rfl) rfl ?_
  rintro v1 L1 ⟨nb1, hnb1, rfl, rfl⟩
  show JL _ _ _ _ ((2, Ptr nb1 0) :: _) [⟨nb1, [.pointer po], 32, (0, 0)⟩]
  refine JL_step (Step_box (.agg (cu8 c).toArray) (cu8 c) rfl (by first | rfl | simp)) rfl ?_
  rintro v1 L1 ⟨nb2, hnb2, rfl, rfl⟩
  show JL _ _ _ _ ((3, Ptr nb2 0) :: _) [⟨nb1, [.pointer po], 32, (0, 0)⟩, ⟨nb2, cu8 c, 27, (0, 0)⟩]
  refine JL_val _ (Ev_assign rfl) rfl ?_
  refine JL_nil ?_
  refine JQ_then ?_
  refine JC_seq ?_
  refine JC_region ?_
  refine JL_val (.func (.func 78) #[] #[Ptr nb1 0, Ptr nb2 0]) (Ev_makeFunc (vs := [Ptr nb1 0, Ptr nb2 0]) rfl (fun _ _ => rfl)) rfl ?_
  refine JL_val _ (Ev_assign rfl) rfl ?_
  refine JL_nil ?_
  refine JQ_then ?_
  refine JC_ret ?_
  refine JQ_ret (.func (.func 78) #[] #[Ptr nb1 0, Ptr nb2 0]) (res1 Try.results34 (RV_tmp rfl)) fun w1 hw1 => ?_
  exact ⟨_, _, rfl, ⟨nb1, nb2, rfl, rfl⟩, hw1⟩

theorem blocks_it (b1 b2 : Nat) (po : Option Addr) (ks c : List UInt8) (w0 : World) (hc : c.length = 16) (hC : CiphM w0 [] po ks) : Iter Try.prog 78 #[Ptr b1 0, Ptr b2 0] [⟨b1, [.pointer po], 32, (0, 0)⟩, ⟨b2, cu8 c, 27, (0, 0)⟩] (rbOf po) w0 (fun _ => True) (fun _ => False) (fun k => .agg (cu8 (encL ks (ctrN c k))).toArray) := by
  intro l B W S X S0 hS0 hW hl0 hlM hRb hY
  refine enterI W ((([⟨b1, [.pointer po], 32, (0, 0)⟩, ⟨b2, cu8 c, 27, (0, 0)⟩] : List Ent) ++ S0).map Ent.b) 11 ([⟨b1, [.pointer po], 32, (0, 0)⟩, ⟨b2, cu8 c, 27, (0, 0)⟩] ++ S0) [.func (.yield l) #[] #[], Ptr b1 0, Ptr b2 0] Try.func78 rfl rfl (by simp) hW ?_
  have hC2 : CiphM W ((([⟨b1, [.pointer po], 32, (0, 0)⟩, ⟨b2, cu8 c, 27, (0, 0)⟩] : List Ent) ++ S0).map Ent.b) po ks := hC.rb hRb
  show JC _ _ _ [(0, .func (.yield l) #[] #[]), (1, Ptr b1 0), (2, Ptr b2 0)] ([⟨b1, [.pointer po], 32, (0, 0)⟩, ⟨b2, cu8 c, 27, (0, 0)⟩] ++ S0)
  refine JC_block ?_
  refine JC_loop (ι := Nat × List Ent) (fun ⟨k, Sk⟩ => [(0, .func (.yield l) #[] #[]), (1, Ptr b1 0), (2, Ptr b2 0)]) (fun ⟨k, Sk⟩ => [⟨b1, [.pointer po], 32, (0, 0)⟩, ⟨b2, cu8 (ctrN c k), 27, (0, 0)⟩] ++ Sk) (fun ⟨k, Sk⟩ => k ≤ B ∧ S k Sk) (fun ⟨k, Sk⟩ => B - k) (0, S0) ⟨by omega, hS0⟩ (Sub.cons rfl (Sub.cons rfl (Sub.cons rfl (Sub.nil)))) rfl ?_
  rintro ⟨k, Sk⟩ ⟨hx1, hx2⟩
  show JC _ _ _ [(0, .func (.yield l) #[] #[]), (1, Ptr b1 0), (2, Ptr b2 0)] ([⟨b1, [.pointer po], 32, (0, 0)⟩, ⟨b2, cu8 (ctrN c k), 27, (0, 0)⟩] ++ Sk)
  refine JC_seq ?_
  refine JC_seq ?_
  refine JC_region ?_
  refine JL_val _ (Ev_move rfl) rfl ?_
  refine JL_val (.pointer po) (Ev_load rfl (Ld_one Try.isAgg32 (MemAt.ent 0 rfl (Seg.head)))) rfl ?_
  refine JL_val (.agg (cu8 (ctrN c k)).toArray) (Ev_load rfl (Ld_agg Try.isAgg27 Try.sizeOf27 (len_cu8 (ctrN_len hc k)) (MemAt.ent 1 rfl (Seg.whole _)))) rfl ?_
  refine JL_step (Step_callP 27 [.pointer po, .agg (cu8 (ctrN c k)).toArray] (.agg (cu8 (encL ks (ctrN c k))).toArray) (Cl_func [.pointer po, .agg (cu8 (ctrN c k)).toArray] Try.call27 rfl) (fun w1 hw1 => encG_c po ks (ctrN c k) w1 (ctrN_len hc k) (hC2.at hw1))) rfl ?_
  rintro v1 L1 ⟨rfl, rfl⟩
  show JL _ _ _ _ ((7, .agg (cu8 (encL ks (ctrN c k))).toArray) :: _) ([⟨b1, [.pointer po], 32, (0, 0)⟩, ⟨b2, cu8 (ctrN c k), 27, (0, 0)⟩] ++ Sk)
  refine JL_yield l [.agg (cu8 (encL ks (ctrN c k))).toArray] [⟨b1, [.pointer po], 32, (0, 0)⟩, ⟨b2, cu8 (ctrN c k), 27, (0, 0)⟩] Sk (fun L' => k + 1 ≤ B ∧ S (k + 1) L') (X k) rfl rfl rfl hl0 hlM rfl (fun w1 hw1 => hY k Sk w1 trivial hx1 hx2 (hw1.right)) ?_ ?_
  ·
    intro L1 ⟨hn1, hn2⟩
    show JL _ _ _ _ ((8, .bool true) :: _) ([⟨b1, [.pointer po], 32, (0, 0)⟩, ⟨b2, cu8 (ctrN c k), 27, (0, 0)⟩] ++ L1)
    refine JL_nil ?_
    refine JQ_then ?_
    refine JC_condT _ rfl rfl ?_
    refine JC_skip ?_
    refine JQ_then ?_
    refine JC_block ?_
    refine JC_region ?_
    refine JL_val (.agg (cu8 (ctrN c k)).toArray) (Ev_load rfl (Ld_agg Try.isAgg27 Try.sizeOf27 (len_cu8 (ctrN_len hc k)) (MemAt.ent 1 rfl (Seg.whole _)))) rfl ?_
    refine JL_step (Step_callP 31 [.agg (cu8 (ctrN c k)).toArray, U64 (1:UInt64)] (.agg (cu8 (nextL (ctrN c k) (1:UInt64))).toArray) (Cl_func [.agg (cu8 (ctrN c k)).toArray, U64 (1:UInt64)] Try.call31 rfl) (fun w1 hw1 => next_c (ctrN c k) (1:UInt64) w1 (ctrN_len hc k))) rfl ?_
    rintro v1 L1 ⟨rfl, rfl⟩
    show JL _ _ _ _ ((10, .agg (cu8 (nextL (ctrN c k) (1:UInt64))).toArray) :: _) ([⟨b1, [.pointer po], 32, (0, 0)⟩, ⟨b2, cu8 (ctrN c k), 27, (0, 0)⟩] ++ L1)
    refine JL_step (Step_store 1 b2 0 16 (cu8 (ctrN c k)) 27 (.agg (cu8 (nextL (ctrN c k) (1:UInt64))).toArray) (cu8 (nextL (ctrN c k) (1:UInt64))) (cu8 (nextL (ctrN c k) (1:UInt64))) rfl rfl rfl (by first | rfl | simp) Try.sizeOf27 (len_cu8 (nextL_len (ctrN_len hc k))) (by first | exact one_u8 | exact one_u32 | exact one_u64 | (simp [cu8, cu32, cu64, Value.oneCell']; done)) (by simp [(ctrN_len hc k)]) (lay_whole (by simp [(ctrN_len hc k), (nextL_len (ctrN_len hc k))]))) rfl ?_
    rintro v1 L1 ⟨rfl, rfl⟩
    show JL _ _ _ _ _ ([⟨b1, [.pointer po], 32, (0, 0)⟩, ⟨b2, cu8 (nextL (ctrN c k) (1:UInt64)), 27, (0, 0)⟩] ++ L1)
    refine JL_nil ?_
    refine JQ_in_normal ?_
    refine JQ_thenK ?_
    refine K_next (k + 1, L1) ⟨hn1, hn2⟩ (by first | (simp; omega) | simp) (Sub.cons rfl (Sub.cons rfl (Sub.cons rfl (Sub.nil)))) rfl
  ·
    intro L1 o1 hx9
    show JL _ _ _ _ ((8, .bool false) :: _) ([⟨b1, [.pointer po], 32, (0, 0)⟩, ⟨b2, cu8 (ctrN c k), 27, (0, 0)⟩] ++ L1)
    refine JL_nil ?_
    refine JQ_then ?_
    refine JC_condF _ rfl rfl ?_
    refine JC_exit ?_
    refine JQ_then_exit ?_
    refine JQ_then_exit ?_
    refine JQ_in_same ?_
    refine JQ_endM0 (.tuple #[]) (res0 Try.results78 ) (fun w1 hw1 => ?_)
    exact ⟨⟨_, rfl⟩, .inr ⟨k, L1, o1, trivial, hx9, hw1.right⟩⟩

end Go.Proofs.Ytncoifiafklkjaa
