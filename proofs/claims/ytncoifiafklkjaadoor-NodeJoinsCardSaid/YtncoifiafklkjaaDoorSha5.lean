import Derived.Test.YtncoifiafklkjaaDoorSha4
import Derived.Test.YtncoifiafklkjaaDoorSxS
namespace Go.Proofs.YtncoifiafklkjaaDoor
open Go Go.Sx
set_option linter.unusedVariables false
set_option linter.unusedSimpArgs false
set_option maxRecDepth 100000
attribute [local irreducible] mid zr8 zr32 rotr wordL spreadL comprL cpN adN spN wrdN constL initL padL stN outN routN hashL sumG
theorem str_dec (x y : List UInt8) : decide ((⟨x.toArray⟩ : ByteArray) = ⟨y.toArray⟩) = decide (x = y) := by
  rw [Bool.eq_iff_iff]; simp

theorem bytes_c (a1 a2 : Option Addr) (n1 n2 c1 c2 : Nat) (x y : List UInt8) (w : World) (hx : x.length = n1) (hy : y.length = n2) (h1 : RdB w [] a1 x) (h2 : RdB w [] a2 y) : Calls Tryd.prog 25 #[.slice a1 n1 c1, .slice a2 n2 c2] w (Post w [] (fun v L => v = .bool (decide (x = y)) ∧ L = [])) := by
  refine enter w [] 10 [] [.slice a1 n1 c1, .slice a2 n2 c2] Tryd.func25 rfl rfl (by simp) (Hp.start (by simp) (by simp) (by simp)) ?_
  show JC _ _ _ [(0, .slice a1 n1 c1), (1, .slice a2 n2 c2)] _
  refine JC_seq ?_
  refine JC_region ?_
  refine JL_val _ (Ev_assign rfl) rfl ?_
  refine JL_nil ?_
  refine JQ_then ?_
  refine JC_seq ?_
  refine JC_region ?_
  refine JL_val _ (Ev_move rfl) rfl ?_
  refine JL_val (.string (⟨x.toArray⟩ : ByteArray)) (Ev_toStr 5 a1 n1 c1 x Tryd.underlying22 Tryd.underlying5 Tryd.underlying9 rfl (by simp [hx]; try omega) (h1.src)) rfl ?_
  refine JL_val _ (Ev_move rfl) rfl ?_
  refine JL_val (.string (⟨y.toArray⟩ : ByteArray)) (Ev_toStr 5 a2 n2 c2 y Tryd.underlying22 Tryd.underlying5 Tryd.underlying9 rfl (by simp [hy]; try omega) (h2.src)) rfl ?_
  refine JL_val (.bool (decide (x = y))) (Ev_bin _ _ _ rfl rfl (fun _ => eqGuard_str ..) fun _ => eql_str) rfl ?_
  refine JL_val _ (Ev_assign rfl) rfl ?_
  refine JL_nil ?_
  refine JQ_then ?_
  refine JC_ret ?_
  refine JQ_ret (.bool (decide (x = y))) (res1 Tryd.results25 (RV_tmp rfl)) fun w1 hw1 => ?_
  refine ⟨_, [], rfl, ⟨?_, rfl⟩, hw1.sub (by simp) (by simp)⟩
  rfl

theorem rsum_c (ao : Option Addr) (n cb : Nat) (b : List UInt8) (w : World) (hb : b.length = n) (hn : n ≤ 17592186044416) (hr : RdB w [] ao b) (hGr : GLr w) (hGi : GLi w) : Calls Tryd.prog 24 #[.slice ao n cb] w (Post w [] (fun v L => v = .agg (cu8 (sumG constL initL b)).toArray ∧ L = [])) := by
  have hpm := pad_mod b
  have hmx : maxLen ≤ 9223372036854775807 := by unfold maxLen; omega
  refine enter w [] 42 [] [.slice ao n cb] Tryd.func24 rfl rfl (by simp) (Hp.start (by simp) (by simp) (by simp)) ?_
  show JC _ _ _ [(0, .slice ao n cb)] _
  refine JC_seq ?_
  refine JC_region ?_
  refine JL_step (Step_alloc _ (cu8 (zr8 32)) Tryd.zeroValue25 (by kernel_rfl)) rfl ?_
  rintro v1 L1 ⟨nb1, hnb1, rfl, rfl⟩
  show JL _ _ _ _ ((2, Ptr nb1 0) :: _) [⟨nb1, cu8 (zr8 32), 25, (0, 0)⟩]
  refine JL_nil ?_
  refine JQ_then ?_
  refine JC_seq ?_
  refine JC_region ?_
  refine JL_val _ (Ev_move rfl) rfl ?_
  refine JL_step (Step_callN 27 [.slice ao n cb] _ (Cl_func [.slice ao n cb] Tryd.call27 rfl) (fun w1 hw1 => rpad_c ao n cb b w1 hb (by omega) (hr.at (M' := []) hw1 (by simp)))) rfl ?_
  rintro v1 L1 ⟨_, ⟨nb2, sp1, cp1, rfl, rfl, hc1, hc2, hc3⟩, rfl⟩
  show JL _ _ _ _ ((9, Slc nb2 0 ((padL b).length) cp1) :: _) [⟨nb1, cu8 (zr8 32), 25, (0, 0)⟩, ⟨nb2, cu8 (padL b) ++ sp1, 5, (0, 0)⟩]
  refine JL_val _ (Ev_assign rfl) rfl ?_
  refine JL_nil ?_
  refine JQ_then ?_
  refine JC_seq ?_
  refine JC_region ?_
  refine JL_val (.agg (cu32 initL).toArray) (Ev_load rfl (Ld_agg Tryd.isAgg31 Tryd.sizeOf31 (len_cu32 initL_len) (MemAt.seg ((id hGi : RdA w 1 0 (cu32 initL)).mem (by simp)) (Seg.whole _) (by omega)))) rfl ?_
  refine JL_step (Step_alloc _ (cu32 (zr32 8)) Tryd.zeroValue31 (by kernel_rfl)) rfl ?_
  rintro v1 L1 ⟨nb3, hnb3, rfl, rfl⟩
  show JL _ _ _ _ ((4, Ptr nb3 0) :: _) [⟨nb1, cu8 (zr8 32), 25, (0, 0)⟩, ⟨nb2, cu8 (padL b) ++ sp1, 5, (0, 0)⟩, ⟨nb3, cu32 (zr32 8), 31, (0, 0)⟩]
  refine JL_step (Step_store 2 nb3 0 8 (cu32 (zr32 8)) 31 (.agg (cu32 initL).toArray) (cu32 initL) (cu32 initL) rfl rfl rfl (by first | rfl | simp) Tryd.sizeOf31 (len_cu32 initL_len) (by first | exact one_u8 | exact one_u32 | exact one_u64 | (simp [cu8, cu32, cu64, Value.oneCell']; done)) (by simp [(zr32_len 8)]) (lay_whole (by simp [(zr32_len 8), initL_len]))) rfl ?_
  rintro v1 L1 ⟨rfl, rfl⟩
  show JL _ _ _ _ _ [⟨nb1, cu8 (zr8 32), 25, (0, 0)⟩, ⟨nb2, cu8 (padL b) ++ sp1, 5, (0, 0)⟩, ⟨nb3, cu32 initL, 31, (0, 0)⟩]
  refine JL_nil ?_
  refine JQ_then ?_
  refine JC_seq ?_
  refine JC_seq ?_
  refine JC_region ?_
  refine JL_val _ (Ev_assign rfl) rfl ?_
  refine JL_nil ?_
  refine JQ_then ?_
  refine JC_block ?_
  refine JC_loop (ι := Nat × List UInt32) (fun ⟨k, s⟩ => [(2, Ptr nb1 0), (3, Slc nb2 0 ((padL b).length) cp1), (4, Ptr nb3 0), (5, I64 (64*(k:Int)))]) (fun ⟨k, s⟩ => [⟨nb1, cu8 (zr8 32), 25, (0, 0)⟩, ⟨nb2, cu8 (padL b) ++ sp1, 5, (0, 0)⟩, ⟨nb3, cu32 s, 31, (0, 0)⟩]) (fun ⟨k, s⟩ => 64*k ≤ (padL b).length ∧ s = stN constL initL (padL b) k ∧ s.length = 8) (fun ⟨k, s⟩ => (padL b).length - k) (0, initL) ⟨by omega, by rw [stN], initL_len⟩ (Sub.cons rfl (Sub.cons rfl (Sub.cons rfl (Sub.cons rfl (Sub.nil))))) rfl ?_
  rintro ⟨k, s⟩ ⟨hx1, hx2, hs⟩
  show JC _ _ _ [(2, Ptr nb1 0), (3, Slc nb2 0 ((padL b).length) cp1), (4, Ptr nb3 0), (5, I64 (64*(k:Int)))] [⟨nb1, cu8 (zr8 32), 25, (0, 0)⟩, ⟨nb2, cu8 (padL b) ++ sp1, 5, (0, 0)⟩, ⟨nb3, cu32 s, 31, (0, 0)⟩]
  refine JC_seq ?_
  refine JC_seq ?_
  refine JC_region ?_
  refine JL_val _ (Ev_move rfl) rfl ?_
  refine JL_val _ (Ev_move rfl) rfl ?_
  refine JL_val (I64 (((padL b).length:Int))) (Ev_len Tryd.underlying22 rfl) rfl ?_
  refine JL_val (.bool (decide ((64*(k:Int)) < (((padL b).length:Int))))) (Ev_bini rfl rfl fun _ => bin_lss_i _ _) rfl ?_
  refine JL_nil ?_
  refine JQ_then ?_
  refine JC_cond (decide ((64*(k:Int)) < (((padL b).length:Int)))) rfl (fun hb1 => ?_) (fun hb1 => ?_)
  ·
    have hp1 : (64*(k:Int)) < (((padL b).length:Int)) := of_decide_eq_true hb1
    refine JC_skip ?_
    refine JQ_then ?_
    refine JC_seq ?_
    refine JC_block ?_
    refine JC_draw 42 3 [(0, .agg (cu32 s).toArray), (1, Slc nb2 0 ((padL b).length) cp1), (2, I64 (64*(k:Int))), (3, I64 (64*(k:Int))), (4, I64 (64*(k:Int) + 64)), (5, Slc nb2 (64*k) 64 (cp1 - 64*k))] Tryd.mixed rfl (by decide +kernel) ?_
    have hl1 : (mid (padL b) (64*k) 64).length = 64 := mid_len (by rw [(rfl : (padL b).length = _)]; omega)
    refine DP_one ⟨[], [0, 1, 2, 3, 4, 5], [], [0, 1, 2, 3, 4, 5], [6]⟩ 6 _ rfl rfl (by decide +kernel) rfl ⟨⟨_, rfl, Qok_val rfl (Ev_load rfl (Ld_agg Tryd.isAgg31 Tryd.sizeOf31 (len_cu32 hs) (MemAt.ent 2 rfl (Seg.whole _))))⟩, ⟨_, rfl, Qok_val rfl (Ev_move rfl)⟩, ⟨_, rfl, Qok_val rfl (Ev_move rfl)⟩, ⟨_, rfl, Qok_val rfl (Ev_move rfl)⟩, ⟨_, rfl, Qok_val rfl (Ev_bini rfl rfl fun _ => bin_add_i _ _ (64*(k:Int) + 64) (by omega) (by omega))⟩, ⟨_, rfl, Qok_val rfl (Ev_slice 5 1 (64*k) (64*k + 64) (64*k) (cp1 - 64*k) Tryd.underlying22 Tryd.sizeOf5 rfl (some_i64 (by omega)) (some_i64 (by omega)) (by omega) (by omega) (by omega) (by omega) (by omega) 64 (by omega))⟩, trivial⟩ rfl (Cok_step rfl (Step_callP 29 [.agg (cu32 s).toArray, Slc nb2 (64*k) 64 (cp1 - 64*k)] (.agg (cu32 (comprL constL s (mid (padL b) (64*k) 64))).toArray) (Cl_func [.agg (cu32 s).toArray, Slc nb2 (64*k) 64 (cp1 - 64*k)] Tryd.call29 rfl) (fun w1 hw1 => rcompress_c s (some ⟨nb2, (64*k), none⟩) (cp1 - 64*k) (mid (padL b) (64*k) 64) w1 hs hl1 (RdB.of hw1 (MemAt.ent 1 rfl (Seg.left (segm_u8 (64*k) 64 (by rw [(rfl : (padL b).length = _)]; omega)))) (by simp)) (GLr.at hw1 hGr)))) ?_
    rintro v1 L1 ⟨rfl, rfl⟩
    refine ⟨[], ?_⟩
    show DP _ _ _ _ _ _ _ _ [⟨nb1, cu8 (zr8 32), 25, (0, 0)⟩, ⟨nb2, cu8 (padL b) ++ sp1, 5, (0, 0)⟩, ⟨nb3, cu32 s, 31, (0, 0)⟩]
    refine DP_one ⟨[6], [0, 1, 2, 3, 4, 5], [0, 1, 2, 3, 4, 5], [], [7]⟩ 7 _ rfl rfl (by decide +kernel) rfl trivial rfl (Cok_step rfl (Step_store 2 nb3 0 8 (cu32 s) 31 (.agg (cu32 (comprL constL s (mid (padL b) (64*k) 64))).toArray) (cu32 (comprL constL s (mid (padL b) (64*k) 64))) (cu32 (comprL constL s (mid (padL b) (64*k) 64))) rfl rfl rfl (by first | rfl | simp) Tryd.sizeOf31 (len_cu32 (comprL_len hs)) (by first | exact one_u8 | exact one_u32 | exact one_u64 | (simp [cu8, cu32, cu64, Value.oneCell']; done)) (by simp [hs]) (lay_whole (by simp [hs, (comprL_len hs)])))) ?_
    rintro v1 L1 ⟨rfl, rfl⟩
    refine ⟨[], ?_⟩
    show DP _ _ _ _ _ _ _ _ [⟨nb1, cu8 (zr8 32), 25, (0, 0)⟩, ⟨nb2, cu8 (padL b) ++ sp1, 5, (0, 0)⟩, ⟨nb3, cu32 (comprL constL s (mid (padL b) (64*k) 64)), 31, (0, 0)⟩]
    refine DP_end ⟨[6, 7], [0, 1, 2, 3, 4, 5], [0, 1, 2, 3, 4, 5], [], []⟩ rfl rfl (by decide +kernel) rfl trivial ?_
    refine K_sub (F' := [(17, .agg (cu32 s).toArray), (18, Slc nb2 0 ((padL b).length) cp1), (19, I64 (64*(k:Int))), (20, I64 (64*(k:Int))), (21, I64 (64*(k:Int) + 64)), (22, Slc nb2 (64*k) 64 (cp1 - 64*k)), (23, .agg (cu32 (comprL constL s (mid (padL b) (64*k) 64))).toArray), (2, Ptr nb1 0), (3, Slc nb2 0 ((padL b).length) cp1), (4, Ptr nb3 0), (5, I64 (64*(k:Int))), (11, I64 (64*(k:Int))), (12, Slc nb2 0 ((padL b).length) cp1), (13, I64 (((padL b).length:Int))), (14, .bool (decide ((64*(k:Int)) < (((padL b).length:Int)))))]) (Sub.cons (by kernel_rfl) (Sub.cons (by kernel_rfl) (Sub.cons (by kernel_rfl) (Sub.cons (by kernel_rfl) (Sub.cons (by kernel_rfl) (Sub.cons (by kernel_rfl) (Sub.cons (by kernel_rfl) (Sub.cons (by kernel_rfl) (Sub.cons (by kernel_rfl) (Sub.cons (by kernel_rfl) (Sub.cons (by kernel_rfl) (Sub.cons (by kernel_rfl) (Sub.cons (by kernel_rfl) (Sub.cons (by kernel_rfl) (Sub.cons (by kernel_rfl) (Sub.nil)))))))))))))))) ?_
    show JQ _ _ _ [(17, .agg (cu32 s).toArray), (18, Slc nb2 0 ((padL b).length) cp1), (19, I64 (64*(k:Int))), (20, I64 (64*(k:Int))), (21, I64 (64*(k:Int) + 64)), (22, Slc nb2 (64*k) 64 (cp1 - 64*k)), (23, .agg (cu32 (comprL constL s (mid (padL b) (64*k) 64))).toArray), (2, Ptr nb1 0), (3, Slc nb2 0 ((padL b).length) cp1), (4, Ptr nb3 0), (5, I64 (64*(k:Int))), (11, I64 (64*(k:Int))), (12, Slc nb2 0 ((padL b).length) cp1), (13, I64 (((padL b).length:Int))), (14, .bool (decide ((64*(k:Int)) < (((padL b).length:Int)))))] _
    refine JQ_in_normal ?_
    refine JQ_then ?_
    refine JC_region ?_
    refine JL_val _ (Ev_move rfl) rfl ?_
    refine JL_val (I64 (64*(k:Int) + 64)) (Ev_bini rfl rfl fun _ => bin_add_i _ _ (64*(k:Int) + 64) (by omega) (by omega)) rfl ?_
    refine JL_val _ (Ev_assign rfl) rfl ?_
    refine JL_nil ?_
    refine JQ_thenK ?_
    refine K_next (k + 1, comprL constL s (mid (padL b) (64*k) 64)) ⟨by omega, by rw [stN, ← hx2], (comprL_len hs)⟩ (by first | (simp; omega) | simp) (Sub.cons rfl (Sub.cons rfl (Sub.cons rfl (Sub.cons rfl (Sub.nil))))) rfl
  ·
    have hp1 : ¬ ((64*(k:Int)) < (((padL b).length:Int))) := of_decide_eq_false hb1
    refine JC_exit ?_
    refine JQ_then_exit ?_
    refine JQ_then_exit ?_
    refine JQ_in_same ?_
    refine JQ_then ?_
    refine JC_seq ?_
    refine JC_region ?_
    refine JL_step (Step_alloc _ (cu8 (zr8 32)) Tryd.zeroValue25 (by kernel_rfl)) rfl ?_
    rintro v1 L1 ⟨nb4, hnb4, rfl, rfl⟩
    show JL _ _ _ _ ((6, Ptr nb4 0) :: _) [⟨nb1, cu8 (zr8 32), 25, (0, 0)⟩, ⟨nb2, cu8 (padL b) ++ sp1, 5, (0, 0)⟩, ⟨nb3, cu32 s, 31, (0, 0)⟩, ⟨nb4, cu8 (zr8 32), 25, (0, 0)⟩]
    refine JL_nil ?_
    refine JQ_then ?_
    refine JC_seq ?_
    refine JC_seq ?_
    refine JC_region ?_
    refine JL_val _ (Ev_assign rfl) rfl ?_
    refine JL_nil ?_
    refine JQ_then ?_
    refine JC_block ?_
    refine K_mask [true, false, true, true] ?_
    show JC _ _ _ _ [⟨nb1, cu8 (zr8 32), 25, (0, 0)⟩, ⟨nb3, cu32 s, 31, (0, 0)⟩, ⟨nb4, cu8 (zr8 32), 25, (0, 0)⟩]
    refine JC_loop (ι := Nat × List UInt8) (fun ⟨i, o⟩ => [(2, Ptr nb1 0), (4, Ptr nb3 0), (6, Ptr nb4 0), (7, I64 ((i:Int)))]) (fun ⟨i, o⟩ => [⟨nb1, cu8 (zr8 32), 25, (0, 0)⟩, ⟨nb3, cu32 s, 31, (0, 0)⟩, ⟨nb4, cu8 o, 25, (0, 0)⟩]) (fun ⟨i, o⟩ => i ≤ 32 ∧ o = routN s i ∧ o.length = 32) (fun ⟨i, o⟩ => 32 - i) (0, zr8 32) ⟨by omega, by rw [routN], zr8_len 32⟩ (Sub.cons rfl (Sub.cons rfl (Sub.cons rfl (Sub.cons rfl (Sub.nil))))) rfl ?_
    rintro ⟨i, o⟩ ⟨hz1, hz2, ho⟩
    show JC _ _ _ [(2, Ptr nb1 0), (4, Ptr nb3 0), (6, Ptr nb4 0), (7, I64 ((i:Int)))] [⟨nb1, cu8 (zr8 32), 25, (0, 0)⟩, ⟨nb3, cu32 s, 31, (0, 0)⟩, ⟨nb4, cu8 o, 25, (0, 0)⟩]
    refine JC_seq ?_
    refine JC_seq ?_
    refine JC_region ?_
    refine JL_val _ (Ev_move rfl) rfl ?_
    refine JL_val (.bool (decide (((i:Int)) < (32:Int)))) (Ev_bini rfl rfl fun _ => bin_lss_i _ _) rfl ?_
    refine JL_nil ?_
    refine JQ_then ?_
    refine JC_cond (decide (((i:Int)) < (32:Int))) rfl (fun hb2 => ?_) (fun hb2 => ?_)
    ·
      have hp2 : ((i:Int)) < (32:Int) := of_decide_eq_true hb2
      refine JC_skip ?_
      refine JQ_then ?_
      refine JC_seq ?_
      refine JC_block ?_
      refine JC_region ?_
      refine JL_val _ (Ev_move rfl) rfl ?_
      refine JL_val _ (Ev_move rfl) rfl ?_
      refine JL_val (I64 ((i / 4:Int))) (Ev_bini rfl rfl fun _ => bin_quo_i _ _ ((i / 4:Int)) (by omega) (by omega) (by omega)) rfl ?_
      refine JL_val (Ptr nb3 (i / 4)) (Ev_indexArr 8 30 1 (i / 4) Tryd.underlying31 Tryd.sizeOf30 rfl rfl (by omega) (by omega) (by omega)) rfl ?_
      refine JL_val (U32 (g32 s (i / 4))) (Ev_load rfl (Ld_one Tryd.isAgg30 (MemAt.ent 1 rfl (Seg.get (g32_get (i := (i / 4)) (by rw [hs]; omega)))))) rfl ?_
      refine JL_val _ (Ev_move rfl) rfl ?_
      refine JL_val (I64 ((i % 4:Int))) (Ev_bini rfl rfl fun _ => bin_rem_i _ _ ((i % 4:Int)) (by omega) (by omega) (by omega)) rfl ?_
      refine JL_val (I64 (8*(i % 4:Int))) (Ev_bini rfl rfl fun _ => bin_mul_i _ _ (8*(i % 4:Int)) (by omega) (by omega)) rfl ?_
      refine JL_val (I64 (-8*(i % 4:Int) + 24)) (Ev_bini rfl rfl fun _ => bin_sub_i _ _ (-8*(i % 4:Int) + 24) (by omega) (by omega)) rfl ?_
      refine JL_val (U64 (UInt64.ofNat (24 - 8*(i % 4)))) (Ev_conv _ _ rfl fun _ => conv_i64_u64 (by rw [Tryd.underlying3]; rfl) Tryd.underlying52 (24 - 8*(i % 4)) _ (by omega)) rfl ?_
      refine JL_val (U32 ((g32 s (i / 4)) >>> UInt32.ofNat (24 - 8*(i % 4)))) (Ev_bini rfl rfl fun _ => bin_shr_u32 (g32 s (i / 4)) _ _ (24 - 8*(i % 4)) (by omega) (ofN_i (by omega))) rfl ?_
      refine JL_val (U8 (((g32 s (i / 4)) >>> UInt32.ofNat (24 - 8*(i % 4))).toUInt8)) (Ev_conv _ _ rfl fun _ => conv_u32_u8 (by rw [Tryd.underlying30]; rfl) Tryd.underlying5 _) rfl ?_
      refine JL_val (Ptr nb4 i) (Ev_indexArr 32 5 1 i Tryd.underlying25 Tryd.sizeOf5 rfl rfl (by omega) (by omega) (by omega)) rfl ?_
      have hl2 : (o.set i (((g32 s (i / 4)) >>> UInt32.ofNat (24 - 8*(i % 4))).toUInt8)).length = 32 := by simp [ho]
      refine JL_step (Step_store 2 nb4 i 1 (cu8 o) 25 (U8 (((g32 s (i / 4)) >>> UInt32.ofNat (24 - 8*(i % 4))).toUInt8)) ([U8 (((g32 s (i / 4)) >>> UInt32.ofNat (24 - 8*(i % 4))).toUInt8)]) (cu8 (o.set i (((g32 s (i / 4)) >>> UInt32.ofNat (24 - 8*(i % 4))).toUInt8))) rfl rfl rfl rfl Tryd.sizeOf5 rfl (by simp [Value.oneCell']) (by simp [ho]; try omega) (lay8 _ _ _ (by rw [ho]; omega))) rfl ?_
      rintro v1 L1 ⟨rfl, rfl⟩
      show JL _ _ _ _ _ [⟨nb1, cu8 (zr8 32), 25, (0, 0)⟩, ⟨nb3, cu32 s, 31, (0, 0)⟩, ⟨nb4, cu8 (o.set i (((g32 s (i / 4)) >>> UInt32.ofNat (24 - 8*(i % 4))).toUInt8)), 25, (0, 0)⟩]
      refine JL_nil ?_
      refine JQ_in_normal ?_
      refine JQ_then ?_
      refine JC_region ?_
      refine JL_val _ (Ev_move rfl) rfl ?_
      refine JL_val (I64 ((i:Int) + 1)) (Ev_bini rfl rfl fun _ => bin_add_i _ _ ((i:Int) + 1) (by omega) (by omega)) rfl ?_
      refine JL_val _ (Ev_assign rfl) rfl ?_
      refine JL_nil ?_
      refine JQ_thenK ?_
      refine K_next (i + 1, o.set i (((g32 s (i / 4)) >>> UInt32.ofNat (24 - 8*(i % 4))).toUInt8)) ⟨by omega, by rw [routN, byteAt, ← hz2], hl2⟩ (by first | (simp; omega) | simp) (Sub.cons rfl (Sub.cons rfl (Sub.cons rfl (Sub.cons rfl (Sub.nil))))) rfl
    ·
      have hp2 : ¬ (((i:Int)) < (32:Int)) := of_decide_eq_false hb2
      refine JC_exit ?_
      refine JQ_then_exit ?_
      refine JQ_then_exit ?_
      refine JQ_in_same ?_
      refine JQ_then ?_
      refine JC_seq ?_
      refine JC_region ?_
      refine JL_val (.agg (cu8 o).toArray) (Ev_load rfl (Ld_agg Tryd.isAgg25 Tryd.sizeOf25 (len_cu8 ho) (MemAt.ent 2 rfl (Seg.whole _)))) rfl ?_
      refine JL_step (Step_store 0 nb1 0 32 (cu8 (zr8 32)) 25 (.agg (cu8 o).toArray) (cu8 o) (cu8 o) rfl rfl rfl (by first | rfl | simp) Tryd.sizeOf25 (len_cu8 ho) (by first | exact one_u8 | exact one_u32 | exact one_u64 | (simp [cu8, cu32, cu64, Value.oneCell']; done)) (by simp [(zr8_len 32)]) (lay_whole (by simp [(zr8_len 32), ho]))) rfl ?_
      rintro v1 L1 ⟨rfl, rfl⟩
      show JL _ _ _ _ _ [⟨nb1, cu8 o, 25, (0, 0)⟩, ⟨nb3, cu32 s, 31, (0, 0)⟩, ⟨nb4, cu8 o, 25, (0, 0)⟩]
      refine JL_nil ?_
      refine JQ_then ?_
      refine JC_ret ?_
      refine JQ_ret (.agg (cu8 o).toArray) (res1 Tryd.results24 (RV_cell rfl (Ld_agg Tryd.isAgg25 Tryd.sizeOf25 (len_cu8 ho) (MemAt.ent 0 rfl (Seg.whole _))))) fun w1 hw1 => ?_
      have e1 : i = 32 := by omega
      have e2 : k = (padL b).length / 64 := by omega
      subst e1
      refine ⟨_, [], rfl, ⟨?_, rfl⟩, hw1.sub (by simp) (by simp)⟩
      rw [sumG, ← routN_hash, hz2, hx2, e2]

theorem sum_abc : g8 (sumG constL initL [(97:UInt8), (98:UInt8), (99:UInt8)]) 0 = 186 ∧ g8 (sumG constL initL [(97:UInt8), (98:UInt8), (99:UInt8)]) 1 = 120 ∧ g8 (sumG constL initL [(97:UInt8), (98:UInt8), (99:UInt8)]) 2 = 22 ∧ g8 (sumG constL initL [(97:UInt8), (98:UInt8), (99:UInt8)]) 3 = 191 := by decide +kernel

theorem alive2_c  (w : World) (hG : GLs w) : Calls Tryd.prog 22 #[] w (Post w [] (fun v L => v = .bool true ∧ L = [])) := by
  refine enter w [] 23 [] [] Tryd.func22 rfl rfl (by simp) (Hp.start (by simp) (by simp) (by simp)) ?_
  show JC _ _ _ [] _
  refine JC_seq ?_
  refine JC_region ?_
  refine JL_val _ (Ev_assign rfl) rfl ?_
  refine JL_nil ?_
  refine JQ_then ?_
  refine JC_seq ?_
  refine JC_region ?_
  refine JL_step (Step_buildSlice 5 1 _ [(0, U8 (97:UInt8)), (1, U8 (98:UInt8)), (2, U8 (99:UInt8))] (cu8 ([(97:UInt8), (98:UInt8), (99:UInt8)])) Tryd.underlying22 Tryd.sizeOf5 Tryd.zeroValue5 rfl rfl rfl (by kernel_rfl)) rfl ?_
  rintro v1 L1 ⟨nb1, hnb1, rfl, rfl⟩
  show JL _ _ _ _ ((2, Slc nb1 0 3 3) :: _) [⟨nb1, cu8 ([(97:UInt8), (98:UInt8), (99:UInt8)]), 5, (0, 0)⟩]
  refine JL_step (Step_convMark 5 0 Tryd.underlying22 Tryd.underlying5 rfl rfl) rfl ?_
  rintro v1 L1 ⟨rfl, rfl⟩
  show JL _ _ _ _ ((3, Slc nb1 0 3 3) :: _) [⟨nb1, cu8 ([(97:UInt8), (98:UInt8), (99:UInt8)]), 5, (3, 4)⟩]
  refine JL_step (Step_callP 23 [Slc nb1 0 3 3] (.agg (cu8 (sumG constL initL ([(97:UInt8), (98:UInt8), (99:UInt8)]))).toArray) (Cl_func [Slc nb1 0 3 3] Tryd.call23 rfl) (fun w1 hw1 => sum_c (some ⟨nb1, 0, none⟩) 3 3 ([(97:UInt8), (98:UInt8), (99:UInt8)]) w1 rfl (fun h => by cases h) (by omega) (RdB.of hw1 (MemAt.ent 0 rfl (Seg.whole _)) (by simp)) (hG.at hw1))) rfl ?_
  rintro v1 L1 ⟨rfl, rfl⟩
  show JL _ _ _ _ ((4, .agg (cu8 (sumG constL initL ([(97:UInt8), (98:UInt8), (99:UInt8)]))).toArray) :: _) [⟨nb1, cu8 ([(97:UInt8), (98:UInt8), (99:UInt8)]), 5, (3, 4)⟩]
  refine JL_step (Step_alloc _ (cu8 (zr8 32)) Tryd.zeroValue25 (by kernel_rfl)) rfl ?_
  rintro v1 L1 ⟨nb2, hnb2, rfl, rfl⟩
  show JL _ _ _ _ ((1, Ptr nb2 0) :: _) [⟨nb1, cu8 ([(97:UInt8), (98:UInt8), (99:UInt8)]), 5, (3, 4)⟩, ⟨nb2, cu8 (zr8 32), 25, (0, 0)⟩]
  refine JL_step (Step_store 1 nb2 0 32 (cu8 (zr8 32)) 25 (.agg (cu8 (sumG constL initL ([(97:UInt8), (98:UInt8), (99:UInt8)]))).toArray) (cu8 (sumG constL initL ([(97:UInt8), (98:UInt8), (99:UInt8)]))) (cu8 (sumG constL initL ([(97:UInt8), (98:UInt8), (99:UInt8)]))) rfl rfl rfl (by first | rfl | simp) Tryd.sizeOf25 (len_cu8 (sumG_len _ _ _)) (by first | exact one_u8 | exact one_u32 | exact one_u64 | (simp [cu8, cu32, cu64, Value.oneCell']; done)) (by simp [(zr8_len 32)]) (lay_whole (by simp [(zr8_len 32), (sumG_len _ _ _)]))) rfl ?_
  rintro v1 L1 ⟨rfl, rfl⟩
  show JL _ _ _ _ _ [⟨nb1, cu8 ([(97:UInt8), (98:UInt8), (99:UInt8)]), 5, (3, 4)⟩, ⟨nb2, cu8 (sumG constL initL ([(97:UInt8), (98:UInt8), (99:UInt8)])), 25, (0, 0)⟩]
  refine JL_nil ?_
  refine JQ_then ?_
  refine JC_seq ?_
  refine JC_region ?_
  refine JL_val (Ptr nb2 0) (Ev_indexArr 32 5 1 0 Tryd.underlying25 Tryd.sizeOf5 rfl rfl (by omega) (by omega) (by omega)) rfl ?_
  refine JL_val (U8 (g8 (sumG constL initL ([(97:UInt8), (98:UInt8), (99:UInt8)])) 0)) (Ev_load rfl (Ld_one Tryd.isAgg5 (MemAt.ent 1 rfl (Seg.get (g8_get (i := 0) (by rw [(sumG_len _ _ _)]; omega)))))) rfl ?_
  refine JL_val (.bool (decide ((g8 (sumG constL initL ([(97:UInt8), (98:UInt8), (99:UInt8)])) 0) = (186:UInt8)))) (Ev_bini rfl rfl fun _ => bin_eql_u8 (g8 (sumG constL initL ([(97:UInt8), (98:UInt8), (99:UInt8)])) 0) (186:UInt8)) rfl ?_
  refine JL_val _ (Ev_move rfl) rfl ?_
  refine JL_gval 3 8 true _ (Ptr nb2 1) rfl rfl (decide_eq_true (sum_abc.1)) (Ev_indexArr 32 5 1 1 Tryd.underlying25 Tryd.sizeOf5 rfl rfl (by omega) (by omega) (by omega)) rfl ?_
  refine JL_gval 3 8 true _ (U8 (g8 (sumG constL initL ([(97:UInt8), (98:UInt8), (99:UInt8)])) 1)) rfl rfl (decide_eq_true (sum_abc.1)) (Ev_load rfl (Ld_one Tryd.isAgg5 (MemAt.ent 1 rfl (Seg.get (g8_get (i := 1) (by rw [(sumG_len _ _ _)]; omega)))))) rfl ?_
  refine JL_gval 3 8 true _ (.bool (decide ((g8 (sumG constL initL ([(97:UInt8), (98:UInt8), (99:UInt8)])) 1) = (120:UInt8)))) rfl rfl (decide_eq_true (sum_abc.1)) (Ev_bini rfl rfl fun _ => bin_eql_u8 (g8 (sumG constL initL ([(97:UInt8), (98:UInt8), (99:UInt8)])) 1) (120:UInt8)) rfl ?_
  refine JL_val _ (Ev_pickT _ rfl (decide_eq_true (sum_abc.1)) rfl) rfl ?_
  refine JL_val _ (Ev_move rfl) rfl ?_
  refine JL_gval 8 13 true _ (Ptr nb2 2) rfl rfl (decide_eq_true (sum_abc.2.1)) (Ev_indexArr 32 5 1 2 Tryd.underlying25 Tryd.sizeOf5 rfl rfl (by omega) (by omega) (by omega)) rfl ?_
  refine JL_gval 8 13 true _ (U8 (g8 (sumG constL initL ([(97:UInt8), (98:UInt8), (99:UInt8)])) 2)) rfl rfl (decide_eq_true (sum_abc.2.1)) (Ev_load rfl (Ld_one Tryd.isAgg5 (MemAt.ent 1 rfl (Seg.get (g8_get (i := 2) (by rw [(sumG_len _ _ _)]; omega)))))) rfl ?_
  refine JL_gval 8 13 true _ (.bool (decide ((g8 (sumG constL initL ([(97:UInt8), (98:UInt8), (99:UInt8)])) 2) = (22:UInt8)))) rfl rfl (decide_eq_true (sum_abc.2.1)) (Ev_bini rfl rfl fun _ => bin_eql_u8 (g8 (sumG constL initL ([(97:UInt8), (98:UInt8), (99:UInt8)])) 2) (22:UInt8)) rfl ?_
  refine JL_val _ (Ev_pickT _ rfl (decide_eq_true (sum_abc.2.1)) rfl) rfl ?_
  refine JL_val _ (Ev_move rfl) rfl ?_
  refine JL_gval 13 18 true _ (Ptr nb2 3) rfl rfl (decide_eq_true (sum_abc.2.2.1)) (Ev_indexArr 32 5 1 3 Tryd.underlying25 Tryd.sizeOf5 rfl rfl (by omega) (by omega) (by omega)) rfl ?_
  refine JL_gval 13 18 true _ (U8 (g8 (sumG constL initL ([(97:UInt8), (98:UInt8), (99:UInt8)])) 3)) rfl rfl (decide_eq_true (sum_abc.2.2.1)) (Ev_load rfl (Ld_one Tryd.isAgg5 (MemAt.ent 1 rfl (Seg.get (g8_get (i := 3) (by rw [(sumG_len _ _ _)]; omega)))))) rfl ?_
  refine JL_gval 13 18 true _ (.bool (decide ((g8 (sumG constL initL ([(97:UInt8), (98:UInt8), (99:UInt8)])) 3) = (191:UInt8)))) rfl rfl (decide_eq_true (sum_abc.2.2.1)) (Ev_bini rfl rfl fun _ => bin_eql_u8 (g8 (sumG constL initL ([(97:UInt8), (98:UInt8), (99:UInt8)])) 3) (191:UInt8)) rfl ?_
  refine JL_val _ (Ev_pickT _ rfl (decide_eq_true (sum_abc.2.2.1)) rfl) rfl ?_
  refine JL_val _ (Ev_assign rfl) rfl ?_
  refine JL_nil ?_
  refine JQ_then ?_
  refine JC_ret ?_
  refine JQ_ret (.bool (decide ((g8 (sumG constL initL ([(97:UInt8), (98:UInt8), (99:UInt8)])) 3) = (191:UInt8)))) (res1 Tryd.results22 (RV_tmp rfl)) fun w1 hw1 => ?_
  exact ⟨_, [], rfl, ⟨by rw [show (decide ((g8 (sumG constL initL ([(97:UInt8), (98:UInt8), (99:UInt8)])) 3) = (191:UInt8))) = true from (decide_eq_true (sum_abc.2.2.2))], rfl⟩, hw1.sub (by simp) (by simp)⟩

end Go.Proofs.YtncoifiafklkjaaDoor
