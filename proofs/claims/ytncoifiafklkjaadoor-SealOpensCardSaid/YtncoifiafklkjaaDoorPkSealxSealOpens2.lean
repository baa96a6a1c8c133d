import Derived.MakeChecks
import Derived.Test.YtncoifiafklkjaaDoorPkSealxSealOpens1
namespace Go.Proofs.YtncoifiafklkjaaDoor
open Go Go.Sx
set_option linter.unusedVariables false
set_option linter.unusedSimpArgs false
set_option maxRecDepth 100000
attribute [local irreducible] mid zr8 zr32 rotr wordL spreadL comprL cpN adN spN wrdN constL initL
theorem rpad_c (ao : Option Addr) (n cb : Nat) (b : List UInt8) (w : World) (hb : b.length = n) (hn : n ≤ 17592186044416) (hr : RdB w [] ao b) : Calls Tryd.prog 27 #[.slice ao n cb] w (Post w [] (fun v L => ∃ g sp cap, v = Slc g 0 (padL b).length cap ∧ L = [⟨g, cu8 (padL b) ++ sp, 5, (0, 0)⟩] ∧ sp.length = cap - (padL b).length ∧ (padL b).length ≤ cap ∧ cap ≤ maxLen)) := by
 have hnz := nzP_lt n
 have hnd := nzP_def n
 refine enter w [] 45 [] [.slice ao n cb] Tryd.func27 rfl rfl (by simp) (Hp.start (by simp) (by simp) (by simp)) ?_
 show JC _ _ _ [(0, .slice ao n cb)] _
 refine JC_seq ?_
 refine JC_region ?_
 refine JL_val _ (Ev_assign rfl) rfl ?_
 refine JL_nil ?_
 refine JQ_then ?_
 refine JC_seq ?_
 refine JC_region ?_
 refine JL_val _ (Ev_move rfl) rfl ?_
 refine JL_val (I64 ((n:Int))) (Ev_len Tryd.underlying22 rfl) rfl ?_
 refine JL_val (I64 ((n % 64:Int))) (Ev_bini rfl rfl fun _ => bin_rem_i _ _ ((n % 64:Int)) (by omega) (by omega) (by omega)) rfl ?_
 refine JL_val (I64 (-(n % 64:Int) + 119)) (Ev_bini rfl rfl fun _ => bin_sub_i _ _ (-(n % 64:Int) + 119) (by omega) (by omega)) rfl ?_
 refine JL_val (I64 (((-(n % 64:Int) + 119) % 64))) (Ev_bini rfl rfl fun _ => bin_rem_i _ _ (((-(n % 64:Int) + 119) % 64)) (by omega) (by omega) (by omega)) rfl ?_
 refine JL_val _ (Ev_assign rfl) rfl ?_
 refine JL_nil ?_
 refine JQ_then ?_
 refine JC_seq ?_
 refine JC_region ?_
 refine JL_step (Step_buildSlice0 5 1 Tryd.underlying22 Tryd.sizeOf5) rfl ?_
 rintro v1 L1 ⟨nb1, hnb1, rfl, rfl⟩
 show JL _ _ _ _ ((13, Slc nb1 0 0 0) :: _) [⟨nb1, [], 5, (0, 0)⟩]
 refine JL_val _ (Ev_move rfl) rfl ?_
 refine JL_step (Step_appM8 22 5 [true] (Slc nb1 0 0 0) 0 ([] : List UInt8) b ao n cb n Tryd.underlying22 Tryd.info5 rfl (.inr ⟨nb1, [], 0, rfl, (by simp [take?, cu8, cu32, cu64]), rfl, (by simp), (by omega), (by unfold maxLen; omega)⟩) rfl (by simp [hb]; try omega) (hr.src) (by omega) (by unfold maxLen; omega) (by omega)) rfl ?_
 rintro v1 L1 ⟨nb2, sp1, cp1, hg1, rfl, rfl, ha1, ha2, ha3, ha4⟩
 show JL _ _ _ _ ((15, Slc nb2 0 n cp1) :: _) [⟨nb2, cu8 (([] : List UInt8) ++ b) ++ sp1, 5, (0, 0)⟩]
 refine JL_val _ (Ev_assign rfl) rfl ?_
 refine JL_nil ?_
 refine JQ_then ?_
 refine JC_seq ?_
 refine JC_region ?_
 refine JL_val _ (Ev_move rfl) rfl ?_
 refine JL_step (Step_buildSlice 5 1 _ [(0, U8 (128:UInt8))] (cu8 ([(128:UInt8)])) Tryd.underlying22 Tryd.sizeOf5 Tryd.zeroValue5 rfl rfl rfl (by kernel_rfl)) rfl ?_
 rintro v1 L1 ⟨nb3, hnb3, rfl, rfl⟩
 show JL _ _ _ _ ((17, Slc nb3 0 1 1) :: _) [⟨nb2, cu8 (([] : List UInt8) ++ b) ++ sp1, 5, (0, 0)⟩, ⟨nb3, cu8 ([(128:UInt8)]), 5, (0, 0)⟩]
 refine JL_step (Step_appM8 22 5 [true, false] (Slc nb2 0 n cp1) n (([] : List UInt8) ++ b) ([(128:UInt8)]) (some ⟨nb3, 0, none⟩) 1 1 (n + 1) Tryd.underlying22 Tryd.info5 rfl (.inr ⟨nb2, sp1, cp1, rfl, rfl, (by first | exact ha1 | simp [ha1]), ha2, (by omega), (by omega)⟩) rfl (by simp) (SrcAt.mem (MemAt.ent 1 rfl (Seg.whole _))) (by omega) (by unfold maxLen; omega) (by omega)) rfl ?_
 rintro v1 L1 ⟨nb4, sp2, cp2, hg2, rfl, rfl, ha5, ha6, ha7, ha8⟩
 show JL _ _ _ _ ((18, Slc nb4 0 (n + 1) cp2) :: _) [⟨nb3, cu8 ([(128:UInt8)]), 5, (0, 0)⟩, ⟨nb4, cu8 ((([] : List UInt8) ++ b) ++ ([(128:UInt8)])) ++ sp2, 5, (0, 0)⟩]
 refine JL_val _ (Ev_assign rfl) rfl ?_
 refine JL_nil ?_
 refine JQ_then ?_
 refine JC_seq ?_
 refine JC_seq ?_
 refine JC_region ?_
 refine JL_val _ (Ev_assign rfl) rfl ?_
 refine JL_nil ?_
 refine JQ_then ?_
 refine JC_block ?_
 refine K_mask [false, true] ?_
 show JC _ _ _ _ [⟨nb4, cu8 ((([] : List UInt8) ++ b) ++ ([(128:UInt8)])) ++ sp2, 5, (0, 0)⟩]
 refine JC_loop (ι := Nat × List UInt8 × Nat × List Value × Nat) (fun ⟨j, o, g1, sp1, cp1⟩ => [(0, .slice ao n cb), (2, .slice none 0 0), (3, I64 (((-(n % 64:Int) + 119) % 64))), (4, Slc g1 0 (j + n + 1) cp1), (5, I64 ((j:Int)))]) (fun ⟨j, o, g1, sp1, cp1⟩ => [⟨g1, cu8 o ++ sp1, 5, (0, 0)⟩]) (fun ⟨j, o, g1, sp1, cp1⟩ => j ≤ nzP n ∧ o = (b ++ [(128:UInt8)]) ++ zr8 j ∧ o.length = (j + n + 1) ∧ sp1.length = cp1 - (j + n + 1) ∧ (j + n + 1) ≤ cp1 ∧ cp1 ≤ maxLen) (fun ⟨j, o, g1, sp1, cp1⟩ => nzP n - j) (0, (([] : List UInt8) ++ b) ++ ([(128:UInt8)]), nb4, sp2, cp2) ⟨by omega, by simp [zr8], by simp [hb], by have := ha6; omega, by omega, ha8⟩ (Sub.cons rfl (Sub.cons rfl (Sub.cons rfl (Sub.cons (some_slc (by omega)) (Sub.cons rfl (Sub.nil)))))) rfl ?_
 rintro ⟨j, o, g1, sp1, cp1⟩ ⟨hx1, hx2, ho, hx4, hx5, hx6⟩
 show JC _ _ _ [(0, .slice ao n cb), (2, .slice none 0 0), (3, I64 (((-(n % 64:Int) + 119) % 64))), (4, Slc g1 0 (j + n + 1) cp1), (5, I64 ((j:Int)))] [⟨g1, cu8 o ++ sp1, 5, (0, 0)⟩]
 refine JC_seq ?_
 refine JC_seq ?_
 refine JC_region ?_
 refine JL_val _ (Ev_move rfl) rfl ?_
 refine JL_val _ (Ev_move rfl) rfl ?_
 refine JL_val (.bool (decide (((j:Int)) < (((-(n % 64:Int) + 119) % 64))))) (Ev_bini rfl rfl fun _ => bin_lss_i _ _) rfl ?_
 refine JL_nil ?_
 refine JQ_then ?_
 refine JC_cond (decide (((j:Int)) < (((-(n % 64:Int) + 119) % 64)))) rfl (fun hb1 => ?_) (fun hb1 => ?_)
 ·
  have hp1 : ((j:Int)) < (((-(n % 64:Int) + 119) % 64)) := of_decide_eq_true hb1
  refine JC_skip ?_
  refine JQ_then ?_
  refine JC_seq ?_
  refine JC_block ?_
  refine JC_region ?_
  refine JL_val _ (Ev_move rfl) rfl ?_
  refine JL_step (Step_buildSlice 5 1 _ [(0, U8 (0:UInt8))] (cu8 ([(0:UInt8)])) Tryd.underlying22 Tryd.sizeOf5 Tryd.zeroValue5 rfl rfl rfl (by kernel_rfl)) rfl ?_
  rintro v1 L1 ⟨nb5, hnb5, rfl, rfl⟩
  show JL _ _ _ _ ((25, Slc nb5 0 1 1) :: _) [⟨g1, cu8 o ++ sp1, 5, (0, 0)⟩, ⟨nb5, cu8 ([(0:UInt8)]), 5, (0, 0)⟩]
  refine JL_step (Step_appM8 22 5 [true, false] (Slc g1 0 (j + n + 1) cp1) (j + n + 1) o ([(0:UInt8)]) (some ⟨nb5, 0, none⟩) 1 1 (j + n + 2) Tryd.underlying22 Tryd.info5 rfl (.inr ⟨g1, sp1, cp1, rfl, rfl, (by first | exact ho | simp [ho]), hx4, (by omega), (by omega)⟩) rfl (by simp) (SrcAt.mem (MemAt.ent 1 rfl (Seg.whole _))) (by omega) (by unfold maxLen; omega) (by omega)) rfl ?_
  rintro v1 L1 ⟨nb6, sp3, cp3, hg3, rfl, rfl, ha9, ha10, ha11, ha12⟩
  show JL _ _ _ _ ((26, Slc nb6 0 (j + n + 2) cp3) :: _) [⟨nb5, cu8 ([(0:UInt8)]), 5, (0, 0)⟩, ⟨nb6, cu8 (o ++ ([(0:UInt8)])) ++ sp3, 5, (0, 0)⟩]
  refine JL_val _ (Ev_assign rfl) rfl ?_
  refine JL_nil ?_
  refine JQ_in_normal ?_
  refine JQ_then ?_
  refine JC_region ?_
  refine JL_val _ (Ev_move rfl) rfl ?_
  refine JL_val (I64 ((j:Int) + 1)) (Ev_bini rfl rfl fun _ => bin_add_i _ _ ((j:Int) + 1) (by omega) (by omega)) rfl ?_
  refine JL_val _ (Ev_assign rfl) rfl ?_
  refine JL_nil ?_
  refine JQ_thenK ?_
  refine K_mask [false, true] ?_
  show K _ _ [⟨nb6, cu8 (o ++ ([(0:UInt8)])) ++ sp3, 5, (0, 0)⟩] _
  refine K_next (j + 1, o ++ ([(0:UInt8)]), nb6, sp3, cp3) ⟨by omega, by rw [hx2, zr8_succ, List.append_assoc], (ha9).trans (by first | rfl | simp +arith), (ha10).trans (by first | rfl | simp +arith), by omega, ha12⟩ (by first | (simp; omega) | simp) (Sub.cons rfl (Sub.cons rfl (Sub.cons rfl (Sub.cons (some_slc (by omega)) (Sub.cons rfl (Sub.nil)))))) rfl
 ·
  have hp1 : ¬ (((j:Int)) < (((-(n % 64:Int) + 119) % 64))) := of_decide_eq_false hb1
  refine JC_exit ?_
  refine JQ_then_exit ?_
  refine JQ_then_exit ?_
  refine JQ_in_same ?_
  refine JQ_then ?_
  refine JC_seq ?_
  refine JC_region ?_
  refine JL_val _ (Ev_move rfl) rfl ?_
  refine JL_val (I64 ((n:Int))) (Ev_len Tryd.underlying22 rfl) rfl ?_
  refine JL_val (U64 (UInt64.ofNat n)) (Ev_conv _ _ rfl fun _ => conv_i64_u64 (by rw [Tryd.underlying3]; rfl) Tryd.underlying58 n _ (by omega)) rfl ?_
  refine JL_val (U64 ((UInt64.ofNat n) * (8:UInt64))) (Ev_bini rfl rfl fun _ => bin_mul_u64 (UInt64.ofNat n) (8:UInt64)) rfl ?_
  refine JL_val _ (Ev_assign rfl) rfl ?_
  refine JL_nil ?_
  refine JQ_then ?_
  refine JC_seq ?_
  refine JC_seq ?_
  refine JC_region ?_
  refine JL_val _ (Ev_assign rfl) rfl ?_
  refine JL_nil ?_
  refine JQ_then ?_
  refine JC_block ?_
  have ej : j = nzP n := by omega
  have ejb : nzP n < 64 := by omega
  refine JC_loop (ι := Nat × List UInt8 × Nat × List Value × Nat) (fun ⟨i, o2, g2, sp2, cp2⟩ => [(2, .slice none 0 0), (6, U64 ((UInt64.ofNat n) * (8:UInt64))), (4, Slc g2 0 (i + j + n + 1) cp2), (7, I64 (-(i:Int) + 7))]) (fun ⟨i, o2, g2, sp2, cp2⟩ => [⟨g2, cu8 o2 ++ sp2, 5, (0, 0)⟩]) (fun ⟨i, o2, g2, sp2, cp2⟩ => i ≤ 8 ∧ o2 = o ++ lenN n i ∧ o2.length = (i + j + n + 1) ∧ sp2.length = cp2 - (i + j + n + 1) ∧ (i + j + n + 1) ≤ cp2 ∧ cp2 ≤ maxLen) (fun ⟨i, o2, g2, sp2, cp2⟩ => 8 - i) (0, o, g1, sp1, cp1) ⟨by omega, by simp [lenN], by omega, by omega, by omega, hx6⟩ (Sub.cons rfl (Sub.cons rfl (Sub.cons (some_slc (by omega)) (Sub.cons (some_i64 (by omega)) (Sub.nil))))) rfl ?_
  rintro ⟨i, o2, g2, sp2, cp2⟩ ⟨hy1, hy2, ho2, hy4, hy5, hy6⟩
  show JC _ _ _ [(2, .slice none 0 0), (6, U64 ((UInt64.ofNat n) * (8:UInt64))), (4, Slc g2 0 (i + j + n + 1) cp2), (7, I64 (-(i:Int) + 7))] [⟨g2, cu8 o2 ++ sp2, 5, (0, 0)⟩]
  refine JC_seq ?_
  refine JC_seq ?_
  refine JC_region ?_
  refine JL_val _ (Ev_move rfl) rfl ?_
  refine JL_val (.bool (decide ((0:Int) ≤ (-(i:Int) + 7)))) (Ev_bini rfl rfl fun _ => bin_geq_i _ _) rfl ?_
  refine JL_nil ?_
  refine JQ_then ?_
  refine JC_cond (decide ((0:Int) ≤ (-(i:Int) + 7))) rfl (fun hb2 => ?_) (fun hb2 => ?_)
  ·
   have hp2 : (0:Int) ≤ (-(i:Int) + 7) := of_decide_eq_true hb2
   refine JC_skip ?_
   refine JQ_then ?_
   refine JC_seq ?_
   refine JC_block ?_
   refine JC_region ?_
   refine JL_val _ (Ev_move rfl) rfl ?_
   refine JL_val _ (Ev_move rfl) rfl ?_
   refine JL_val _ (Ev_move rfl) rfl ?_
   refine JL_val (I64 (-8*(i:Int) + 56)) (Ev_bini rfl rfl fun _ => bin_mul_i _ _ (-8*(i:Int) + 56) (by omega) (by omega)) rfl ?_
   refine JL_val (U64 (UInt64.ofNat (56 - 8*i))) (Ev_conv _ _ rfl fun _ => conv_i64_u64 (by rw [Tryd.underlying3]; rfl) Tryd.underlying52 (56 - 8*i) _ (by omega)) rfl ?_
   refine JL_val (U64 (((UInt64.ofNat n) * (8:UInt64)) >>> UInt64.ofNat (56 - 8*i))) (Ev_bini rfl rfl fun _ => bin_shr_u64 ((UInt64.ofNat n) * (8:UInt64)) _ _ (56 - 8*i) (by omega) (ofN_i (by omega))) rfl ?_
   refine JL_val (U8 ((((UInt64.ofNat n) * (8:UInt64)) >>> UInt64.ofNat (56 - 8*i)).toUInt8)) (Ev_conv _ _ rfl fun _ => conv_u64_u8 (by rw [Tryd.underlying58]; rfl) Tryd.underlying5 _) rfl ?_
   refine JL_step (Step_buildSlice 5 1 _ [(0, U8 ((((UInt64.ofNat n) * (8:UInt64)) >>> UInt64.ofNat (56 - 8*i)).toUInt8))] (cu8 ([(((UInt64.ofNat n) * (8:UInt64)) >>> UInt64.ofNat (56 - 8*i)).toUInt8])) Tryd.underlying22 Tryd.sizeOf5 Tryd.zeroValue5 rfl rfl rfl (by kernel_rfl)) rfl ?_
   rintro v1 L1 ⟨nb7, hnb7, rfl, rfl⟩
   show JL _ _ _ _ ((42, Slc nb7 0 1 1) :: _) [⟨g2, cu8 o2 ++ sp2, 5, (0, 0)⟩, ⟨nb7, cu8 ([(((UInt64.ofNat n) * (8:UInt64)) >>> UInt64.ofNat (56 - 8*i)).toUInt8]), 5, (0, 0)⟩]
   refine JL_step (Step_appM8 22 5 [true, false] (Slc g2 0 (i + j + n + 1) cp2) (i + j + n + 1) o2 ([(((UInt64.ofNat n) * (8:UInt64)) >>> UInt64.ofNat (56 - 8*i)).toUInt8]) (some ⟨nb7, 0, none⟩) 1 1 (i + j + n + 2) Tryd.underlying22 Tryd.info5 rfl (.inr ⟨g2, sp2, cp2, rfl, rfl, (by first | exact ho2 | simp [ho2]), hy4, (by omega), (by omega)⟩) rfl (by simp) (SrcAt.mem (MemAt.ent 1 rfl (Seg.whole _))) (by omega) (by unfold maxLen; omega) (by omega)) rfl ?_
   rintro v1 L1 ⟨nb8, sp4, cp4, hg4, rfl, rfl, ha13, ha14, ha15, ha16⟩
   show JL _ _ _ _ ((43, Slc nb8 0 (i + j + n + 2) cp4) :: _) [⟨nb7, cu8 ([(((UInt64.ofNat n) * (8:UInt64)) >>> UInt64.ofNat (56 - 8*i)).toUInt8]), 5, (0, 0)⟩, ⟨nb8, cu8 (o2 ++ ([(((UInt64.ofNat n) * (8:UInt64)) >>> UInt64.ofNat (56 - 8*i)).toUInt8])) ++ sp4, 5, (0, 0)⟩]
   refine JL_val _ (Ev_assign rfl) rfl ?_
   refine JL_nil ?_
   refine JQ_in_normal ?_
   refine JQ_then ?_
   refine JC_region ?_
   refine JL_val _ (Ev_move rfl) rfl ?_
   refine JL_val (I64 (-(i:Int) + 6)) (Ev_bini rfl rfl fun _ => bin_sub_i _ _ (-(i:Int) + 6) (by omega) (by omega)) rfl ?_
   refine JL_val _ (Ev_assign rfl) rfl ?_
   refine JL_nil ?_
   refine JQ_thenK ?_
   refine K_mask [false, true] ?_
   show K _ _ [⟨nb8, cu8 (o2 ++ ([(((UInt64.ofNat n) * (8:UInt64)) >>> UInt64.ofNat (56 - 8*i)).toUInt8])) ++ sp4, 5, (0, 0)⟩] _
   refine K_next (i + 1, o2 ++ ([(((UInt64.ofNat n) * (8:UInt64)) >>> UInt64.ofNat (56 - 8*i)).toUInt8]), nb8, sp4, cp4) ⟨by omega, by rw [hy2, lenN, UInt64.mul_comm, List.append_assoc], (ha13).trans (by first | rfl | simp +arith), (ha14).trans (by first | rfl | simp +arith), by omega, ha16⟩ (by first | (simp; omega) | simp) (Sub.cons rfl (Sub.cons rfl (Sub.cons (some_slc (by omega)) (Sub.cons (some_i64 (by omega)) (Sub.nil))))) rfl
  ·
   have hp2 : ¬ ((0:Int) ≤ (-(i:Int) + 7)) := of_decide_eq_false hb2
   refine JC_exit ?_
   refine JQ_then_exit ?_
   refine JQ_then_exit ?_
   refine JQ_in_same ?_
   refine JQ_then ?_
   refine JC_seq ?_
   refine JC_region ?_
   refine JL_val _ (Ev_move rfl) rfl ?_
   refine JL_val _ (Ev_assign rfl) rfl ?_
   refine JL_nil ?_
   refine JQ_then ?_
   refine JC_ret ?_
   refine JQ_ret (Slc g2 0 (i + j + n + 1) cp2) (res1 Tryd.results27 (RV_tmp rfl)) fun w1 hw1 => ?_
   have e1 : i = 8 := by omega
   subst e1
   have e2 : o2 = padL b := by rw [hy2, hx2, padL, hb, ej]
   rw [e2] at hw1
   exact ⟨_, _, rfl, ⟨g2, sp2, cp2, slc_len (by rw [padL_len, hb, ← ej]; simp +arith), rfl, by rw [hy4]; rw [padL_len, hb, ← ej]; simp +arith, by refine Nat.le_trans (Nat.le_of_eq ?_) hy5; rw [padL_len, hb, ← ej]; simp +arith, hy6⟩, hw1.sub (by simp) (by simp)⟩
end Go.Proofs.YtncoifiafklkjaaDoor
namespace Go.Proofs.YtncoifiafklkjaaDoor
open Go Go.Sx
set_option linter.unusedVariables false
set_option linter.unusedSimpArgs false
set_option maxRecDepth 100000
attribute [local irreducible] mid zr8 zr32 rotr wordL spreadL comprL cpN adN spN wrdN constL initL padL stN outN routN hashL sumG
theorem rsum_c (ao : Option Addr) (n cb : Nat) (b : List UInt8) (w : World) (hb : b.length = n) (hn : n ≤ 17592186044416) (hr : RdB w [] ao b) (hGr : GLr w) (hGi : GLi w) : Calls Tryd.prog 24 #[.slice ao n cb] w (Post w [] (fun v L => v = .agg (cu8 (sumG constL initL b)).toArray ∧ L = [])) := by
 have hpm := pad_mod b
 have hmx : maxLen ≤ 9223372036854775807 := by unfold maxLen; omega
 refine enter w [] 42 [] [.slice ao n cb] Tryd.func24 rfl rfl (by simp) (Hp.start (by simp) (by simp) (by simp)) ?_
 show JC _ _ _ [(0, .slice ao n cb)] _
 refine JC_seq ?_
 refine JC_region ?_
 refine JL_step (Step_alloc _ (cu8 (zr8 32)) Tryd.zeroValue25 (by kernel_rfl)) rfl ?_
 rintro v1 L1 ⟨nb1, hnb1, rfl, rfl⟩
 show JL _ _ _ _ ((2, Ptr nb1 0) :: _) [⟨nb1, cu8 (zr8 32), 25, (0, 0)⟩]
 refine JL_nil ?_
 refine JQ_then ?_
 refine JC_seq ?_
 refine JC_region ?_
 refine JL_val _ (Ev_move rfl) rfl ?_
 refine JL_step (Step_callN 27 [.slice ao n cb] _ (Cl_func [.slice ao n cb] Tryd.call27 rfl) (fun w1 hw1 => rpad_c ao n cb b w1 hb (by omega) (hr.at (M' := []) hw1 (by simp)))) rfl ?_
 rintro v1 L1 ⟨_, ⟨nb2, sp1, cp1, rfl, rfl, hc1, hc2, hc3⟩, rfl⟩
 show JL _ _ _ _ ((9, Slc nb2 0 ((padL b).length) cp1) :: _) [⟨nb1, cu8 (zr8 32), 25, (0, 0)⟩, ⟨nb2, cu8 (padL b) ++ sp1, 5, (0, 0)⟩]
 refine JL_val _ (Ev_assign rfl) rfl ?_
 refine JL_nil ?_
 refine JQ_then ?_
 refine JC_seq ?_
 refine JC_region ?_
 refine JL_val (.agg (cu32 initL).toArray) (Ev_load rfl (Ld_agg Tryd.isAgg31 Tryd.sizeOf31 (len_cu32 initL_len) (MemAt.seg ((id hGi : RdA w 1 0 (cu32 initL)).mem (by simp)) (Seg.whole _) (by omega)))) rfl ?_
 refine JL_step (Step_alloc _ (cu32 (zr32 8)) Tryd.zeroValue31 (by kernel_rfl)) rfl ?_
 rintro v1 L1 ⟨nb3, hnb3, rfl, rfl⟩
 show JL _ _ _ _ ((4, Ptr nb3 0) :: _) [⟨nb1, cu8 (zr8 32), 25, (0, 0)⟩, ⟨nb2, cu8 (padL b) ++ sp1, 5, (0, 0)⟩, ⟨nb3, cu32 (zr32 8), 31, (0, 0)⟩]
 refine JL_step (Step_store 2 nb3 0 8 (cu32 (zr32 8)) 31 (.agg (cu32 initL).toArray) (cu32 initL) (cu32 initL) rfl rfl rfl (by first | rfl | simp) Tryd.sizeOf31 (len_cu32 initL_len) (by first | exact one_u8 | exact one_u32 | exact one_u64 | (simp [cu8, cu32, cu64, Value.oneCell']; done)) (by simp [(zr32_len 8)]) (lay_whole (by simp [(zr32_len 8), initL_len]))) rfl ?_
 rintro v1 L1 ⟨rfl, rfl⟩
 show JL _ _ _ _ _ [⟨nb1, cu8 (zr8 32), 25, (0, 0)⟩, ⟨nb2, cu8 (padL b) ++ sp1, 5, (0, 0)⟩, ⟨nb3, cu32 initL, 31, (0, 0)⟩]
 refine JL_nil ?_
 refine JQ_then ?_
 refine JC_seq ?_
 refine JC_seq ?_
 refine JC_region ?_
 refine JL_val _ (Ev_assign rfl) rfl ?_
 refine JL_nil ?_
 refine JQ_then ?_
 refine JC_block ?_
 refine JC_loop (ι := Nat × List UInt32) (fun ⟨k, s⟩ => [(2, Ptr nb1 0), (3, Slc nb2 0 ((padL b).length) cp1), (4, Ptr nb3 0), (5, I64 (64*(k:Int)))]) (fun ⟨k, s⟩ => [⟨nb1, cu8 (zr8 32), 25, (0, 0)⟩, ⟨nb2, cu8 (padL b) ++ sp1, 5, (0, 0)⟩, ⟨nb3, cu32 s, 31, (0, 0)⟩]) (fun ⟨k, s⟩ => 64*k ≤ (padL b).length ∧ s = stN constL initL (padL b) k ∧ s.length = 8) (fun ⟨k, s⟩ => (padL b).length - k) (0, initL) ⟨by omega, by rw [stN], initL_len⟩ (Sub.cons rfl (Sub.cons rfl (Sub.cons rfl (Sub.cons rfl (Sub.nil))))) rfl ?_
 rintro ⟨k, s⟩ ⟨hx1, hx2, hs⟩
 show JC _ _ _ [(2, Ptr nb1 0), (3, Slc nb2 0 ((padL b).length) cp1), (4, Ptr nb3 0), (5, I64 (64*(k:Int)))] [⟨nb1, cu8 (zr8 32), 25, (0, 0)⟩, ⟨nb2, cu8 (padL b) ++ sp1, 5, (0, 0)⟩, ⟨nb3, cu32 s, 31, (0, 0)⟩]
 refine JC_seq ?_
 refine JC_seq ?_
 refine JC_region ?_
 refine JL_val _ (Ev_move rfl) rfl ?_
 refine JL_val _ (Ev_move rfl) rfl ?_
 refine JL_val (I64 (((padL b).length:Int))) (Ev_len Tryd.underlying22 rfl) rfl ?_
 refine JL_val (.bool (decide ((64*(k:Int)) < (((padL b).length:Int))))) (Ev_bini rfl rfl fun _ => bin_lss_i _ _) rfl ?_
 refine JL_nil ?_
 refine JQ_then ?_
 refine JC_cond (decide ((64*(k:Int)) < (((padL b).length:Int)))) rfl (fun hb1 => ?_) (fun hb1 => ?_)
 ·
  have hp1 : (64*(k:Int)) < (((padL b).length:Int)) := of_decide_eq_true hb1
  refine JC_skip ?_
  refine JQ_then ?_
  refine JC_seq ?_
  refine JC_block ?_
  refine JC_draw 42 3 [(0, .agg (cu32 s).toArray), (1, Slc nb2 0 ((padL b).length) cp1), (2, I64 (64*(k:Int))), (3, I64 (64*(k:Int))), (4, I64 (64*(k:Int) + 64)), (5, Slc nb2 (64*k) 64 (cp1 - 64*k))] Tryd.mixed rfl (by decide +kernel) ?_
  have hl1 : (mid (padL b) (64*k) 64).length = 64 := mid_len (by rw [(rfl : (padL b).length = _)]; omega)
  refine DP_one ⟨[], [0, 1, 2, 3, 4, 5], [], [0, 1, 2, 3, 4, 5], [6]⟩ 6 _ rfl rfl (by decide +kernel) rfl ⟨⟨_, rfl, Qok_val rfl (Ev_load rfl (Ld_agg Tryd.isAgg31 Tryd.sizeOf31 (len_cu32 hs) (MemAt.ent 2 rfl (Seg.whole _))))⟩, ⟨_, rfl, Qok_val rfl (Ev_move rfl)⟩, ⟨_, rfl, Qok_val rfl (Ev_move rfl)⟩, ⟨_, rfl, Qok_val rfl (Ev_move rfl)⟩, ⟨_, rfl, Qok_val rfl (Ev_bini rfl rfl fun _ => bin_add_i _ _ (64*(k:Int) + 64) (by omega) (by omega))⟩, ⟨_, rfl, Qok_val rfl (Ev_slice 5 1 (64*k) (64*k + 64) (64*k) (cp1 - 64*k) Tryd.underlying22 Tryd.sizeOf5 rfl (some_i64 (by omega)) (some_i64 (by omega)) (by omega) (by omega) (by omega) (by omega) (by omega) 64 (by omega))⟩, trivial⟩ rfl (Cok_step rfl (Step_callP 29 [.agg (cu32 s).toArray, Slc nb2 (64*k) 64 (cp1 - 64*k)] (.agg (cu32 (comprL constL s (mid (padL b) (64*k) 64))).toArray) (Cl_func [.agg (cu32 s).toArray, Slc nb2 (64*k) 64 (cp1 - 64*k)] Tryd.call29 rfl) (fun w1 hw1 => rcompress_c s (some ⟨nb2, (64*k), none⟩) (cp1 - 64*k) (mid (padL b) (64*k) 64) w1 hs hl1 (RdB.of hw1 (MemAt.ent 1 rfl (Seg.left (segm_u8 (64*k) 64 (by rw [(rfl : (padL b).length = _)]; omega)))) (by simp)) (GLr.at hw1 hGr)))) ?_
  rintro v1 L1 ⟨rfl, rfl⟩
  refine ⟨[], ?_⟩
  show DP _ _ _ _ _ _ _ _ [⟨nb1, cu8 (zr8 32), 25, (0, 0)⟩, ⟨nb2, cu8 (padL b) ++ sp1, 5, (0, 0)⟩, ⟨nb3, cu32 s, 31, (0, 0)⟩]
  refine DP_one ⟨[6], [0, 1, 2, 3, 4, 5], [0, 1, 2, 3, 4, 5], [], [7]⟩ 7 _ rfl rfl (by decide +kernel) rfl trivial rfl (Cok_step rfl (Step_store 2 nb3 0 8 (cu32 s) 31 (.agg (cu32 (comprL constL s (mid (padL b) (64*k) 64))).toArray) (cu32 (comprL constL s (mid (padL b) (64*k) 64))) (cu32 (comprL constL s (mid (padL b) (64*k) 64))) rfl rfl rfl (by first | rfl | simp) Tryd.sizeOf31 (len_cu32 (comprL_len hs)) (by first | exact one_u8 | exact one_u32 | exact one_u64 | (simp [cu8, cu32, cu64, Value.oneCell']; done)) (by simp [hs]) (lay_whole (by simp [hs, (comprL_len hs)])))) ?_
  rintro v1 L1 ⟨rfl, rfl⟩
  refine ⟨[], ?_⟩
  show DP _ _ _ _ _ _ _ _ [⟨nb1, cu8 (zr8 32), 25, (0, 0)⟩, ⟨nb2, cu8 (padL b) ++ sp1, 5, (0, 0)⟩, ⟨nb3, cu32 (comprL constL s (mid (padL b) (64*k) 64)), 31, (0, 0)⟩]
  refine DP_end ⟨[6, 7], [0, 1, 2, 3, 4, 5], [0, 1, 2, 3, 4, 5], [], []⟩ rfl rfl (by decide +kernel) rfl trivial ?_
  refine K_sub (F' := [(17, .agg (cu32 s).toArray), (18, Slc nb2 0 ((padL b).length) cp1), (19, I64 (64*(k:Int))), (20, I64 (64*(k:Int))), (21, I64 (64*(k:Int) + 64)), (22, Slc nb2 (64*k) 64 (cp1 - 64*k)), (23, .agg (cu32 (comprL constL s (mid (padL b) (64*k) 64))).toArray), (2, Ptr nb1 0), (3, Slc nb2 0 ((padL b).length) cp1), (4, Ptr nb3 0), (5, I64 (64*(k:Int))), (11, I64 (64*(k:Int))), (12, Slc nb2 0 ((padL b).length) cp1), (13, I64 (((padL b).length:Int))), (14, .bool (decide ((64*(k:Int)) < (((padL b).length:Int)))))]) (Sub.cons (by kernel_rfl) (Sub.cons (by kernel_rfl) (Sub.cons (by kernel_rfl) (Sub.cons (by kernel_rfl) (Sub.cons (by kernel_rfl) (Sub.cons (by kernel_rfl) (Sub.cons (by kernel_rfl) (Sub.cons (by kernel_rfl) (Sub.cons (by kernel_rfl) (Sub.cons (by kernel_rfl) (Sub.cons (by kernel_rfl) (Sub.cons (by kernel_rfl) (Sub.cons (by kernel_rfl) (Sub.cons (by kernel_rfl) (Sub.cons (by kernel_rfl) (Sub.nil)))))))))))))))) ?_
  show JQ _ _ _ [(17, .agg (cu32 s).toArray), (18, Slc nb2 0 ((padL b).length) cp1), (19, I64 (64*(k:Int))), (20, I64 (64*(k:Int))), (21, I64 (64*(k:Int) + 64)), (22, Slc nb2 (64*k) 64 (cp1 - 64*k)), (23, .agg (cu32 (comprL constL s (mid (padL b) (64*k) 64))).toArray), (2, Ptr nb1 0), (3, Slc nb2 0 ((padL b).length) cp1), (4, Ptr nb3 0), (5, I64 (64*(k:Int))), (11, I64 (64*(k:Int))), (12, Slc nb2 0 ((padL b).length) cp1), (13, I64 (((padL b).length:Int))), (14, .bool (decide ((64*(k:Int)) < (((padL b).length:Int)))))] _
  refine JQ_in_normal ?_
  refine JQ_then ?_
  refine JC_region ?_
  refine JL_val _ (Ev_move rfl) rfl ?_
  refine JL_val (I64 (64*(k:Int) + 64)) (Ev_bini rfl rfl fun _ => bin_add_i _ _ (64*(k:Int) + 64) (by omega) (by omega)) rfl ?_
  refine JL_val _ (Ev_assign rfl) rfl ?_
  refine JL_nil ?_
  refine JQ_thenK ?_
  refine K_next (k + 1, comprL constL s (mid (padL b) (64*k) 64)) ⟨by omega, by rw [stN, ← hx2], (comprL_len hs)⟩ (by first | (simp; omega) | simp) (Sub.cons rfl (Sub.cons rfl (Sub.cons rfl (Sub.cons rfl (Sub.nil))))) rfl
 ·
  have hp1 : ¬ ((64*(k:Int)) < (((padL b).length:Int))) := of_decide_eq_false hb1
  refine JC_exit ?_
  refine JQ_then_exit ?_
  refine JQ_then_exit ?_
  refine JQ_in_same ?_
  refine JQ_then ?_
  refine JC_seq ?_
  refine JC_region ?_
  refine JL_step (Step_alloc _ (cu8 (zr8 32)) Tryd.zeroValue25 (by kernel_rfl)) rfl ?_
  rintro v1 L1 ⟨nb4, hnb4, rfl, rfl⟩
  show JL _ _ _ _ ((6, Ptr nb4 0) :: _) [⟨nb1, cu8 (zr8 32), 25, (0, 0)⟩, ⟨nb2, cu8 (padL b) ++ sp1, 5, (0, 0)⟩, ⟨nb3, cu32 s, 31, (0, 0)⟩, ⟨nb4, cu8 (zr8 32), 25, (0, 0)⟩]
  refine JL_nil ?_
  refine JQ_then ?_
  refine JC_seq ?_
  refine JC_seq ?_
  refine JC_region ?_
  refine JL_val _ (Ev_assign rfl) rfl ?_
  refine JL_nil ?_
  refine JQ_then ?_
  refine JC_block ?_
  refine K_mask [true, false, true, true] ?_
  show JC _ _ _ _ [⟨nb1, cu8 (zr8 32), 25, (0, 0)⟩, ⟨nb3, cu32 s, 31, (0, 0)⟩, ⟨nb4, cu8 (zr8 32), 25, (0, 0)⟩]
  refine JC_loop (ι := Nat × List UInt8) (fun ⟨i, o⟩ => [(2, Ptr nb1 0), (4, Ptr nb3 0), (6, Ptr nb4 0), (7, I64 ((i:Int)))]) (fun ⟨i, o⟩ => [⟨nb1, cu8 (zr8 32), 25, (0, 0)⟩, ⟨nb3, cu32 s, 31, (0, 0)⟩, ⟨nb4, cu8 o, 25, (0, 0)⟩]) (fun ⟨i, o⟩ => i ≤ 32 ∧ o = routN s i ∧ o.length = 32) (fun ⟨i, o⟩ => 32 - i) (0, zr8 32) ⟨by omega, by rw [routN], zr8_len 32⟩ (Sub.cons rfl (Sub.cons rfl (Sub.cons rfl (Sub.cons rfl (Sub.nil))))) rfl ?_
  rintro ⟨i, o⟩ ⟨hz1, hz2, ho⟩
  show JC _ _ _ [(2, Ptr nb1 0), (4, Ptr nb3 0), (6, Ptr nb4 0), (7, I64 ((i:Int)))] [⟨nb1, cu8 (zr8 32), 25, (0, 0)⟩, ⟨nb3, cu32 s, 31, (0, 0)⟩, ⟨nb4, cu8 o, 25, (0, 0)⟩]
  refine JC_seq ?_
  refine JC_seq ?_
  refine JC_region ?_
  refine JL_val _ (Ev_move rfl) rfl ?_
  refine JL_val (.bool (decide (((i:Int)) < (32:Int)))) (Ev_bini rfl rfl fun _ => bin_lss_i _ _) rfl ?_
  refine JL_nil ?_
  refine JQ_then ?_
  refine JC_cond (decide (((i:Int)) < (32:Int))) rfl (fun hb2 => ?_) (fun hb2 => ?_)
  ·
   have hp2 : ((i:Int)) < (32:Int) := of_decide_eq_true hb2
   refine JC_skip ?_
   refine JQ_then ?_
   refine JC_seq ?_
   refine JC_block ?_
   refine JC_region ?_
   refine JL_val _ (Ev_move rfl) rfl ?_
   refine JL_val _ (Ev_move rfl) rfl ?_
   refine JL_val (I64 ((i / 4:Int))) (Ev_bini rfl rfl fun _ => bin_quo_i _ _ ((i / 4:Int)) (by omega) (by omega) (by omega)) rfl ?_
   refine JL_val (Ptr nb3 (i / 4)) (Ev_indexArr 8 30 1 (i / 4) Tryd.underlying31 Tryd.sizeOf30 rfl rfl (by omega) (by omega) (by omega)) rfl ?_
   refine JL_val (U32 (g32 s (i / 4))) (Ev_load rfl (Ld_one Tryd.isAgg30 (MemAt.ent 1 rfl (Seg.get (g32_get (i := (i / 4)) (by rw [hs]; omega)))))) rfl ?_
   refine JL_val _ (Ev_move rfl) rfl ?_
   refine JL_val (I64 ((i % 4:Int))) (Ev_bini rfl rfl fun _ => bin_rem_i _ _ ((i % 4:Int)) (by omega) (by omega) (by omega)) rfl ?_
   refine JL_val (I64 (8*(i % 4:Int))) (Ev_bini rfl rfl fun _ => bin_mul_i _ _ (8*(i % 4:Int)) (by omega) (by omega)) rfl ?_
   refine JL_val (I64 (-8*(i % 4:Int) + 24)) (Ev_bini rfl rfl fun _ => bin_sub_i _ _ (-8*(i % 4:Int) + 24) (by omega) (by omega)) rfl ?_
   refine JL_val (U64 (UInt64.ofNat (24 - 8*(i % 4)))) (Ev_conv _ _ rfl fun _ => conv_i64_u64 (by rw [Tryd.underlying3]; rfl) Tryd.underlying52 (24 - 8*(i % 4)) _ (by omega)) rfl ?_
   refine JL_val (U32 ((g32 s (i / 4)) >>> UInt32.ofNat (24 - 8*(i % 4)))) (Ev_bini rfl rfl fun _ => bin_shr_u32 (g32 s (i / 4)) _ _ (24 - 8*(i % 4)) (by omega) (ofN_i (by omega))) rfl ?_
   refine JL_val (U8 (((g32 s (i / 4)) >>> UInt32.ofNat (24 - 8*(i % 4))).toUInt8)) (Ev_conv _ _ rfl fun _ => conv_u32_u8 (by rw [Tryd.underlying30]; rfl) Tryd.underlying5 _) rfl ?_
   refine JL_val (Ptr nb4 i) (Ev_indexArr 32 5 1 i Tryd.underlying25 Tryd.sizeOf5 rfl rfl (by omega) (by omega) (by omega)) rfl ?_
   have hl2 : (o.set i (((g32 s (i / 4)) >>> UInt32.ofNat (24 - 8*(i % 4))).toUInt8)).length = 32 := by simp [ho]
   refine JL_step (Step_store 2 nb4 i 1 (cu8 o) 25 (U8 (((g32 s (i / 4)) >>> UInt32.ofNat (24 - 8*(i % 4))).toUInt8)) ([U8 (((g32 s (i / 4)) >>> UInt32.ofNat (24 - 8*(i % 4))).toUInt8)]) (cu8 (o.set i (((g32 s (i / 4)) >>> UInt32.ofNat (24 - 8*(i % 4))).toUInt8))) rfl rfl rfl rfl Tryd.sizeOf5 rfl (by simp [Value.oneCell']) (by simp [ho]; try omega) (lay8 _ _ _ (by rw [ho]; omega))) rfl ?_
   rintro v1 L1 ⟨rfl, rfl⟩
   show JL _ _ _ _ _ [⟨nb1, cu8 (zr8 32), 25, (0, 0)⟩, ⟨nb3, cu32 s, 31, (0, 0)⟩, ⟨nb4, cu8 (o.set i (((g32 s (i / 4)) >>> UInt32.ofNat (24 - 8*(i % 4))).toUInt8)), 25, (0, 0)⟩]
   refine JL_nil ?_
   refine JQ_in_normal ?_
   refine JQ_then ?_
   refine JC_region ?_
   refine JL_val _ (Ev_move rfl) rfl ?_
   refine JL_val (I64 ((i:Int) + 1)) (Ev_bini rfl rfl fun _ => bin_add_i _ _ ((i:Int) + 1) (by omega) (by omega)) rfl ?_
   refine JL_val _ (Ev_assign rfl) rfl ?_
   refine JL_nil ?_
   refine JQ_thenK ?_
   refine K_next (i + 1, o.set i (((g32 s (i / 4)) >>> UInt32.ofNat (24 - 8*(i % 4))).toUInt8)) ⟨by omega, by rw [routN, byteAt, ← hz2], hl2⟩ (by first | (simp; omega) | simp) (Sub.cons rfl (Sub.cons rfl (Sub.cons rfl (Sub.cons rfl (Sub.nil))))) rfl
  ·
   have hp2 : ¬ (((i:Int)) < (32:Int)) := of_decide_eq_false hb2
   refine JC_exit ?_
   refine JQ_then_exit ?_
   refine JQ_then_exit ?_
   refine JQ_in_same ?_
   refine JQ_then ?_
   refine JC_seq ?_
   refine JC_region ?_
   refine JL_val (.agg (cu8 o).toArray) (Ev_load rfl (Ld_agg Tryd.isAgg25 Tryd.sizeOf25 (len_cu8 ho) (MemAt.ent 2 rfl (Seg.whole _)))) rfl ?_
   refine JL_step (Step_store 0 nb1 0 32 (cu8 (zr8 32)) 25 (.agg (cu8 o).toArray) (cu8 o) (cu8 o) rfl rfl rfl (by first | rfl | simp) Tryd.sizeOf25 (len_cu8 ho) (by first | exact one_u8 | exact one_u32 | exact one_u64 | (simp [cu8, cu32, cu64, Value.oneCell']; done)) (by simp [(zr8_len 32)]) (lay_whole (by simp [(zr8_len 32), ho]))) rfl ?_
   rintro v1 L1 ⟨rfl, rfl⟩
   show JL _ _ _ _ _ [⟨nb1, cu8 o, 25, (0, 0)⟩, ⟨nb3, cu32 s, 31, (0, 0)⟩, ⟨nb4, cu8 o, 25, (0, 0)⟩]
   refine JL_nil ?_
   refine JQ_then ?_
   refine JC_ret ?_
   refine JQ_ret (.agg (cu8 o).toArray) (res1 Tryd.results24 (RV_cell rfl (Ld_agg Tryd.isAgg25 Tryd.sizeOf25 (len_cu8 ho) (MemAt.ent 0 rfl (Seg.whole _))))) fun w1 hw1 => ?_
   have e1 : i = 32 := by omega
   have e2 : k = (padL b).length / 64 := by omega
   subst e1
   refine ⟨_, [], rfl, ⟨?_, rfl⟩, hw1.sub (by simp) (by simp)⟩
   rw [sumG, ← routN_hash, hz2, hx2, e2]
end Go.Proofs.YtncoifiafklkjaaDoor
namespace Go.Sx
open Go Go.RowKit
set_option linter.unusedVariables false
set_option linter.unusedSimpArgs false
variable {C : Cx} {F : Frm} {L : List Ent}
theorem Step_appG8 {x y : Operand} {ty : TypeId} (t e : Nat) (a0 : Addr) (n cap : Nat) (l z : List UInt8) (ao : Option Addr) (k c tot : Nat)
    (hu : C.P.underlying t = some (.slice e)) (hi : (C.P.info? e).map (fun i => (i.zero, i.size, i.bytes)) = some (some (.int .u8 0), 1, 1))
    (hx : ev F x = some (.slice (some a0) n cap)) (hl : l.length = n) (hr : SrcAt C L (some a0) (cu8 l))
    (hy : ev F y = some (.slice ao k c)) (hk : z.length = k) (hm : SrcAt C L ao (cu8 z)) (hk0 : 0 < k) (hg : cap < n + k) (hmax : (n + k) * 1 ≤ 140737488355328) (hmax' : n + k ≤ maxLen) (htot : n + k = tot) :
    Step C F L (.call { callee := .builtin .append, args := #[x, y], argTypes := #[t, t] }) ty fun v' L' => ∃ g sp cap', C.w0.heap.size ≤ g ∧ v' = Slc g 0 tot cap' ∧ L' = L ++ [⟨g, cu8 (l ++ z) ++ sp, e, (0, 0)⟩] ∧ (l ++ z).length = tot ∧ sp.length = cap' - tot ∧ tot ≤ cap' ∧ cap' ≤ maxLen :=
  Step_run fun a w ha hw d pos aft g => by
  subst htot
  obtain ⟨i, hi1, hi2, hi3, hi4⟩ := info_of hi
  have he := ha.ev hx
  have he' := ha.ev hy
  cases ao with
  | none =>
    have := hm.1 rfl
    have hz : z = [] := by simpa [cu8] using this
    subst hz; simp at hk; omega
  | some ad =>
    have hsrc : ∀ j u, (cu8 z)[j]? = some u → w.cell? (ad.add j) = some u := fun j u hj => hm.2 ad rfl w hw j u hj
    have hold : ∀ j u, (cu8 l)[j]? = some u → w.cell? (a0.add j) = some u := fun j u hj => hr.2 a0 rfl w hw j u hj
    obtain ⟨v', w', hrun, hown, hgr⟩ := run_append_arg_grows (P := C.P) (w := w) t ty e i (.int .u8 0) 1 1 hu hi1 hi2 hi3 hi4 rfl (by decide) a0 n cap (cu8 l) (by simp [cu8, hl]) hold ad k c (cu8 z) (by simp [cu8, hk]) hsrc hg hmax' hmax
    obtain ⟨hlen, hcase⟩ := hown
    rcases hcase with ⟨_, h5⟩ | ⟨g', cap', cur, rfl, hb, hh, hcap, hmaxl, hsz, htk⟩
    · omega
    · have hcur : cur = (cu8 (l ++ z) ++ cur.toList.drop ((n + k) * 1)).toArray := by
        apply Array.toList_inj.1
        rw [cu8, List.map_append]
        show cur.toList = (cu8 l ++ cu8 z) ++ _
        rw [← htk]; simp
      refine ⟨_, L ++ [⟨g', cu8 (l ++ z) ++ cur.toList.drop ((n + k) * 1), e, (0, 0)⟩], w', ⟨g', cur.toList.drop ((n + k) * 1), cap', Nat.le_trans hw.le hb, rfl, rfl, by simp [hl, hk], ?_, hcap, hmaxl⟩, hw.grown (m := []) none hgr (fun b hb => by cases hb) (by rw [← hcur]; exact hh) (.inl hb), .inl ?_⟩
      · have := congrArg Array.size hcur
        rw [hsz] at this
        simp [cu8, hl, hk] at this
        simp; omega
      · simp [execOp, resolve, invoke, he, he', builtin, hrun]
end Go.Sx
namespace Go.Proofs.YtncoifiafklkjaaDoor
open Go Go.Sx
set_option linter.unusedVariables false
set_option linter.unusedSimpArgs false
theorem spl_zr (v : List UInt8) {n : Nat} (h : v.length = n) : spl (zr8 64) 0 v = v ++ zr8 (64 - n) := by
 subst h
 rw [spl, List.take_zero, List.nil_append, Nat.zero_add, zr8, zr8, List.drop_replicate]
theorem blkL_big {b : List UInt8} (h : 64 < b.length) : blkL b = sumG constL initL b ++ zr8 32 := by
 rw [blkL, if_pos h, spl_zr _ (sumG_len _ _ _)]
theorem blkL_small {b : List UInt8} (h : b.length ≤ 64) : blkL b = b ++ zr8 (64 - b.length) := by
 rw [blkL, if_neg (by omega), spl_zr _ rfl]
theorem xbN_get (b : List UInt8) (x : UInt8) : ∀ k, k ≤ b.length → ∀ j, g8 (xbN b x k) j = if j < k then g8 b j ^^^ x else g8 b j
  | 0, _, j => by simp [xbN]
  | k + 1, h, j => by
    rw [xbN, g8_set _ _ _ _ (by rw [xbN_len]; omega)]
    by_cases hj : k = j
    · subst hj; rw [if_pos rfl, if_pos (by omega), xbN_get b x k (by omega), if_neg (by omega)]
    · rw [if_neg hj, xbN_get b x k (by omega)]
      by_cases h2 : j < k
      · rw [if_pos h2, if_pos (by omega)]
      · rw [if_neg h2, if_neg (by omega)]
def raN (b : List UInt8) (x : UInt8) : Nat → List UInt8
 | 0 => []
 | k + 1 => raN b x k ++ [g8 b k ^^^ x]
theorem raN_len (b : List UInt8) (x : UInt8) : ∀ k, (raN b x k).length = k
 | 0 => rfl
 | k + 1 => by rw [raN, List.length_append, raN_len b x k]; rfl
theorem raN_get (b : List UInt8) (x : UInt8) : ∀ k j, j < k → g8 (raN b x k) j = g8 b j ^^^ x
  | 0, j, h => by omega
  | k + 1, j, h => by
    rw [raN]
    by_cases hj : j < k
    · rw [g8_app, raN_len, if_pos hj, raN_get b x k j hj]
    · obtain rfl : j = k := by omega
      rw [g8_app, raN_len, if_neg (by omega), Nat.sub_self]; rfl
theorem raN_xbN {b : List UInt8} (x : UInt8) (h : b.length = 64) : raN b x 64 = xbN b x 64 :=
 ext8 (by rw [raN_len, xbN_len, h]) fun j hj => by
  rw [raN_len] at hj
  rw [raN_get b x 64 j hj, xbN_get b x 64 (by omega), if_pos hj]
end Go.Proofs.YtncoifiafklkjaaDoor
namespace Go.Proofs.YtncoifiafklkjaaDoor
open Go Go.Sx
set_option linter.unusedVariables false
set_option linter.unusedSimpArgs false
set_option maxRecDepth 100000
attribute [local irreducible] mid zr8 zr32 rotr wordL spreadL comprL cpN adN spN wrdN constL initL padL stN outN routN hashL sumG blkL xbN raN macL orN
theorem rblockS_c (ao : Option Addr) (n cb : Nat) (b : List UInt8) (w : World) (hb : b.length = n) (hcb : ao = none → cb = 0) (hr : RdB w [] ao b) (hGr : GLr w) (hGi : GLi w) (hn : n ≤ 64) : Calls Tryd.prog 41 #[.slice ao n cb] w (Post w [] (fun v L => ∃ g sp cap, v = Slc g 0 64 cap ∧ L = [⟨g, cu8 (blkL b) ++ sp, 5, (0, 0)⟩] ∧ sp.length = cap - 64 ∧ 64 ≤ cap ∧ cap ≤ maxLen)) := by
 have hmx : maxLen = 9223372036854775807 := rfl
 refine enter w [] 21 [] [.slice ao n cb] Tryd.func41 rfl rfl (by simp) (Hp.start (by simp) (by simp) (by simp)) ?_
 show JC _ _ _ [(0, .slice ao n cb)] _
 refine JC_seq ?_
 refine JC_region ?_
 refine JL_val _ (Ev_assign rfl) rfl ?_
 refine JL_nil ?_
 refine JQ_then ?_
 refine JC_seq ?_
 refine JC_region ?_
 refine JL_step (Step_buildSlice0 5 1 Tryd.underlying22 Tryd.sizeOf5) rfl ?_
 rintro v1 L1 ⟨nb1, hnb1, rfl, rfl⟩
 show JL _ _ _ _ ((5, Slc nb1 0 0 0) :: _) [⟨nb1, [], 5, (0, 0)⟩]
 refine JL_val _ (Ev_move rfl) rfl ?_
 refine JL_step (Step_appM8 22 5 [true] (Slc nb1 0 0 0) 0 ([] : List UInt8) b ao n cb n Tryd.underlying22 Tryd.info5 rfl (.inr ⟨nb1, [], 0, rfl, (by simp [take?, cu8, cu32, cu64]), rfl, (by simp), (by omega), (by unfold maxLen; omega)⟩) rfl (by simp [hb]; try omega) (hr.src) (by omega) (by unfold maxLen; omega) (by omega)) rfl ?_
 rintro v1 L1 ⟨nb2, sp1, cp1, hg1, rfl, rfl, ha1, ha2, ha3, ha4⟩
 show JL _ _ _ _ ((7, Slc nb2 0 n cp1) :: _) [⟨nb2, cu8 (([] : List UInt8) ++ b) ++ sp1, 5, (0, 0)⟩]
 refine JL_val _ (Ev_assign rfl) rfl ?_
 refine JL_nil ?_
 refine JQ_then ?_
 refine JC_seq ?_
 refine JC_seq ?_
 refine JC_region ?_
 refine JL_val _ (Ev_move rfl) rfl ?_
 refine JL_val (I64 ((n:Int))) (Ev_len Tryd.underlying22 rfl) rfl ?_
 refine JL_val (.bool (decide ((64:Int) < ((n:Int))))) (Ev_bini rfl rfl fun _ => bin_gtr_i _ _) rfl ?_
 refine JL_nil ?_
 refine JQ_then ?_
 refine JC_condF _ rfl (decide_eq_false (by omega)) ?_
 refine JC_skip ?_
 refine JQ_then ?_
 refine JC_seq ?_
 refine JC_block ?_
 refine JC_loop (ι := Nat × List UInt8 × Nat × List Value × Nat) (fun ⟨j, o, g1, sp1, cp1⟩ => [(2, .slice none 0 0), (3, Slc g1 0 (j + n) cp1)]) (fun ⟨j, o, g1, sp1, cp1⟩ => [⟨g1, cu8 o ++ sp1, 5, (0, 0)⟩]) (fun ⟨j, o, g1, sp1, cp1⟩ => j + n ≤ 64 ∧ o = b ++ zr8 j ∧ o.length = j + n ∧ sp1.length = cp1 - (j + n) ∧ j + n ≤ cp1 ∧ cp1 ≤ maxLen) (fun ⟨j, o, g1, sp1, cp1⟩ => 64 - (j + n)) (0, ([] : List UInt8) ++ b, nb2, sp1, cp1) ⟨by omega, by simp [zr8], by simp [hb], by omega, by omega, ha4⟩ (Sub.cons rfl (Sub.cons (some_slc (by omega)) (Sub.nil))) rfl ?_
 rintro ⟨j, o, g1, sp1, cp1⟩ ⟨hx1, hx2, ho, hx4, hx5, hx6⟩
 show JC _ _ _ [(2, .slice none 0 0), (3, Slc g1 0 (j + n) cp1)] [⟨g1, cu8 o ++ sp1, 5, (0, 0)⟩]
 refine JC_seq ?_
 refine JC_seq ?_
 refine JC_region ?_
 refine JL_val _ (Ev_move rfl) rfl ?_
 refine JL_val (I64 ((j:Int) + (n:Int))) (Ev_lenX Tryd.underlying22 rfl (by omega)) rfl ?_
 refine JL_val (.bool (decide (((j:Int) + (n:Int)) < (64:Int)))) (Ev_bini rfl rfl fun _ => bin_lss_i _ _) rfl ?_
 refine JL_nil ?_
 refine JQ_then ?_
 refine JC_cond (decide (((j:Int) + (n:Int)) < (64:Int))) rfl (fun hb1 => ?_) (fun hb1 => ?_)
 ·
  have hp1 : ((j:Int) + (n:Int)) < (64:Int) := of_decide_eq_true hb1
  refine JC_skip ?_
  refine JQ_then ?_
  refine JC_block ?_
  refine JC_region ?_
  refine JL_val _ (Ev_move rfl) rfl ?_
  refine JL_step (Step_buildSlice 5 1 _ [(0, U8 (0:UInt8))] (cu8 ([(0:UInt8)])) Tryd.underlying22 Tryd.sizeOf5 Tryd.zeroValue5 rfl rfl rfl (by kernel_rfl)) rfl ?_
  rintro v1 L1 ⟨nb3, hnb3, rfl, rfl⟩
  show JL _ _ _ _ ((18, Slc nb3 0 1 1) :: _) [⟨g1, cu8 o ++ sp1, 5, (0, 0)⟩, ⟨nb3, cu8 ([(0:UInt8)]), 5, (0, 0)⟩]
  refine JL_step (Step_appM8 22 5 [true, false] (Slc g1 0 (j + n) cp1) (j + n) o ([(0:UInt8)]) (some ⟨nb3, 0, none⟩) 1 1 (j + n + 1) Tryd.underlying22 Tryd.info5 rfl (.inr ⟨g1, sp1, cp1, rfl, rfl, (by first | exact ho | simp [ho]), hx4, (by omega), (by omega)⟩) rfl (by simp) (SrcAt.mem (MemAt.ent 1 rfl (Seg.whole _))) (by omega) (by unfold maxLen; omega) (by omega)) rfl ?_
  rintro v1 L1 ⟨nb4, sp2, cp2, hg2, rfl, rfl, ha5, ha6, ha7, ha8⟩
  show JL _ _ _ _ ((19, Slc nb4 0 (j + n + 1) cp2) :: _) [⟨nb3, cu8 ([(0:UInt8)]), 5, (0, 0)⟩, ⟨nb4, cu8 (o ++ ([(0:UInt8)])) ++ sp2, 5, (0, 0)⟩]
  refine JL_val _ (Ev_assign rfl) rfl ?_
  refine JL_nil ?_
  refine JQ_in_normal ?_
  refine JQ_thenK ?_
  refine K_mask [false, true] ?_
  show K _ _ [⟨nb4, cu8 (o ++ ([(0:UInt8)])) ++ sp2, 5, (0, 0)⟩] _
  refine K_next (j + 1, o ++ ([(0:UInt8)]), nb4, sp2, cp2) ⟨by omega, by rw [hx2, zr8_succ, List.append_assoc], (ha5).trans (by first | rfl | simp +arith), (ha6).trans (by first | rfl | simp +arith), by omega, ha8⟩ (by first | (simp; omega) | simp) (Sub.cons rfl (Sub.cons (some_slc (by omega)) (Sub.nil))) rfl
 ·
  have hp1 : ¬ (((j:Int) + (n:Int)) < (64:Int)) := of_decide_eq_false hb1
  refine JC_exit ?_
  refine JQ_then_exit ?_
  refine JQ_then_exit ?_
  refine JQ_in_same ?_
  refine JQ_then ?_
  refine JC_seq ?_
  refine JC_region ?_
  refine JL_val _ (Ev_move rfl) rfl ?_
  refine JL_val _ (Ev_assign rfl) rfl ?_
  refine JL_nil ?_
  refine JQ_then ?_
  refine JC_ret ?_
  refine JQ_ret (Slc g1 0 (j + n) cp1) (res1 Tryd.results41 (RV_tmp rfl)) fun w1 hw1 => ?_
  have e1 : n + j = 64 := by omega
  have ex : o = blkL b := by rw [blkL_small (by omega), hx2]; congr 2; omega
  rw [ex] at hw1
  exact ⟨_, _, rfl, ⟨g1, sp1, cp1, slc_len (by omega), rfl, by omega, by omega, hx6⟩, hw1.sub (by simp) (by simp)⟩
theorem rblockB_c (ao : Option Addr) (n cb : Nat) (b : List UInt8) (w : World) (hb : b.length = n) (hcb : ao = none → cb = 0) (hr : RdB w [] ao b) (hGr : GLr w) (hGi : GLi w) (hn : 64 < n) (hn2 : n ≤ 17592186044416) : Calls Tryd.prog 41 #[.slice ao n cb] w (Post w [] (fun v L => ∃ g sp cap, v = Slc g 0 64 cap ∧ L = [⟨g, cu8 (blkL b) ++ sp, 5, (0, 0)⟩] ∧ sp.length = cap - 64 ∧ 64 ≤ cap ∧ cap ≤ maxLen)) := by
 have hmx : maxLen = 9223372036854775807 := rfl
 refine enter w [] 21 [] [.slice ao n cb] Tryd.func41 rfl rfl (by simp) (Hp.start (by simp) (by simp) (by simp)) ?_
 show JC _ _ _ [(0, .slice ao n cb)] _
 refine JC_seq ?_
 refine JC_region ?_
 refine JL_val _ (Ev_assign rfl) rfl ?_
 refine JL_nil ?_
 refine JQ_then ?_
 refine JC_seq ?_
 refine JC_region ?_
 refine JL_step (Step_buildSlice0 5 1 Tryd.underlying22 Tryd.sizeOf5) rfl ?_
 rintro v1 L1 ⟨nb1, hnb1, rfl, rfl⟩
 show JL _ _ _ _ ((5, Slc nb1 0 0 0) :: _) [⟨nb1, [], 5, (0, 0)⟩]
 refine JL_val _ (Ev_move rfl) rfl ?_
 refine JL_step (Step_appM8 22 5 [true] (Slc nb1 0 0 0) 0 ([] : List UInt8) b ao n cb n Tryd.underlying22 Tryd.info5 rfl (.inr ⟨nb1, [], 0, rfl, (by simp [take?, cu8, cu32, cu64]), rfl, (by simp), (by omega), (by unfold maxLen; omega)⟩) rfl (by simp [hb]; try omega) (hr.src) (by omega) (by unfold maxLen; omega) (by omega)) rfl ?_
 rintro v1 L1 ⟨nb2, sp1, cp1, hg1, rfl, rfl, ha1, ha2, ha3, ha4⟩
 show JL _ _ _ _ ((7, Slc nb2 0 n cp1) :: _) [⟨nb2, cu8 (([] : List UInt8) ++ b) ++ sp1, 5, (0, 0)⟩]
 refine JL_val _ (Ev_assign rfl) rfl ?_
 refine JL_nil ?_
 refine JQ_then ?_
 refine JC_seq ?_
 refine JC_seq ?_
 refine JC_region ?_
 refine JL_val _ (Ev_move rfl) rfl ?_
 refine JL_val (I64 ((n:Int))) (Ev_len Tryd.underlying22 rfl) rfl ?_
 refine JL_val (.bool (decide ((64:Int) < ((n:Int))))) (Ev_bini rfl rfl fun _ => bin_gtr_i _ _) rfl ?_
 refine JL_nil ?_
 refine JQ_then ?_
 refine JC_condT _ rfl (decide_eq_true (by omega)) ?_
 refine JC_seq ?_
 refine JC_region ?_
 refine JL_val _ (Ev_move rfl) rfl ?_
 refine JL_step (Step_callP 24 [.slice ao n cb] (.agg (cu8 (sumG constL initL b)).toArray) (Cl_func [.slice ao n cb] Tryd.call24 rfl) (fun w1 hw1 => rsum_c ao n cb b w1 hb (by omega) (hr.at (M' := []) hw1 (by simp)) (GLr.at hw1 hGr) (GLi.at hw1 hGi))) rfl ?_
 rintro v1 L1 ⟨rfl, rfl⟩
 show JL _ _ _ _ ((12, .agg (cu8 (sumG constL initL b)).toArray) :: _) [⟨nb2, cu8 (([] : List UInt8) ++ b) ++ sp1, 5, (0, 0)⟩]
 refine JL_step (Step_alloc _ (cu8 (zr8 32)) Tryd.zeroValue25 (by kernel_rfl)) rfl ?_
 rintro v1 L1 ⟨nb3, hnb3, rfl, rfl⟩
 show JL _ _ _ _ ((4, Ptr nb3 0) :: _) [⟨nb2, cu8 (([] : List UInt8) ++ b) ++ sp1, 5, (0, 0)⟩, ⟨nb3, cu8 (zr8 32), 25, (0, 0)⟩]
 refine JL_step (Step_store 1 nb3 0 32 (cu8 (zr8 32)) 25 (.agg (cu8 (sumG constL initL b)).toArray) (cu8 (sumG constL initL b)) (cu8 (sumG constL initL b)) rfl rfl rfl (by first | rfl | simp) Tryd.sizeOf25 (len_cu8 (sumG_len _ _ _)) (by first | exact one_u8 | exact one_u32 | exact one_u64 | (simp [cu8, cu32, cu64, Value.oneCell']; done)) (by simp [(zr8_len 32)]) (lay_whole (by simp [(zr8_len 32), (sumG_len _ _ _)]))) rfl ?_
 rintro v1 L1 ⟨rfl, rfl⟩
 show JL _ _ _ _ _ [⟨nb2, cu8 (([] : List UInt8) ++ b) ++ sp1, 5, (0, 0)⟩, ⟨nb3, cu8 (sumG constL initL b), 25, (0, 0)⟩]
 refine JL_nil ?_
 refine JQ_then ?_
 refine JC_region ?_
 refine JL_val (Slc nb3 0 32 32) (Ev_sliceA 32 5 1 0 32 0 32 Tryd.underlying25 Tryd.sizeOf5 rfl rfl rfl (by omega) (by omega) (by omega) (by omega) (by omega) 32 (by omega)) rfl ?_
 refine JL_val _ (Ev_assign rfl) rfl ?_
 refine JL_nil ?_
 refine JQ_then ?_
 refine JC_seq ?_
 refine JC_block ?_
 refine K_mask [false, true] ?_
 show JC _ _ _ _ [⟨nb3, cu8 (sumG constL initL b), 25, (0, 0)⟩]
 refine JC_loop (ι := (Unit) ⊕ (Nat × List UInt8 × Nat × List Value × Nat)) (fun x => match x with | .inl _ => [(2, .slice none 0 0), (3, Slc nb3 0 32 32)] | .inr ⟨j, o, g1, sp1, cp1⟩ => [(2, .slice none 0 0), (3, Slc g1 0 (j + 32) cp1)]) (fun x => match x with | .inl _ => [⟨nb3, cu8 (sumG constL initL b), 25, (0, 0)⟩] | .inr ⟨j, o, g1, sp1, cp1⟩ => [⟨g1, cu8 o ++ sp1, 5, (0, 0)⟩]) (fun x => match x with | .inl _ => True | .inr ⟨j, o, g1, sp1, cp1⟩ => 1 ≤ j ∧ j ≤ 32 ∧ o = sumG constL initL b ++ zr8 j ∧ o.length = j + 32 ∧ sp1.length = cp1 - (j + 32) ∧ j + 32 ≤ cp1 ∧ cp1 ≤ maxLen) (fun x => match x with | .inl _ => 33 | .inr ⟨j, o, g1, sp1, cp1⟩ => 32 - j) (.inl ()) trivial (Sub.cons rfl (Sub.cons rfl (Sub.nil))) rfl ?_
 rintro (_ | ⟨j, o, g1, sp1, cp1⟩) hx
 ·
  obtain _ := hx
  show JC _ _ _ [(2, .slice none 0 0), (3, Slc nb3 0 32 32)] [⟨nb3, cu8 (sumG constL initL b), 25, (0, 0)⟩]
  refine JC_seq ?_
  refine JC_seq ?_
  refine JC_region ?_
  refine JL_val _ (Ev_move rfl) rfl ?_
  refine JL_val (I64 (32:Int)) (Ev_len Tryd.underlying22 rfl) rfl ?_
  refine JL_val (.bool (decide ((32:Int) < (64:Int)))) (Ev_bini rfl rfl fun _ => bin_lss_i _ _) rfl ?_
  refine JL_nil ?_
  refine JQ_then ?_
  refine JC_condT _ rfl (by decide) ?_
  refine JC_skip ?_
  refine JQ_then ?_
  refine JC_block ?_
  refine JC_region ?_
  refine JL_val _ (Ev_move rfl) rfl ?_
  refine JL_step (Step_buildSlice 5 1 _ [(0, U8 (0:UInt8))] (cu8 ([(0:UInt8)])) Tryd.underlying22 Tryd.sizeOf5 Tryd.zeroValue5 rfl rfl rfl (by kernel_rfl)) rfl ?_
  rintro v1 L1 ⟨nb4, hnb4, rfl, rfl⟩
  show JL _ _ _ _ ((18, Slc nb4 0 1 1) :: _) [⟨nb3, cu8 (sumG constL initL b), 25, (0, 0)⟩, ⟨nb4, cu8 ([(0:UInt8)]), 5, (0, 0)⟩]
  refine JL_step (Step_appG8 22 5 ⟨nb3, 0, none⟩ 32 32 (sumG constL initL b) ([(0:UInt8)]) (some ⟨nb4, 0, none⟩) 1 1 33 Tryd.underlying22 Tryd.info5 rfl (sumG_len _ _ _) (SrcAt.mem (MemAt.ent 0 rfl (Seg.whole _))) rfl (by simp) (SrcAt.mem (MemAt.ent 1 rfl (Seg.whole _))) (by omega) (by omega) (by omega) (by unfold maxLen; omega) (by omega)) rfl ?_
  rintro v1 L1 ⟨nb5, sp2, cp2, hg2, rfl, rfl, ha5, ha6, ha7, ha8⟩
  show JL _ _ _ _ ((19, Slc nb5 0 33 cp2) :: _) [⟨nb3, cu8 (sumG constL initL b), 25, (0, 0)⟩, ⟨nb4, cu8 ([(0:UInt8)]), 5, (0, 0)⟩, ⟨nb5, cu8 ((sumG constL initL b) ++ ([(0:UInt8)])) ++ sp2, 5, (0, 0)⟩]
  refine JL_val _ (Ev_assign rfl) rfl ?_
  refine JL_nil ?_
  refine JQ_in_normal ?_
  refine JQ_thenK ?_
  refine K_mask [false, false, true] ?_
  show K _ _ [⟨nb5, cu8 ((sumG constL initL b) ++ ([(0:UInt8)])) ++ sp2, 5, (0, 0)⟩] _
  refine K_next (.inr (1, (sumG constL initL b) ++ ([(0:UInt8)]), nb5, sp2, cp2)) ⟨by omega, by omega, by simp [zr8], (ha5).trans (by first | rfl | simp +arith), (ha6).trans (by first | rfl | simp +arith), by omega, ha8⟩ (by first | (simp; omega) | simp) (Sub.cons rfl (Sub.cons (some_slc (by omega)) (Sub.nil))) rfl
 ·
  obtain ⟨hx0, hx1, hx2, ho, hx4, hx5, hx6⟩ := hx
  show JC _ _ _ [(2, .slice none 0 0), (3, Slc g1 0 (j + 32) cp1)] [⟨g1, cu8 o ++ sp1, 5, (0, 0)⟩]
  refine JC_seq ?_
  refine JC_seq ?_
  refine JC_region ?_
  refine JL_val _ (Ev_move rfl) rfl ?_
  refine JL_val (I64 ((j:Int) + 32)) (Ev_lenX Tryd.underlying22 rfl (by omega)) rfl ?_
  refine JL_val (.bool (decide (((j:Int) + 32) < (64:Int)))) (Ev_bini rfl rfl fun _ => bin_lss_i _ _) rfl ?_
  refine JL_nil ?_
  refine JQ_then ?_
  refine JC_cond (decide (((j:Int) + 32) < (64:Int))) rfl (fun hb1 => ?_) (fun hb1 => ?_)
  ·
   have hp1 : ((j:Int) + 32) < (64:Int) := of_decide_eq_true hb1
   refine JC_skip ?_
   refine JQ_then ?_
   refine JC_block ?_
   refine JC_region ?_
   refine JL_val _ (Ev_move rfl) rfl ?_
   refine JL_step (Step_buildSlice 5 1 _ [(0, U8 (0:UInt8))] (cu8 ([(0:UInt8)])) Tryd.underlying22 Tryd.sizeOf5 Tryd.zeroValue5 rfl rfl rfl (by kernel_rfl)) rfl ?_
   rintro v1 L1 ⟨nb6, hnb6, rfl, rfl⟩
   show JL _ _ _ _ ((18, Slc nb6 0 1 1) :: _) [⟨g1, cu8 o ++ sp1, 5, (0, 0)⟩, ⟨nb6, cu8 ([(0:UInt8)]), 5, (0, 0)⟩]
   refine JL_step (Step_appM8 22 5 [true, false] (Slc g1 0 (j + 32) cp1) (j + 32) o ([(0:UInt8)]) (some ⟨nb6, 0, none⟩) 1 1 (j + 33) Tryd.underlying22 Tryd.info5 rfl (.inr ⟨g1, sp1, cp1, rfl, rfl, (by first | exact ho | simp [ho]), hx4, (by omega), (by omega)⟩) rfl (by simp) (SrcAt.mem (MemAt.ent 1 rfl (Seg.whole _))) (by omega) (by unfold maxLen; omega) (by omega)) rfl ?_
   rintro v1 L1 ⟨nb7, sp3, cp3, hg3, rfl, rfl, ha9, ha10, ha11, ha12⟩
   show JL _ _ _ _ ((19, Slc nb7 0 (j + 33) cp3) :: _) [⟨nb6, cu8 ([(0:UInt8)]), 5, (0, 0)⟩, ⟨nb7, cu8 (o ++ ([(0:UInt8)])) ++ sp3, 5, (0, 0)⟩]
   refine JL_val _ (Ev_assign rfl) rfl ?_
   refine JL_nil ?_
   refine JQ_in_normal ?_
   refine JQ_thenK ?_
   refine K_mask [false, true] ?_
   show K _ _ [⟨nb7, cu8 (o ++ ([(0:UInt8)])) ++ sp3, 5, (0, 0)⟩] _
   refine K_next (.inr (j + 1, o ++ ([(0:UInt8)]), nb7, sp3, cp3)) ⟨by omega, by omega, by rw [hx2, zr8_succ, List.append_assoc], (ha9).trans (by first | rfl | simp +arith), (ha10).trans (by first | rfl | simp +arith), by omega, ha12⟩ (by first | (simp; omega) | simp) (Sub.cons rfl (Sub.cons (some_slc (by omega)) (Sub.nil))) rfl
  ·
   have hp1 : ¬ (((j:Int) + 32) < (64:Int)) := of_decide_eq_false hb1
   refine JC_exit ?_
   refine JQ_then_exit ?_
   refine JQ_then_exit ?_
   refine JQ_in_same ?_
   refine JQ_then ?_
   refine JC_seq ?_
   refine JC_region ?_
   refine JL_val _ (Ev_move rfl) rfl ?_
   refine JL_val _ (Ev_assign rfl) rfl ?_
   refine JL_nil ?_
   refine JQ_then ?_
   refine JC_ret ?_
   refine JQ_ret (Slc g1 0 (j + 32) cp1) (res1 Tryd.results41 (RV_tmp rfl)) fun w1 hw1 => ?_
   have e1 : j = 32 := by omega
   have ex : o = blkL b := by rw [blkL_big (by omega), hx2, e1]
   rw [ex] at hw1
   exact ⟨_, _, rfl, ⟨g1, sp1, cp1, slc_len (by omega), rfl, by omega, by omega, hx6⟩, hw1.sub (by simp) (by simp)⟩
end Go.Proofs.YtncoifiafklkjaaDoor
namespace Go.Proofs.YtncoifiafklkjaaDoor
open Go Go.Sx
set_option linter.unusedVariables false
set_option linter.unusedSimpArgs false
set_option maxRecDepth 100000
attribute [local irreducible] mid zr8 zr32 rotr wordL spreadL comprL cpN adN spN wrdN constL initL padL stN outN routN hashL sumG blkL xbN raN macL orN
theorem rblock_w (ao : Option Addr) (n cb : Nat) (b : List UInt8) (w : World) (hb : b.length = n) (hcb : ao = none → cb = 0) (hr : RdB w [] ao b) (hGr : GLr w) (hGi : GLi w) (hn : n ≤ 17592186044416) : Calls Tryd.prog 41 #[.slice ao n cb] w (Post w [] (fun v L => ∃ g sp cap, v = Slc g 0 64 cap ∧ L = [⟨g, cu8 (blkL b) ++ sp, 5, (0, 0)⟩] ∧ sp.length = cap - 64 ∧ 64 ≤ cap ∧ cap ≤ maxLen)) := by
  by_cases h : n ≤ 64
  · exact rblockS_c ao n cb b w hb hcb hr hGr hGi h
  · exact rblockB_c ao n cb b w hb hcb hr hGr hGi (by omega) hn

theorem rmac_c (ao : Option Addr) (n cb : Nat) (key : List UInt8) (ax : Option Addr) (m ct : Nat) (t : List UInt8) (w : World) (hb : key.length = n) (hcb : ao = none → cb = 0) (hn : n ≤ 17592186044416) (hr : RdB w [] ao key) (ht : t.length = m) (hm : m ≤ 1000000000) (hrt : RdB w [] ax t) (hGr : GLr w) (hGi : GLi w) : Calls Tryd.prog 37 #[.slice ao n cb, .slice ax m ct] w (Post w [] (fun v L => v = .agg (cu8 (macL key t)).toArray ∧ L = [])) := by
 have hmx : maxLen = 9223372036854775807 := rfl
 refine enter w [] 40 [] [.slice ao n cb, .slice ax m ct] Tryd.func37 rfl rfl (by simp) (Hp.start (by simp) (by simp) (by simp)) ?_
 show JC _ _ _ [(0, .slice ao n cb), (1, .slice ax m ct)] _
 refine JC_seq ?_
 refine JC_region ?_
 refine JL_step (Step_alloc _ (cu8 (zr8 32)) Tryd.zeroValue25 (by kernel_rfl)) rfl ?_
 rintro v1 L1 ⟨nb1, hnb1, rfl, rfl⟩
 show JL _ _ _ _ ((4, Ptr nb1 0) :: _) [⟨nb1, cu8 (zr8 32), 25, (0, 0)⟩]
 refine JL_nil ?_
 refine JQ_then ?_
 refine JC_seq ?_
 refine JC_region ?_
 refine JL_val _ (Ev_move rfl) rfl ?_
 refine JL_step (Step_callN 41 [.slice ao n cb] _ (Cl_func [.slice ao n cb] Tryd.call41 rfl) (fun w1 hw1 => rblock_w ao n cb key w1 hb hcb (hr.at (M' := []) hw1 (by simp)) (GLr.at hw1 hGr) (GLi.at hw1 hGi) (by omega))) rfl ?_
 rintro v1 L1 ⟨_, ⟨nb2, sp1, cp1, rfl, rfl, hc1, hc2, hc3⟩, rfl⟩
 show JL _ _ _ _ ((11, Slc nb2 0 64 cp1) :: _) [⟨nb1, cu8 (zr8 32), 25, (0, 0)⟩, ⟨nb2, cu8 (blkL key) ++ sp1, 5, (0, 0)⟩]
 refine JL_val _ (Ev_assign rfl) rfl ?_
 refine JL_nil ?_
 refine JQ_then ?_
 refine JC_seq ?_
 refine JC_region ?_
 refine JL_val _ (Ev_assign rfl) rfl ?_
 refine JL_val _ (Ev_assign rfl) rfl ?_
 refine JL_nil ?_
 refine JQ_then ?_
 refine JC_seq ?_
 refine JC_seq ?_
 refine JC_region ?_
 refine JL_val _ (Ev_assign rfl) rfl ?_
 refine JL_nil ?_
 refine JQ_then ?_
 refine JC_block ?_
 refine JC_loop (ι := (Unit) ⊕ (Nat × List UInt8 × Nat × List Value × Nat × List UInt8 × Nat × List Value × Nat)) (fun x => match x with | .inl _ => [(1, .slice ax m ct), (4, Ptr nb1 0), (5, Slc nb2 0 64 cp1), (6, .slice none 0 0), (7, .slice none 0 0), (8, I64 (0:Int))] | .inr ⟨k, o6, g6, sp6, cp6, o7, g7, sp7, cp7⟩ => [(1, .slice ax m ct), (4, Ptr nb1 0), (5, Slc nb2 0 64 cp1), (6, Slc g6 0 k cp6), (7, Slc g7 0 k cp7), (8, I64 ((k:Int)))]) (fun x => match x with | .inl _ => [⟨nb1, cu8 (zr8 32), 25, (0, 0)⟩, ⟨nb2, cu8 (blkL key) ++ sp1, 5, (0, 0)⟩] | .inr ⟨k, o6, g6, sp6, cp6, o7, g7, sp7, cp7⟩ => [⟨nb1, cu8 (zr8 32), 25, (0, 0)⟩, ⟨nb2, cu8 (blkL key) ++ sp1, 5, (0, 0)⟩, ⟨g6, cu8 o6 ++ sp6, 5, (0, 0)⟩, ⟨g7, cu8 o7 ++ sp7, 5, (0, 0)⟩]) (fun x => match x with | .inl _ => True | .inr ⟨k, o6, g6, sp6, cp6, o7, g7, sp7, cp7⟩ => 1 ≤ k ∧ k ≤ 64 ∧ o6 = raN (blkL key) 54 k ∧ o6.length = k ∧ sp6.length = cp6 - k ∧ k ≤ cp6 ∧ cp6 ≤ maxLen ∧ o7 = raN (blkL key) 92 k ∧ o7.length = k ∧ sp7.length = cp7 - k ∧ k ≤ cp7 ∧ cp7 ≤ maxLen) (fun x => match x with | .inl _ => 65 | .inr ⟨k, o6, g6, sp6, cp6, o7, g7, sp7, cp7⟩ => 64 - k) (.inl ()) trivial (Sub.cons rfl (Sub.cons rfl (Sub.cons rfl (Sub.cons rfl (Sub.cons rfl (Sub.cons rfl (Sub.nil))))))) rfl ?_
 rintro (_ | ⟨k, o6, g6, sp6, cp6, o7, g7, sp7, cp7⟩) hx
 ·
  obtain _ := hx
  show JC _ _ _ [(1, .slice ax m ct), (4, Ptr nb1 0), (5, Slc nb2 0 64 cp1), (6, .slice none 0 0), (7, .slice none 0 0), (8, I64 (0:Int))] [⟨nb1, cu8 (zr8 32), 25, (0, 0)⟩, ⟨nb2, cu8 (blkL key) ++ sp1, 5, (0, 0)⟩]
  refine JC_seq ?_
  refine JC_seq ?_
  refine JC_region ?_
  refine JL_val _ (Ev_move rfl) rfl ?_
  refine JL_val (.bool (decide ((0:Int) < (64:Int)))) (Ev_bini rfl rfl fun _ => bin_lss_i _ _) rfl ?_
  refine JL_nil ?_
  refine JQ_then ?_
  refine JC_condT _ rfl (by decide) ?_
  refine JC_skip ?_
  refine JQ_then ?_
  refine JC_seq ?_
  refine JC_block ?_
  refine JC_seq ?_
  refine JC_region ?_
  refine JL_val _ (Ev_move rfl) rfl ?_
  refine JL_val _ (Ev_move rfl) rfl ?_
  refine JL_val _ (Ev_move rfl) rfl ?_
  refine JL_val (Ptr nb2 0) (Ev_indexSl 5 1 0 Tryd.underlying22 Tryd.sizeOf5 rfl rfl (by omega) (by omega) (by omega)) rfl ?_
  refine JL_val (U8 (g8 (blkL key) 0)) (Ev_load rfl (Ld_one Tryd.isAgg5 (MemAt.ent 1 rfl (Seg.left (Seg.get (g8_get (i := 0) (by rw [(blkL_len _)]; omega))))))) rfl ?_
  refine JL_val (U8 ((g8 (blkL key) 0) ^^^ (54:UInt8))) (Ev_bini rfl rfl fun _ => bin_xor_u8 (g8 (blkL key) 0) (54:UInt8)) rfl ?_
  refine JL_step (Step_buildSlice 5 1 _ [(0, U8 ((g8 (blkL key) 0) ^^^ (54:UInt8)))] (cu8 ([(g8 (blkL key) 0) ^^^ (54:UInt8)])) Tryd.underlying22 Tryd.sizeOf5 Tryd.zeroValue5 rfl rfl rfl (by kernel_rfl)) rfl ?_
  rintro v1 L1 ⟨nb3, hnb3, rfl, rfl⟩
  show JL _ _ _ _ ((22, Slc nb3 0 1 1) :: _) [⟨nb1, cu8 (zr8 32), 25, (0, 0)⟩, ⟨nb2, cu8 (blkL key) ++ sp1, 5, (0, 0)⟩, ⟨nb3, cu8 ([(g8 (blkL key) 0) ^^^ (54:UInt8)]), 5, (0, 0)⟩]
  refine JL_step (Step_appM8 22 5 [false, false, false] (.slice none 0 0) 0 ([] : List UInt8) ([(g8 (blkL key) 0) ^^^ (54:UInt8)]) (some ⟨nb3, 0, none⟩) 1 1 1 Tryd.underlying22 Tryd.info5 rfl (.inl ⟨rfl, rfl, rfl, rfl, by omega⟩) rfl (by simp) (SrcAt.mem (MemAt.ent 2 rfl (Seg.whole _))) (by omega) (by unfold maxLen; omega) (by omega)) rfl ?_
  rintro v1 L1 ⟨nb4, sp2, cp2, hg1, rfl, rfl, ha1, ha2, ha3, ha4⟩
  show JL _ _ _ _ ((23, Slc nb4 0 1 cp2) :: _) [⟨nb1, cu8 (zr8 32), 25, (0, 0)⟩, ⟨nb2, cu8 (blkL key) ++ sp1, 5, (0, 0)⟩, ⟨nb3, cu8 ([(g8 (blkL key) 0) ^^^ (54:UInt8)]), 5, (0, 0)⟩, ⟨nb4, cu8 (([] : List UInt8) ++ ([(g8 (blkL key) 0) ^^^ (54:UInt8)])) ++ sp2, 5, (0, 0)⟩]
  refine JL_val _ (Ev_assign rfl) rfl ?_
  refine JL_nil ?_
  refine JQ_then ?_
  refine JC_region ?_
  refine JL_val _ (Ev_move rfl) rfl ?_
  refine JL_val _ (Ev_move rfl) rfl ?_
  refine JL_val _ (Ev_move rfl) rfl ?_
  refine JL_val (Ptr nb2 0) (Ev_indexSl 5 1 0 Tryd.underlying22 Tryd.sizeOf5 rfl rfl (by omega) (by omega) (by omega)) rfl ?_
  refine JL_val (U8 (g8 (blkL key) 0)) (Ev_load rfl (Ld_one Tryd.isAgg5 (MemAt.ent 1 rfl (Seg.left (Seg.get (g8_get (i := 0) (by rw [(blkL_len _)]; omega))))))) rfl ?_
  refine JL_val (U8 ((g8 (blkL key) 0) ^^^ (92:UInt8))) (Ev_bini rfl rfl fun _ => bin_xor_u8 (g8 (blkL key) 0) (92:UInt8)) rfl ?_
  refine JL_step (Step_buildSlice 5 1 _ [(0, U8 ((g8 (blkL key) 0) ^^^ (92:UInt8)))] (cu8 ([(g8 (blkL key) 0) ^^^ (92:UInt8)])) Tryd.underlying22 Tryd.sizeOf5 Tryd.zeroValue5 rfl rfl rfl (by kernel_rfl)) rfl ?_
  rintro v1 L1 ⟨nb5, hnb5, rfl, rfl⟩
  show JL _ _ _ _ ((30, Slc nb5 0 1 1) :: _) [⟨nb1, cu8 (zr8 32), 25, (0, 0)⟩, ⟨nb2, cu8 (blkL key) ++ sp1, 5, (0, 0)⟩, ⟨nb3, cu8 ([(g8 (blkL key) 0) ^^^ (54:UInt8)]), 5, (0, 0)⟩, ⟨nb4, cu8 (([] : List UInt8) ++ ([(g8 (blkL key) 0) ^^^ (54:UInt8)])) ++ sp2, 5, (0, 0)⟩, ⟨nb5, cu8 ([(g8 (blkL key) 0) ^^^ (92:UInt8)]), 5, (0, 0)⟩]
  refine JL_step (Step_appM8 22 5 [false, false, false, false, false] (.slice none 0 0) 0 ([] : List UInt8) ([(g8 (blkL key) 0) ^^^ (92:UInt8)]) (some ⟨nb5, 0, none⟩) 1 1 1 Tryd.underlying22 Tryd.info5 rfl (.inl ⟨rfl, rfl, rfl, rfl, by omega⟩) rfl (by simp) (SrcAt.mem (MemAt.ent 4 rfl (Seg.whole _))) (by omega) (by unfold maxLen; omega) (by omega)) rfl ?_
  rintro v1 L1 ⟨nb6, sp3, cp3, hg2, rfl, rfl, ha5, ha6, ha7, ha8⟩
  show JL _ _ _ _ ((31, Slc nb6 0 1 cp3) :: _) [⟨nb1, cu8 (zr8 32), 25, (0, 0)⟩, ⟨nb2, cu8 (blkL key) ++ sp1, 5, (0, 0)⟩, ⟨nb3, cu8 ([(g8 (blkL key) 0) ^^^ (54:UInt8)]), 5, (0, 0)⟩, ⟨nb4, cu8 (([] : List UInt8) ++ ([(g8 (blkL key) 0) ^^^ (54:UInt8)])) ++ sp2, 5, (0, 0)⟩, ⟨nb5, cu8 ([(g8 (blkL key) 0) ^^^ (92:UInt8)]), 5, (0, 0)⟩, ⟨nb6, cu8 (([] : List UInt8) ++ ([(g8 (blkL key) 0) ^^^ (92:UInt8)])) ++ sp3, 5, (0, 0)⟩]
  refine JL_val _ (Ev_assign rfl) rfl ?_
  refine JL_nil ?_
  refine JQ_in_normal ?_
  refine JQ_then ?_
  refine JC_region ?_
  refine JL_val _ (Ev_move rfl) rfl ?_
  refine JL_val (I64 (1:Int)) (Ev_bini rfl rfl fun _ => bin_add_i _ _ (1:Int) (by omega) (by omega)) rfl ?_
  refine JL_val _ (Ev_assign rfl) rfl ?_
  refine JL_nil ?_
  refine JQ_thenK ?_
  refine K_mask [true, true, false, true, false, true] ?_
  show K _ _ [⟨nb1, cu8 (zr8 32), 25, (0, 0)⟩, ⟨nb2, cu8 (blkL key) ++ sp1, 5, (0, 0)⟩, ⟨nb4, cu8 (([] : List UInt8) ++ ([(g8 (blkL key) 0) ^^^ (54:UInt8)])) ++ sp2, 5, (0, 0)⟩, ⟨nb6, cu8 (([] : List UInt8) ++ ([(g8 (blkL key) 0) ^^^ (92:UInt8)])) ++ sp3, 5, (0, 0)⟩] _
  refine K_next (.inr (1, ([] : List UInt8) ++ ([(g8 (blkL key) 0) ^^^ (54:UInt8)]), nb4, sp2, cp2, ([] : List UInt8) ++ ([(g8 (blkL key) 0) ^^^ (92:UInt8)]), nb6, sp3, cp3)) ⟨by omega, by omega, by rw [raN, raN], (ha1).trans (by first | rfl | simp +arith), (ha2).trans (by first | rfl | simp +arith), by omega, ha4, by rw [raN, raN], (ha5).trans (by first | rfl | simp +arith), (ha6).trans (by first | rfl | simp +arith), by omega, ha8⟩ (by first | (simp; omega) | simp) (Sub.cons rfl (Sub.cons rfl (Sub.cons rfl (Sub.cons rfl (Sub.cons rfl (Sub.cons rfl (Sub.nil))))))) rfl
 ·
  obtain ⟨hx0, hx1, hx2, ho6, hs6, hy6, hz6, hx3, ho7, hs7, hy7, hz7⟩ := hx
  show JC _ _ _ [(1, .slice ax m ct), (4, Ptr nb1 0), (5, Slc nb2 0 64 cp1), (6, Slc g6 0 k cp6), (7, Slc g7 0 k cp7), (8, I64 ((k:Int)))] [⟨nb1, cu8 (zr8 32), 25, (0, 0)⟩, ⟨nb2, cu8 (blkL key) ++ sp1, 5, (0, 0)⟩, ⟨g6, cu8 o6 ++ sp6, 5, (0, 0)⟩, ⟨g7, cu8 o7 ++ sp7, 5, (0, 0)⟩]
  refine JC_seq ?_
  refine JC_seq ?_
  refine JC_region ?_
  refine JL_val _ (Ev_move rfl) rfl ?_
  refine JL_val (.bool (decide (((k:Int)) < (64:Int)))) (Ev_bini rfl rfl fun _ => bin_lss_i _ _) rfl ?_
  refine JL_nil ?_
  refine JQ_then ?_
  refine JC_cond (decide (((k:Int)) < (64:Int))) rfl (fun hb1 => ?_) (fun hb1 => ?_)
  ·
   have hp1 : ((k:Int)) < (64:Int) := of_decide_eq_true hb1
   refine JC_skip ?_
   refine JQ_then ?_
   refine JC_seq ?_
   refine JC_block ?_
   refine JC_seq ?_
   refine JC_region ?_
   refine JL_val _ (Ev_move rfl) rfl ?_
   refine JL_val _ (Ev_move rfl) rfl ?_
   refine JL_val _ (Ev_move rfl) rfl ?_
   refine JL_val (Ptr nb2 k) (Ev_indexSl 5 1 k Tryd.underlying22 Tryd.sizeOf5 rfl rfl (by omega) (by omega) (by omega)) rfl ?_
   refine JL_val (U8 (g8 (blkL key) k)) (Ev_load rfl (Ld_one Tryd.isAgg5 (MemAt.ent 1 rfl (Seg.left (Seg.get (g8_get (i := k) (by rw [(blkL_len _)]; omega))))))) rfl ?_
   refine JL_val (U8 ((g8 (blkL key) k) ^^^ (54:UInt8))) (Ev_bini rfl rfl fun _ => bin_xor_u8 (g8 (blkL key) k) (54:UInt8)) rfl ?_
   refine JL_step (Step_buildSlice 5 1 _ [(0, U8 ((g8 (blkL key) k) ^^^ (54:UInt8)))] (cu8 ([(g8 (blkL key) k) ^^^ (54:UInt8)])) Tryd.underlying22 Tryd.sizeOf5 Tryd.zeroValue5 rfl rfl rfl (by kernel_rfl)) rfl ?_
   rintro v1 L1 ⟨nb7, hnb7, rfl, rfl⟩
   show JL _ _ _ _ ((22, Slc nb7 0 1 1) :: _) [⟨nb1, cu8 (zr8 32), 25, (0, 0)⟩, ⟨nb2, cu8 (blkL key) ++ sp1, 5, (0, 0)⟩, ⟨g6, cu8 o6 ++ sp6, 5, (0, 0)⟩, ⟨g7, cu8 o7 ++ sp7, 5, (0, 0)⟩, ⟨nb7, cu8 ([(g8 (blkL key) k) ^^^ (54:UInt8)]), 5, (0, 0)⟩]
   refine JL_step (Step_appM8 22 5 [false, false, true, false, false] (Slc g6 0 k cp6) k o6 ([(g8 (blkL key) k) ^^^ (54:UInt8)]) (some ⟨nb7, 0, none⟩) 1 1 (k + 1) Tryd.underlying22 Tryd.info5 rfl (.inr ⟨g6, sp6, cp6, rfl, rfl, (by first | exact ho6 | simp [ho6]), hs6, (by omega), (by omega)⟩) rfl (by simp) (SrcAt.mem (MemAt.ent 4 rfl (Seg.whole _))) (by omega) (by unfold maxLen; omega) (by omega)) rfl ?_
   rintro v1 L1 ⟨nb8, sp4, cp4, hg3, rfl, rfl, ha9, ha10, ha11, ha12⟩
   show JL _ _ _ _ ((23, Slc nb8 0 (k + 1) cp4) :: _) [⟨nb1, cu8 (zr8 32), 25, (0, 0)⟩, ⟨nb2, cu8 (blkL key) ++ sp1, 5, (0, 0)⟩, ⟨g7, cu8 o7 ++ sp7, 5, (0, 0)⟩, ⟨nb7, cu8 ([(g8 (blkL key) k) ^^^ (54:UInt8)]), 5, (0, 0)⟩, ⟨nb8, cu8 (o6 ++ ([(g8 (blkL key) k) ^^^ (54:UInt8)])) ++ sp4, 5, (0, 0)⟩]
   refine JL_val _ (Ev_assign rfl) rfl ?_
   refine JL_nil ?_
   refine JQ_then ?_
   refine JC_region ?_
   refine JL_val _ (Ev_move rfl) rfl ?_
   refine JL_val _ (Ev_move rfl) rfl ?_
   refine JL_val _ (Ev_move rfl) rfl ?_
   refine JL_val (Ptr nb2 k) (Ev_indexSl 5 1 k Tryd.underlying22 Tryd.sizeOf5 rfl rfl (by omega) (by omega) (by omega)) rfl ?_
   refine JL_val (U8 (g8 (blkL key) k)) (Ev_load rfl (Ld_one Tryd.isAgg5 (MemAt.ent 1 rfl (Seg.left (Seg.get (g8_get (i := k) (by rw [(blkL_len _)]; omega))))))) rfl ?_
   refine JL_val (U8 ((g8 (blkL key) k) ^^^ (92:UInt8))) (Ev_bini rfl rfl fun _ => bin_xor_u8 (g8 (blkL key) k) (92:UInt8)) rfl ?_
   refine JL_step (Step_buildSlice 5 1 _ [(0, U8 ((g8 (blkL key) k) ^^^ (92:UInt8)))] (cu8 ([(g8 (blkL key) k) ^^^ (92:UInt8)])) Tryd.underlying22 Tryd.sizeOf5 Tryd.zeroValue5 rfl rfl rfl (by kernel_rfl)) rfl ?_
   rintro v1 L1 ⟨nb9, hnb9, rfl, rfl⟩
   show JL _ _ _ _ ((30, Slc nb9 0 1 1) :: _) [⟨nb1, cu8 (zr8 32), 25, (0, 0)⟩, ⟨nb2, cu8 (blkL key) ++ sp1, 5, (0, 0)⟩, ⟨g7, cu8 o7 ++ sp7, 5, (0, 0)⟩, ⟨nb7, cu8 ([(g8 (blkL key) k) ^^^ (54:UInt8)]), 5, (0, 0)⟩, ⟨nb8, cu8 (o6 ++ ([(g8 (blkL key) k) ^^^ (54:UInt8)])) ++ sp4, 5, (0, 0)⟩, ⟨nb9, cu8 ([(g8 (blkL key) k) ^^^ (92:UInt8)]), 5, (0, 0)⟩]
   refine JL_step (Step_appM8 22 5 [false, false, true, false, false, false] (Slc g7 0 k cp7) k o7 ([(g8 (blkL key) k) ^^^ (92:UInt8)]) (some ⟨nb9, 0, none⟩) 1 1 (k + 1) Tryd.underlying22 Tryd.info5 rfl (.inr ⟨g7, sp7, cp7, rfl, rfl, (by first | exact ho7 | simp [ho7]), hs7, (by omega), (by omega)⟩) rfl (by simp) (SrcAt.mem (MemAt.ent 5 rfl (Seg.whole _))) (by omega) (by unfold maxLen; omega) (by omega)) rfl ?_
   rintro v1 L1 ⟨nb10, sp5, cp5, hg4, rfl, rfl, ha13, ha14, ha15, ha16⟩
   show JL _ _ _ _ ((31, Slc nb10 0 (k + 1) cp5) :: _) [⟨nb1, cu8 (zr8 32), 25, (0, 0)⟩, ⟨nb2, cu8 (blkL key) ++ sp1, 5, (0, 0)⟩, ⟨nb7, cu8 ([(g8 (blkL key) k) ^^^ (54:UInt8)]), 5, (0, 0)⟩, ⟨nb8, cu8 (o6 ++ ([(g8 (blkL key) k) ^^^ (54:UInt8)])) ++ sp4, 5, (0, 0)⟩, ⟨nb9, cu8 ([(g8 (blkL key) k) ^^^ (92:UInt8)]), 5, (0, 0)⟩, ⟨nb10, cu8 (o7 ++ ([(g8 (blkL key) k) ^^^ (92:UInt8)])) ++ sp5, 5, (0, 0)⟩]
   refine JL_val _ (Ev_assign rfl) rfl ?_
   refine JL_nil ?_
   refine JQ_in_normal ?_
   refine JQ_then ?_
   refine JC_region ?_
   refine JL_val _ (Ev_move rfl) rfl ?_
   refine JL_val (I64 ((k:Int) + 1)) (Ev_bini rfl rfl fun _ => bin_add_i _ _ ((k:Int) + 1) (by omega) (by omega)) rfl ?_
   refine JL_val _ (Ev_assign rfl) rfl ?_
   refine JL_nil ?_
   refine JQ_thenK ?_
   refine K_mask [true, true, false, true, false, true] ?_
   show K _ _ [⟨nb1, cu8 (zr8 32), 25, (0, 0)⟩, ⟨nb2, cu8 (blkL key) ++ sp1, 5, (0, 0)⟩, ⟨nb8, cu8 (o6 ++ ([(g8 (blkL key) k) ^^^ (54:UInt8)])) ++ sp4, 5, (0, 0)⟩, ⟨nb10, cu8 (o7 ++ ([(g8 (blkL key) k) ^^^ (92:UInt8)])) ++ sp5, 5, (0, 0)⟩] _
   refine K_next (.inr (k + 1, o6 ++ ([(g8 (blkL key) k) ^^^ (54:UInt8)]), nb8, sp4, cp4, o7 ++ ([(g8 (blkL key) k) ^^^ (92:UInt8)]), nb10, sp5, cp5)) ⟨by omega, by omega, by rw [raN, ← hx2], (ha9).trans (by first | rfl | simp +arith), (ha10).trans (by first | rfl | simp +arith), by omega, ha12, by rw [raN, ← hx3], (ha13).trans (by first | rfl | simp +arith), (ha14).trans (by first | rfl | simp +arith), by omega, ha16⟩ (by first | (simp; omega) | simp) (Sub.cons rfl (Sub.cons rfl (Sub.cons rfl (Sub.cons rfl (Sub.cons rfl (Sub.cons rfl (Sub.nil))))))) rfl
  ·
   have hp1 : ¬ (((k:Int)) < (64:Int)) := of_decide_eq_false hb1
   refine JC_exit ?_
   refine JQ_then_exit ?_
   refine JQ_then_exit ?_
   refine JQ_in_same ?_
   refine JQ_then ?_
   refine JC_seq ?_
   refine JC_region ?_
   refine JL_val _ (Ev_move rfl) rfl ?_
   refine JL_val _ (Ev_move rfl) rfl ?_
   refine JL_step (Step_appM8 22 5 [false, false, true, false] (Slc g6 0 k cp6) k o6 t ax m ct (k + m) Tryd.underlying22 Tryd.info5 rfl (.inr ⟨g6, sp6, cp6, rfl, rfl, (by first | exact ho6 | simp [ho6]), hs6, (by omega), (by omega)⟩) rfl (by simp [ht]; try omega) (hrt.src) (by omega) (by unfold maxLen; omega) (by omega)) rfl ?_
   rintro v1 L1 ⟨nb11, sp6, cp6, hg5, rfl, rfl, ha17, ha18, ha19, ha20⟩
   show JL _ _ _ _ ((34, Slc nb11 0 (k + m) cp6) :: _) [⟨nb1, cu8 (zr8 32), 25, (0, 0)⟩, ⟨nb2, cu8 (blkL key) ++ sp1, 5, (0, 0)⟩, ⟨g7, cu8 o7 ++ sp7, 5, (0, 0)⟩, ⟨nb11, cu8 (o6 ++ t) ++ sp6, 5, (0, 0)⟩]
   refine JL_step (Step_callP 24 [Slc nb11 0 (k + m) cp6] (.agg (cu8 (sumG constL initL (o6 ++ t))).toArray) (Cl_func [Slc nb11 0 (k + m) cp6] Tryd.call24 rfl) (fun w1 hw1 => rsum_c (some ⟨nb11, 0, none⟩) (k + m) cp6 (o6 ++ t) w1 ha17 (by omega) (RdB.of hw1 (MemAt.ent 3 rfl (Seg.left (Seg.whole _))) (by simp)) (GLr.at hw1 hGr) (GLi.at hw1 hGi))) rfl ?_
   rintro v1 L1 ⟨rfl, rfl⟩
   show JL _ _ _ _ ((35, .agg (cu8 (sumG constL initL (o6 ++ t))).toArray) :: _) [⟨nb1, cu8 (zr8 32), 25, (0, 0)⟩, ⟨nb2, cu8 (blkL key) ++ sp1, 5, (0, 0)⟩, ⟨g7, cu8 o7 ++ sp7, 5, (0, 0)⟩, ⟨nb11, cu8 (o6 ++ t) ++ sp6, 5, (0, 0)⟩]
   refine JL_step (Step_alloc _ (cu8 (zr8 32)) Tryd.zeroValue25 (by kernel_rfl)) rfl ?_
   rintro v1 L1 ⟨nb12, hnb12, rfl, rfl⟩
   show JL _ _ _ _ ((9, Ptr nb12 0) :: _) [⟨nb1, cu8 (zr8 32), 25, (0, 0)⟩, ⟨nb2, cu8 (blkL key) ++ sp1, 5, (0, 0)⟩, ⟨g7, cu8 o7 ++ sp7, 5, (0, 0)⟩, ⟨nb11, cu8 (o6 ++ t) ++ sp6, 5, (0, 0)⟩, ⟨nb12, cu8 (zr8 32), 25, (0, 0)⟩]
   refine JL_step (Step_store 4 nb12 0 32 (cu8 (zr8 32)) 25 (.agg (cu8 (sumG constL initL (o6 ++ t))).toArray) (cu8 (sumG constL initL (o6 ++ t))) (cu8 (sumG constL initL (o6 ++ t))) rfl rfl rfl (by first | rfl | simp) Tryd.sizeOf25 (len_cu8 (sumG_len _ _ _)) (by first | exact one_u8 | exact one_u32 | exact one_u64 | (simp [cu8, cu32, cu64, Value.oneCell']; done)) (by simp [(zr8_len 32)]) (lay_whole (by simp [(zr8_len 32), (sumG_len _ _ _)]))) rfl ?_
   rintro v1 L1 ⟨rfl, rfl⟩
   show JL _ _ _ _ _ [⟨nb1, cu8 (zr8 32), 25, (0, 0)⟩, ⟨nb2, cu8 (blkL key) ++ sp1, 5, (0, 0)⟩, ⟨g7, cu8 o7 ++ sp7, 5, (0, 0)⟩, ⟨nb11, cu8 (o6 ++ t) ++ sp6, 5, (0, 0)⟩, ⟨nb12, cu8 (sumG constL initL (o6 ++ t)), 25, (0, 0)⟩]
   refine JL_nil ?_
   refine JQ_then ?_
   refine JC_seq ?_
   refine JC_region ?_
   refine JL_val _ (Ev_move rfl) rfl ?_
   refine JL_val (Slc nb12 0 32 32) (Ev_sliceA 32 5 1 0 32 0 32 Tryd.underlying25 Tryd.sizeOf5 rfl rfl rfl (by omega) (by omega) (by omega) (by omega) (by omega) 32 (by omega)) rfl ?_
   refine JL_step (Step_appM8 22 5 [false, false, true, false, false] (Slc g7 0 k cp7) k o7 (sumG constL initL (o6 ++ t)) (some ⟨nb12, 0, none⟩) 32 32 (k + 32) Tryd.underlying22 Tryd.info5 rfl (.inr ⟨g7, sp7, cp7, rfl, rfl, (by first | exact ho7 | simp [ho7]), hs7, (by omega), (by omega)⟩) rfl (by simp [(sumG_len _ _ _)]; try omega) (SrcAt.mem (MemAt.ent 4 rfl (Seg.whole _))) (by omega) (by unfold maxLen; omega) (by omega)) rfl ?_
   rintro v1 L1 ⟨nb13, sp7, cp7, hg6, rfl, rfl, ha21, ha22, ha23, ha24⟩
   show JL _ _ _ _ ((38, Slc nb13 0 (k + 32) cp7) :: _) [⟨nb1, cu8 (zr8 32), 25, (0, 0)⟩, ⟨nb2, cu8 (blkL key) ++ sp1, 5, (0, 0)⟩, ⟨nb11, cu8 (o6 ++ t) ++ sp6, 5, (0, 0)⟩, ⟨nb12, cu8 (sumG constL initL (o6 ++ t)), 25, (0, 0)⟩, ⟨nb13, cu8 (o7 ++ (sumG constL initL (o6 ++ t))) ++ sp7, 5, (0, 0)⟩]
   refine JL_step (Step_callP 24 [Slc nb13 0 (k + 32) cp7] (.agg (cu8 (sumG constL initL (o7 ++ (sumG constL initL (o6 ++ t))))).toArray) (Cl_func [Slc nb13 0 (k + 32) cp7] Tryd.call24 rfl) (fun w1 hw1 => rsum_c (some ⟨nb13, 0, none⟩) (k + 32) cp7 (o7 ++ (sumG constL initL (o6 ++ t))) w1 ha21 (by omega) (RdB.of hw1 (MemAt.ent 4 rfl (Seg.left (Seg.whole _))) (by simp)) (GLr.at hw1 hGr) (GLi.at hw1 hGi))) rfl ?_
   rintro v1 L1 ⟨rfl, rfl⟩
   show JL _ _ _ _ ((39, .agg (cu8 (sumG constL initL (o7 ++ (sumG constL initL (o6 ++ t))))).toArray) :: _) [⟨nb1, cu8 (zr8 32), 25, (0, 0)⟩, ⟨nb2, cu8 (blkL key) ++ sp1, 5, (0, 0)⟩, ⟨nb11, cu8 (o6 ++ t) ++ sp6, 5, (0, 0)⟩, ⟨nb12, cu8 (sumG constL initL (o6 ++ t)), 25, (0, 0)⟩, ⟨nb13, cu8 (o7 ++ (sumG constL initL (o6 ++ t))) ++ sp7, 5, (0, 0)⟩]
   refine JL_step (Step_store 0 nb1 0 32 (cu8 (zr8 32)) 25 (.agg (cu8 (sumG constL initL (o7 ++ (sumG constL initL (o6 ++ t))))).toArray) (cu8 (sumG constL initL (o7 ++ (sumG constL initL (o6 ++ t))))) (cu8 (sumG constL initL (o7 ++ (sumG constL initL (o6 ++ t))))) rfl rfl rfl (by first | rfl | simp) Tryd.sizeOf25 (len_cu8 (sumG_len _ _ _)) (by first | exact one_u8 | exact one_u32 | exact one_u64 | (simp [cu8, cu32, cu64, Value.oneCell']; done)) (by simp [(zr8_len 32)]) (lay_whole (by simp [(zr8_len 32), (sumG_len _ _ _)]))) rfl ?_
   rintro v1 L1 ⟨rfl, rfl⟩
   show JL _ _ _ _ _ [⟨nb1, cu8 (sumG constL initL (o7 ++ (sumG constL initL (o6 ++ t)))), 25, (0, 0)⟩, ⟨nb2, cu8 (blkL key) ++ sp1, 5, (0, 0)⟩, ⟨nb11, cu8 (o6 ++ t) ++ sp6, 5, (0, 0)⟩, ⟨nb12, cu8 (sumG constL initL (o6 ++ t)), 25, (0, 0)⟩, ⟨nb13, cu8 (o7 ++ (sumG constL initL (o6 ++ t))) ++ sp7, 5, (0, 0)⟩]
   refine JL_nil ?_
   refine JQ_then ?_
   refine JC_ret ?_
   refine JQ_ret (.agg (cu8 (sumG constL initL (o7 ++ (sumG constL initL (o6 ++ t))))).toArray) (res1 Tryd.results37 (RV_cell rfl (Ld_agg Tryd.isAgg25 Tryd.sizeOf25 (len_cu8 (sumG_len _ _ _)) (MemAt.ent 0 rfl (Seg.whole _))))) fun w1 hw1 => ?_
   have e1 : k = 64 := by omega
   subst e1
   refine ⟨_, [], rfl, ⟨?_, rfl⟩, hw1.sub (by simp) (by simp)⟩
   rw [macL, hx2, hx3, raN_xbN _ (blkL_len _), raN_xbN _ (blkL_len _)]
end Go.Proofs.YtncoifiafklkjaaDoor
namespace Go.Proofs.YtncoifiafklkjaaDoor
open Go Go.Sx
set_option linter.unusedVariables false
set_option linter.unusedSimpArgs false
set_option maxRecDepth 100000
attribute [local irreducible] mid zr8 zr32 rotr wordL spreadL comprL cpN adN spN wrdN constL initL padL stN outN routN hashL sumG blkL xbN raN macL orN
theorem rlabel_c (k l : List UInt8) (w : World) (hk : k.length = 16) (hl : l.length ≤ 1000) (hGr : GLr w) (hGi : GLi w) : Calls Tryd.prog 45 #[.agg (cu8 k).toArray, .string (⟨l.toArray⟩ : ByteArray)] w (Post w [] (fun v L => v = .agg (cu8 (macL k l)).toArray ∧ L = [])) := by
 have hmx : maxLen = 9223372036854775807 := rfl
 refine enter w [] 9 [] [.agg (cu8 k).toArray, .string (⟨l.toArray⟩ : ByteArray)] Tryd.func45 rfl rfl (by simp) (Hp.start (by simp) (by simp) (by simp)) ?_
 show JC _ _ _ [(0, .agg (cu8 k).toArray), (1, .string (⟨l.toArray⟩ : ByteArray))] _
 refine JC_seq ?_
 refine JC_region ?_
 refine JL_step (Step_box (.agg (cu8 k).toArray) (cu8 k) rfl (by first | rfl | simp)) rfl ?_
 rintro v1 L1 ⟨nb1, hnb1, rfl, rfl⟩
 show JL _ _ _ _ ((2, Ptr nb1 0) :: _) [⟨nb1, cu8 k, 55, (0, 0)⟩]
 refine JL_step (Step_alloc _ (cu8 (zr8 32)) Tryd.zeroValue25 (by kernel_rfl)) rfl ?_
 rintro v1 L1 ⟨nb2, hnb2, rfl, rfl⟩
 show JL _ _ _ _ ((4, Ptr nb2 0) :: _) [⟨nb1, cu8 k, 55, (0, 0)⟩, ⟨nb2, cu8 (zr8 32), 25, (0, 0)⟩]
 refine JL_nil ?_
 refine JQ_then ?_
 refine JC_seq ?_
 refine JC_region ?_
 refine JL_val (Slc nb1 0 16 16) (Ev_sliceA 16 5 1 0 16 0 16 Tryd.underlying55 Tryd.sizeOf5 rfl rfl rfl (by omega) (by omega) (by omega) (by omega) (by omega) 16 (by omega)) rfl ?_
 refine JL_val _ (Ev_move rfl) rfl ?_
 refine JL_step (Step_strBytes 5 l Tryd.underlying9 Tryd.underlying22 Tryd.underlying5 rfl (by first | omega | (simp [maxLen]; done))) rfl ?_
 rintro v1 L1 ⟨nb3, sp1, cp1, fz1, hnb3, rfl, rfl, hl1, hm1⟩
 show JL _ _ _ _ ((7, Slc nb3 0 l.length cp1) :: _) [⟨nb1, cu8 k, 55, (0, 0)⟩, ⟨nb2, cu8 (zr8 32), 25, (0, 0)⟩, ⟨nb3, cu8 l ++ sp1, 5, fz1⟩]
 refine JL_step (Step_callP 37 [Slc nb1 0 16 16, Slc nb3 0 l.length cp1] (.agg (cu8 (macL k l)).toArray) (Cl_func [Slc nb1 0 16 16, Slc nb3 0 l.length cp1] Tryd.call37 rfl) (fun w1 hw1 => rmac_c (some ⟨nb1, 0, none⟩) 16 16 k (some ⟨nb3, 0, none⟩) l.length cp1 l w1 hk (fun h => by cases h) (by omega) (RdB.of hw1 (MemAt.ent 0 rfl (Seg.whole _)) (by simp)) (rfl : l.length = _) (by omega) (RdB.of hw1 (MemAt.ent 2 rfl (Seg.left (Seg.whole _))) (by simp)) (GLr.at hw1 hGr) (GLi.at hw1 hGi))) rfl ?_
 rintro v1 L1 ⟨rfl, rfl⟩
 show JL _ _ _ _ ((8, .agg (cu8 (macL k l)).toArray) :: _) [⟨nb1, cu8 k, 55, (0, 0)⟩, ⟨nb2, cu8 (zr8 32), 25, (0, 0)⟩, ⟨nb3, cu8 l ++ sp1, 5, fz1⟩]
 refine JL_step (Step_store 1 nb2 0 32 (cu8 (zr8 32)) 25 (.agg (cu8 (macL k l)).toArray) (cu8 (macL k l)) (cu8 (macL k l)) rfl rfl rfl (by first | rfl | simp) Tryd.sizeOf25 (len_cu8 (macL_len _ _)) (by first | exact one_u8 | exact one_u32 | exact one_u64 | (simp [cu8, cu32, cu64, Value.oneCell']; done)) (by simp [(zr8_len 32)]) (lay_whole (by simp [(zr8_len 32), (macL_len _ _)]))) rfl ?_
 rintro v1 L1 ⟨rfl, rfl⟩
 show JL _ _ _ _ _ [⟨nb1, cu8 k, 55, (0, 0)⟩, ⟨nb2, cu8 (macL k l), 25, (0, 0)⟩, ⟨nb3, cu8 l ++ sp1, 5, fz1⟩]
 refine JL_nil ?_
 refine JQ_then ?_
 refine JC_ret ?_
 refine JQ_ret (.agg (cu8 (macL k l)).toArray) (res1 Tryd.results45 (RV_cell rfl (Ld_agg Tryd.isAgg25 Tryd.sizeOf25 (len_cu8 (macL_len _ _)) (MemAt.ent 1 rfl (Seg.whole _))))) fun w1 hw1 => ?_
 refine ⟨_, [], rfl, ⟨?_, rfl⟩, hw1.sub (by simp) (by simp)⟩
 first | rfl | (simp; done)
theorem rtag_c (k : List UInt8) (w : World) (hk : k.length = 16) (hGr : GLr w) (hGi : GLi w) : Calls Tryd.prog 51 #[.agg (cu8 k).toArray] w (Post w [] (fun v L => v = .agg (cu8 (macL k ([101, 110, 116, 114, 117, 115, 116, 32, 116, 97, 103] : List UInt8))).toArray ∧ L = [])) := by
 refine enter w [] 5 [] [.agg (cu8 k).toArray] Tryd.func51 rfl rfl (by simp) (Hp.start (by simp) (by simp) (by simp)) ?_
 show JC _ _ _ [(0, .agg (cu8 k).toArray)] _
 refine JC_seq ?_
 refine JC_region ?_
 refine JL_step (Step_box (.agg (cu8 k).toArray) (cu8 k) rfl (by first | rfl | simp)) rfl ?_
 rintro v1 L1 ⟨nb1, hnb1, rfl, rfl⟩
 show JL _ _ _ _ ((1, Ptr nb1 0) :: _) [⟨nb1, cu8 k, 55, (0, 0)⟩]
 refine JL_step (Step_alloc _ (cu8 (zr8 32)) Tryd.zeroValue25 (by kernel_rfl)) rfl ?_
 rintro v1 L1 ⟨nb2, hnb2, rfl, rfl⟩
 show JL _ _ _ _ ((2, Ptr nb2 0) :: _) [⟨nb1, cu8 k, 55, (0, 0)⟩, ⟨nb2, cu8 (zr8 32), 25, (0, 0)⟩]
 refine JL_nil ?_
 refine JQ_then ?_
 refine JC_seq ?_
 refine JC_region ?_
 refine JL_val (.agg (cu8 k).toArray) (Ev_load rfl (Ld_agg Tryd.isAgg55 Tryd.sizeOf55 (len_cu8 hk) (MemAt.ent 0 rfl (Seg.whole _)))) rfl ?_
 refine JL_step (Step_callP 45 [.agg (cu8 k).toArray, .string (⟨⟨[101, 110, 116, 114, 117, 115, 116, 32, 116, 97, 103]⟩⟩)] (.agg (cu8 (macL k ([101, 110, 116, 114, 117, 115, 116, 32, 116, 97, 103] : List UInt8))).toArray) (Cl_func [.agg (cu8 k).toArray, .string (⟨⟨[101, 110, 116, 114, 117, 115, 116, 32, 116, 97, 103]⟩⟩)] Tryd.call45 rfl) (fun w1 hw1 => rlabel_c k ([101, 110, 116, 114, 117, 115, 116, 32, 116, 97, 103] : List UInt8) w1 hk (by first | omega | (simp; done)) (GLr.at hw1 hGr) (GLi.at hw1 hGi))) rfl ?_
 rintro v1 L1 ⟨rfl, rfl⟩
 show JL _ _ _ _ ((4, .agg (cu8 (macL k ([101, 110, 116, 114, 117, 115, 116, 32, 116, 97, 103] : List UInt8))).toArray) :: _) [⟨nb1, cu8 k, 55, (0, 0)⟩, ⟨nb2, cu8 (zr8 32), 25, (0, 0)⟩]
 refine JL_step (Step_store 1 nb2 0 32 (cu8 (zr8 32)) 25 (.agg (cu8 (macL k ([101, 110, 116, 114, 117, 115, 116, 32, 116, 97, 103] : List UInt8))).toArray) (cu8 (macL k ([101, 110, 116, 114, 117, 115, 116, 32, 116, 97, 103] : List UInt8))) (cu8 (macL k ([101, 110, 116, 114, 117, 115, 116, 32, 116, 97, 103] : List UInt8))) rfl rfl rfl (by first | rfl | simp) Tryd.sizeOf25 (len_cu8 (macL_len _ _)) (by first | exact one_u8 | exact one_u32 | exact one_u64 | (simp [cu8, cu32, cu64, Value.oneCell']; done)) (by simp [(zr8_len 32)]) (lay_whole (by simp [(zr8_len 32), (macL_len _ _)]))) rfl ?_
 rintro v1 L1 ⟨rfl, rfl⟩
 show JL _ _ _ _ _ [⟨nb1, cu8 k, 55, (0, 0)⟩, ⟨nb2, cu8 (macL k ([101, 110, 116, 114, 117, 115, 116, 32, 116, 97, 103] : List UInt8)), 25, (0, 0)⟩]
 refine JL_nil ?_
 refine JQ_then ?_
 refine JC_ret ?_
 refine JQ_ret (.agg (cu8 (macL k ([101, 110, 116, 114, 117, 115, 116, 32, 116, 97, 103] : List UInt8))).toArray) (res1 Tryd.results51 (RV_cell rfl (Ld_agg Tryd.isAgg25 Tryd.sizeOf25 (len_cu8 (macL_len _ _)) (MemAt.ent 1 rfl (Seg.whole _))))) fun w1 hw1 => ?_
 exact ⟨_, [], rfl, ⟨rfl, rfl⟩, hw1.sub (by simp) (by simp)⟩
theorem renc6_c (k : List UInt8) (w : World) (hk : k.length = 16) (hGr : GLr w) (hGi : GLi w) : Calls Tryd.prog 50 #[.agg (cu8 k).toArray] w (Post w [] (fun v L => v = .agg (cu8 (mid (macL k ([101, 110, 116, 114, 117, 115, 116, 32, 115, 101, 97, 108] : List UInt8)) 0 16)).toArray ∧ L = [])) := by
 refine enter w [] 11 [] [.agg (cu8 k).toArray] Tryd.func50 rfl rfl (by simp) (Hp.start (by simp) (by simp) (by simp)) ?_
 show JC _ _ _ [(0, .agg (cu8 k).toArray)] _
 refine JC_seq ?_
 refine JC_region ?_
 refine JL_step (Step_box (.agg (cu8 k).toArray) (cu8 k) rfl (by first | rfl | simp)) rfl ?_
 rintro v1 L1 ⟨nb1, hnb1, rfl, rfl⟩
 show JL _ _ _ _ ((1, Ptr nb1 0) :: _) [⟨nb1, cu8 k, 55, (0, 0)⟩]
 refine JL_step (Step_alloc _ (cu8 (zr8 16)) Tryd.zeroValue55 (by kernel_rfl)) rfl ?_
 rintro v1 L1 ⟨nb2, hnb2, rfl, rfl⟩
 show JL _ _ _ _ ((2, Ptr nb2 0) :: _) [⟨nb1, cu8 k, 55, (0, 0)⟩, ⟨nb2, cu8 (zr8 16), 55, (0, 0)⟩]
 refine JL_nil ?_
 refine JQ_then ?_
 refine JC_seq ?_
 refine JC_region ?_
 refine JL_val (.agg (cu8 k).toArray) (Ev_load rfl (Ld_agg Tryd.isAgg55 Tryd.sizeOf55 (len_cu8 hk) (MemAt.ent 0 rfl (Seg.whole _)))) rfl ?_
 refine JL_step (Step_callP 45 [.agg (cu8 k).toArray, .string (⟨⟨[101, 110, 116, 114, 117, 115, 116, 32, 115, 101, 97, 108]⟩⟩)] (.agg (cu8 (macL k ([101, 110, 116, 114, 117, 115, 116, 32, 115, 101, 97, 108] : List UInt8))).toArray) (Cl_func [.agg (cu8 k).toArray, .string (⟨⟨[101, 110, 116, 114, 117, 115, 116, 32, 115, 101, 97, 108]⟩⟩)] Tryd.call45 rfl) (fun w1 hw1 => rlabel_c k ([101, 110, 116, 114, 117, 115, 116, 32, 115, 101, 97, 108] : List UInt8) w1 hk (by first | omega | (simp; done)) (GLr.at hw1 hGr) (GLi.at hw1 hGi))) rfl ?_
 rintro v1 L1 ⟨rfl, rfl⟩
 show JL _ _ _ _ ((6, .agg (cu8 (macL k ([101, 110, 116, 114, 117, 115, 116, 32, 115, 101, 97, 108] : List UInt8))).toArray) :: _) [⟨nb1, cu8 k, 55, (0, 0)⟩, ⟨nb2, cu8 (zr8 16), 55, (0, 0)⟩]
 refine JL_step (Step_alloc _ (cu8 (zr8 32)) Tryd.zeroValue25 (by kernel_rfl)) rfl ?_
 rintro v1 L1 ⟨nb3, hnb3, rfl, rfl⟩
 show JL _ _ _ _ ((3, Ptr nb3 0) :: _) [⟨nb1, cu8 k, 55, (0, 0)⟩, ⟨nb2, cu8 (zr8 16), 55, (0, 0)⟩, ⟨nb3, cu8 (zr8 32), 25, (0, 0)⟩]
 refine JL_step (Step_store 2 nb3 0 32 (cu8 (zr8 32)) 25 (.agg (cu8 (macL k ([101, 110, 116, 114, 117, 115, 116, 32, 115, 101, 97, 108] : List UInt8))).toArray) (cu8 (macL k ([101, 110, 116, 114, 117, 115, 116, 32, 115, 101, 97, 108] : List UInt8))) (cu8 (macL k ([101, 110, 116, 114, 117, 115, 116, 32, 115, 101, 97, 108] : List UInt8))) rfl rfl rfl (by first | rfl | simp) Tryd.sizeOf25 (len_cu8 (macL_len _ _)) (by first | exact one_u8 | exact one_u32 | exact one_u64 | (simp [cu8, cu32, cu64, Value.oneCell']; done)) (by simp [(zr8_len 32)]) (lay_whole (by simp [(zr8_len 32), (macL_len _ _)]))) rfl ?_
 rintro v1 L1 ⟨rfl, rfl⟩
 show JL _ _ _ _ _ [⟨nb1, cu8 k, 55, (0, 0)⟩, ⟨nb2, cu8 (zr8 16), 55, (0, 0)⟩, ⟨nb3, cu8 (macL k ([101, 110, 116, 114, 117, 115, 116, 32, 115, 101, 97, 108] : List UInt8)), 25, (0, 0)⟩]
 refine JL_nil ?_
 refine JQ_then ?_
 refine JC_seq ?_
 refine JC_region ?_
 refine JL_step (Step_alloc _ (cu8 (zr8 16)) Tryd.zeroValue55 (by kernel_rfl)) rfl ?_
 rintro v1 L1 ⟨nb4, hnb4, rfl, rfl⟩
 show JL _ _ _ _ ((4, Ptr nb4 0) :: _) [⟨nb1, cu8 k, 55, (0, 0)⟩, ⟨nb2, cu8 (zr8 16), 55, (0, 0)⟩, ⟨nb3, cu8 (macL k ([101, 110, 116, 114, 117, 115, 116, 32, 115, 101, 97, 108] : List UInt8)), 25, (0, 0)⟩, ⟨nb4, cu8 (zr8 16), 55, (0, 0)⟩]
 refine JL_nil ?_
 refine JQ_then ?_
 refine JC_seq ?_
 refine JC_draw 11 2 [(0, Slc nb4 0 16 16), (1, Slc nb3 0 32 32)] Tryd.mixed rfl (by decide +kernel) ?_
 have hl1 : (mid (macL k ([101, 110, 116, 114, 117, 115, 116, 32, 115, 101, 97, 108] : List UInt8)) 0 16).length = 16 := mid_len (by rw [(macL_len _ _)]; omega)
 refine DP_one ⟨[], [0, 1], [], [0, 1], [2]⟩ 2 _ rfl rfl (by decide +kernel) rfl ⟨⟨_, rfl, Qok_val rfl (Ev_sliceA 16 5 1 0 16 0 16 Tryd.underlying55 Tryd.sizeOf5 rfl rfl rfl (by omega) (by omega) (by omega) (by omega) (by omega) 16 (by omega))⟩, ⟨_, rfl, Qok_val rfl (Ev_sliceA 32 5 1 0 32 0 32 Tryd.underlying25 Tryd.sizeOf5 rfl rfl rfl (by omega) (by omega) (by omega) (by omega) (by omega) 32 (by omega))⟩, trivial⟩ rfl (Cok_step rfl (Step_copy 22 22 5 3 nb4 0 16 16 (cu8 (zr8 16)) 55 (some ⟨nb3, 0, none⟩) 32 32 16 (cu8 (mid (macL k ([101, 110, 116, 114, 117, 115, 116, 32, 115, 101, 97, 108] : List UInt8)) 0 16)) (cu8 (mid (macL k ([101, 110, 116, 114, 117, 115, 116, 32, 115, 101, 97, 108] : List UInt8)) 0 16)) Tryd.underlying22 Tryd.size1_5 rfl rfl rfl (by rfl) (by simp [hl1]; try omega) (SrcAt.mem (MemAt.ent 2 rfl (segm_u8 0 16 (by rw [(macL_len _ _)]; omega)))) (by simp [(zr8_len 16)]; try omega) (by first | exact one_u8 | exact one_u32 | exact one_u64 | (simp [cu8, cu32, cu64, Value.oneCell']; done)) (lay_whole (by simp [(zr8_len 16), hl1])))) ?_
 rintro v1 L1 ⟨rfl, rfl⟩
 refine ⟨[], ?_⟩
 show DP _ _ _ _ _ _ _ _ [⟨nb1, cu8 k, 55, (0, 0)⟩, ⟨nb2, cu8 (zr8 16), 55, (0, 0)⟩, ⟨nb3, cu8 (macL k ([101, 110, 116, 114, 117, 115, 116, 32, 115, 101, 97, 108] : List UInt8)), 25, (0, 0)⟩, ⟨nb4, cu8 (mid (macL k ([101, 110, 116, 114, 117, 115, 116, 32, 115, 101, 97, 108] : List UInt8)) 0 16), 55, (0, 0)⟩]
 refine DP_end ⟨[2], [0, 1], [0, 1], [], []⟩ rfl rfl (by decide +kernel) rfl trivial ?_
 refine K_sub (F' := [(2, Ptr nb2 0), (4, Ptr nb4 0)]) (Sub.cons (by kernel_rfl) (Sub.cons (by kernel_rfl) (Sub.nil))) ?_
 show JQ _ _ _ [(2, Ptr nb2 0), (4, Ptr nb4 0)] _
 refine JQ_then ?_
 refine JC_seq ?_
 refine JC_region ?_
 refine JL_val (.agg (cu8 (mid (macL k ([101, 110, 116, 114, 117, 115, 116, 32, 115, 101, 97, 108] : List UInt8)) 0 16)).toArray) (Ev_load rfl (Ld_agg Tryd.isAgg55 Tryd.sizeOf55 (len_cu8 hl1) (MemAt.ent 3 rfl (Seg.whole _)))) rfl ?_
 refine JL_step (Step_store 1 nb2 0 16 (cu8 (zr8 16)) 55 (.agg (cu8 (mid (macL k ([101, 110, 116, 114, 117, 115, 116, 32, 115, 101, 97, 108] : List UInt8)) 0 16)).toArray) (cu8 (mid (macL k ([101, 110, 116, 114, 117, 115, 116, 32, 115, 101, 97, 108] : List UInt8)) 0 16)) (cu8 (mid (macL k ([101, 110, 116, 114, 117, 115, 116, 32, 115, 101, 97, 108] : List UInt8)) 0 16)) rfl rfl rfl (by first | rfl | simp) Tryd.sizeOf55 (len_cu8 hl1) (by first | exact one_u8 | exact one_u32 | exact one_u64 | (simp [cu8, cu32, cu64, Value.oneCell']; done)) (by simp [(zr8_len 16)]) (lay_whole (by simp [(zr8_len 16), hl1]))) rfl ?_
 rintro v1 L1 ⟨rfl, rfl⟩
 show JL _ _ _ _ _ [⟨nb1, cu8 k, 55, (0, 0)⟩, ⟨nb2, cu8 (mid (macL k ([101, 110, 116, 114, 117, 115, 116, 32, 115, 101, 97, 108] : List UInt8)) 0 16), 55, (0, 0)⟩, ⟨nb3, cu8 (macL k ([101, 110, 116, 114, 117, 115, 116, 32, 115, 101, 97, 108] : List UInt8)), 25, (0, 0)⟩, ⟨nb4, cu8 (mid (macL k ([101, 110, 116, 114, 117, 115, 116, 32, 115, 101, 97, 108] : List UInt8)) 0 16), 55, (0, 0)⟩]
 refine JL_nil ?_
 refine JQ_then ?_
 refine JC_ret ?_
 refine JQ_ret (.agg (cu8 (mid (macL k ([101, 110, 116, 114, 117, 115, 116, 32, 115, 101, 97, 108] : List UInt8)) 0 16)).toArray) (res1 Tryd.results50 (RV_cell rfl (Ld_agg Tryd.isAgg55 Tryd.sizeOf55 (len_cu8 hl1) (MemAt.ent 1 rfl (Seg.whole _))))) fun w1 hw1 => ?_
 exact ⟨_, [], rfl, ⟨rfl, rfl⟩, hw1.sub (by simp) (by simp)⟩
end Go.Proofs.YtncoifiafklkjaaDoor
namespace Go.Sx
open Go Go.RowKit
set_option linter.unusedVariables false
variable {C : Cx} {Q : Exit → Act → World → Prop} {F F0 : Frm} {L : List Ent}
def CutQ {ι : Type} (C : Cx) (Q : Exit → Act → World → Prop) (FI : ι → Frm) (LI : ι → List Ent) (Pre : ι → Prop) : Exit → Act → World → Prop := fun e a w =>
 (e = .normal ∧ ∃ x, Pre x ∧ Fr (FI x) C a ∧ Hp C.w0 C.M (LI x) w) ∨ (e ≠ .normal ∧ Q e a w)
theorem JC_cut {ι : Type} {c : Code} (FI : ι → Frm) (LI : ι → List Ent) (Pre : ι → Prop) (h1 : JC C (CutQ C Q FI LI Pre) c F L) (h2 : ∀ x, Pre x → JQ C Q .normal (FI x) (LI x)) : JC C Q c F L := fun a w ha hw => wpIn_mono (h1 a w ha hw) (by
  rintro e a w (⟨rfl, x, hp, ha, hw⟩ | ⟨_, h⟩)
  · exact h2 x hp a w ha hw
  · exact h)
theorem JQ_cut {ι : Type} {FI : ι → Frm} {LI : ι → List Ent} {Pre : ι → Prop} (x : ι) (hp : Pre x) (hF : Sub (FI x) F) (hL : LI x = L) : JQ C (CutQ C Q FI LI Pre) .normal F L := fun a w ha hw => .inl ⟨rfl, x, hp, ha.weaken hF, hL ▸ hw⟩
variable {ops : Array Oper} {Vl : Vals}
end Go.Sx
namespace Go.Proofs.YtncoifiafklkjaaDoor
open Go Go.Sx
set_option linter.unusedVariables false
set_option linter.unusedSimpArgs false
def rnK (k : Nat) (x : UInt64) : Nat → List UInt8 × UInt64
 | 0 => (zr8 k, x)
 | j + 1 => ((rnK k x j).1.set (k - j - 1) ((rnK k x j).2 % 256).toUInt8, (rnK k x j).2 / 256)
theorem rnK_len (k : Nat) (x : UInt64) : ∀ j, (rnK k x j).1.length = k
 | 0 => zr8_len k
 | j + 1 => by rw [rnK]; simp [rnK_len k x j]
theorem rnK_snd (k : Nat) (x : UInt64) : ∀ j, (rnK k x j).2.toNat = x.toNat / 256 ^ j
 | 0 => by simp [rnK]
 | j + 1 => by
  rw [rnK]
  show ((rnK k x j).2 / 256).toNat = _
  rw [UInt64.toNat_div, rnK_snd k x j, Nat.pow_succ, ← Nat.div_div_eq_div_mul]
  rfl
theorem u8_modK (y : UInt64) : (y % 256).toUInt8 = y.toUInt8 := by
 apply UInt8.toNat_inj.1
 rw [UInt64.toNat_toUInt8, UInt64.toNat_toUInt8, UInt64.toNat_mod]
 show y.toNat % 256 % 2 ^ 8 = _
 omega
theorem rnK_get (k : Nat) (x : UInt64) (hk : k ≤ 8) : ∀ j, j ≤ k → ∀ i, k - j ≤ i → i < k → g8 (rnK k x j).1 i = (x >>> UInt64.ofNat (8*k - 8*i - 8)).toUInt8
  | 0, _, i, h1, h2 => by omega
  | j + 1, h, i, h1, h2 => by
    rw [rnK]
    show g8 ((rnK k x j).1.set (k - j - 1) ((rnK k x j).2 % 256).toUInt8) i = _
    rw [g8_set _ _ _ _ (by rw [rnK_len]; omega)]
    by_cases hi : k - j - 1 = i
    · rw [if_pos hi, u8_modK]
      have : (rnK k x j).2 = x >>> UInt64.ofNat (8*j) := UInt64.toNat_inj.1 (by rw [rnK_snd k x j, shr_divK x j (by omega)])
      rw [this]
      have e : 8*k - 8*i - 8 = 8*j := by omega
      rw [e]
    · rw [if_neg hi]
      exact rnK_get k x hk j (by omega) i (by omega) h2
theorem rnK_num (k : Nat) (x : UInt64) (hk : k ≤ 8) : (rnK k x k).1 = numK k x k :=
 ext8n (by rw [rnK_len, numK_len]) fun i hi => by
  rw [rnK_len] at hi
  rw [rnK_get k x hk k (Nat.le_refl _) i (by omega) hi, numK, g8_mr hi]
end Go.Proofs.YtncoifiafklkjaaDoor
namespace Go.Proofs.YtncoifiafklkjaaDoor
open Go Go.Sx
set_option linter.unusedVariables false
theorem turnP_ref (k b : List UInt8) {p : List UInt8} (h : p.length = 12) : xorN (strT (rBlk (rkeysL (encK k)) (p ++ zr8 4)) 32) b 32 = turnP k p b := by
 unfold turnP; rw [str_rstr (encK_len k) (ctr12 h)]
theorem RightB_ref (i e : UInt64) : RightB i e = (decide (i ≤ 4294967295) && (decide (e ≠ 0) && decide (e ≠ 18446744073709551615))) := by
 obtain ⟨h1, h2, h3⟩ := u64_bounds i e
 unfold RightB
 rw [decide_eq_decide.2 h1, decide_eq_decide.2 h2, decide_eq_decide.2 h3]
end Go.Proofs.YtncoifiafklkjaaDoor
namespace Go.Sx
open Go Go.RowKit
open Go.ChangeShapes Go.WideShapes
set_option linter.unusedVariables false
set_option linter.unusedSimpArgs false
section
variable {H : Type} {enc : TypeId × Value → H} {P : Program} {w : World} {base : Nat} {spare : Nat → Bool} {held : Bool} {sz : Bool}
variable {t : TypeId} {cs : List Value}
theorem TD.slen {fs : Array Field} (ht : P.underlying t = some (.struct fs)) (h : TD enc P w base spare held sz t cs) : cs.length = P.cellsOf t := by
 obtain ⟨fuel, d, ps, h, hw⟩ := h
 obtain ⟨xs, n, _, hx, hl, hlen, hf⟩ := DataW.trod_struct ht h
 exact hl
theorem agg_of {v : Value} {cs : List Value} {r : Reach} {b0 : Nat} {fs : Array Field} (ht : P.underlying t = some (.struct fs)) (hval : Value.okWide P w r b0 t v) (h : v.cells.toList = cs) : v = .agg cs.toArray := by
 simp only [Value.okWide, ht] at hval
 obtain ⟨xs, rfl, _⟩ := hval
 have : (Value.agg xs).cells = xs := rfl
 rw [this] at h
 rw [← h]
end
end Go.Sx
namespace Go.Proofs.YtncoifiafklkjaaDoor
open Go Go.Sx
set_option linter.unusedVariables false
set_option linter.unusedSimpArgs false
set_option maxRecDepth 100000
attribute [local irreducible] mid zr8 zr32 numK rnK rotr wordL spreadL comprL cpN adN spN wrdN constL initL padL stN outN routN sumG blkL xbN raN macL rkeysL rencL encL rkL thereL backL nextL rnextL strT xorN eBlk rBlk encK tgK placeT turnP tagP RightB sealN sE sD sT openN openBk
theorem rnumber_c (nv : UInt64) (k : Nat) (w : World) (hk : k ≤ 8) : Calls Tryd.prog 55 #[U64 nv, I64 ((k:Int))] w (Post w [] (fun v L => ∃ g, v = Slc g 0 k k ∧ L = [⟨g, cu8 (numK k nv k), 5, (0, 0)⟩])) := by
 have hmx : maxLen = 9223372036854775807 := rfl
 refine enter w [] 24 [] [U64 nv, I64 ((k:Int))] Tryd.func55 rfl rfl (by simp) (Hp.start (by simp) (by simp) (by simp)) ?_
 show JC _ _ _ [(0, U64 nv), (1, I64 ((k:Int)))] _
 refine JC_seq ?_
 refine JC_region ?_
 refine JL_val _ (Ev_assign rfl) rfl ?_
 refine JL_nil ?_
 refine JQ_then ?_
 refine JC_seq ?_
 refine JC_region ?_
 refine JL_val _ (Ev_move rfl) rfl ?_
 refine JL_step (Step_make8 5 1 k k Tryd.underlying22 Tryd.info5 rfl rfl (by omega) (by omega) (by unfold maxLen; omega)) rfl ?_
 rintro v1 L1 ⟨nb1, hnb1, rfl, rfl⟩
 show JL _ _ _ _ ((8, Slc nb1 0 k k) :: _) [⟨nb1, cu8 (zr8 k), 5, (0, 0)⟩]
 refine JL_val _ (Ev_assign rfl) rfl ?_
 refine JL_nil ?_
 refine JQ_then ?_
 refine JC_seq ?_
 refine JC_seq ?_
 refine JC_region ?_
 refine JL_val _ (Ev_move rfl) rfl ?_
 refine JL_val (I64 ((k:Int) - 1)) (Ev_bini rfl rfl fun _ => bin_sub_i _ _ ((k:Int) - 1) (by omega) (by omega)) rfl ?_
 refine JL_val _ (Ev_assign rfl) rfl ?_
 refine JL_nil ?_
 refine JQ_then ?_
 refine JC_block ?_
 refine JC_loop (ι := Nat × List UInt8 × UInt64) (fun ⟨j, o, y⟩ => [(4, .slice none 0 0), (5, Slc nb1 0 k k), (6, I64 (-(j:Int) + (k:Int) - 1)), (0, U64 y)]) (fun ⟨j, o, y⟩ => [⟨nb1, cu8 o, 5, (0, 0)⟩]) (fun ⟨j, o, y⟩ => j ≤ k ∧ o = (rnK k nv j).1 ∧ y = (rnK k nv j).2 ∧ o.length = k) (fun ⟨j, o, y⟩ => k - j) (0, zr8 k, nv) ⟨by omega, by rw [rnK], by rw [rnK], zr8_len k⟩ (Sub.cons rfl (Sub.cons rfl (Sub.cons (some_i64 (by omega)) (Sub.cons rfl (Sub.nil))))) rfl ?_
 rintro ⟨j, o, y⟩ ⟨hx1, hx2, hx3, ho⟩
 show JC _ _ _ [(4, .slice none 0 0), (5, Slc nb1 0 k k), (6, I64 (-(j:Int) + (k:Int) - 1)), (0, U64 y)] [⟨nb1, cu8 o, 5, (0, 0)⟩]
 refine JC_seq ?_
 refine JC_seq ?_
 refine JC_region ?_
 refine JL_val _ (Ev_move rfl) rfl ?_
 refine JL_val (.bool (decide ((0:Int) ≤ (-(j:Int) + (k:Int) - 1)))) (Ev_bini rfl rfl fun _ => bin_geq_i _ _) rfl ?_
 refine JL_nil ?_
 refine JQ_then ?_
 refine JC_cond (decide ((0:Int) ≤ (-(j:Int) + (k:Int) - 1))) rfl (fun hb1 => ?_) (fun hb1 => ?_)
 ·
  have hp1 : (0:Int) ≤ (-(j:Int) + (k:Int) - 1) := of_decide_eq_true hb1
  refine JC_skip ?_
  refine JQ_then ?_
  refine JC_seq ?_
  refine JC_block ?_
  refine JC_seq ?_
  refine JC_region ?_
  refine JL_val _ (Ev_move rfl) rfl ?_
  refine JL_val _ (Ev_move rfl) rfl ?_
  refine JL_val _ (Ev_move rfl) rfl ?_
  refine JL_val (U64 (y % (256:UInt64))) (Ev_bini rfl rfl fun _ => bin_rem_u64 y (256:UInt64) (by decide)) rfl ?_
  refine JL_val (U8 ((y % (256:UInt64)).toUInt8)) (Ev_conv _ _ rfl fun _ => conv_u64_u8 (by rw [Tryd.underlying58]; rfl) Tryd.underlying5 _) rfl ?_
  refine JL_val (Ptr nb1 (k - j - 1)) (Ev_indexSl 5 1 (k - j - 1) Tryd.underlying22 Tryd.sizeOf5 rfl rfl (by omega) (by omega) (by omega)) rfl ?_
  have hl1 : (o.set (k - j - 1) ((y % (256:UInt64)).toUInt8)).length = k := by first | (rw [List.length_set]; exact ho) | simp [ho]
  refine JL_step (Step_store 0 nb1 (k - j - 1) 1 (cu8 o) 5 (U8 ((y % (256:UInt64)).toUInt8)) ([U8 ((y % (256:UInt64)).toUInt8)]) (cu8 (o.set (k - j - 1) ((y % (256:UInt64)).toUInt8))) rfl rfl rfl rfl Tryd.sizeOf5 rfl (by simp [Value.oneCell']) (by simp [ho]; try omega) (lay8 _ _ _ (by rw [ho]; omega))) rfl ?_
  rintro v1 L1 ⟨rfl, rfl⟩
  show JL _ _ _ _ _ [⟨nb1, cu8 (o.set (k - j - 1) ((y % (256:UInt64)).toUInt8)), 5, (0, 0)⟩]
  refine JL_nil ?_
  refine JQ_then ?_
  refine JC_region ?_
  refine JL_val _ (Ev_move rfl) rfl ?_
  refine JL_val (U64 (y / (256:UInt64))) (Ev_bini rfl rfl fun _ => bin_quo_u64 y (256:UInt64) (by decide)) rfl ?_
  refine JL_val _ (Ev_assign rfl) rfl ?_
  refine JL_nil ?_
  refine JQ_in_normal ?_
  refine JQ_then ?_
  refine JC_region ?_
  refine JL_val _ (Ev_move rfl) rfl ?_
  refine JL_val (I64 (-(j:Int) + (k:Int) - 2)) (Ev_bini rfl rfl fun _ => bin_sub_i _ _ (-(j:Int) + (k:Int) - 2) (by omega) (by omega)) rfl ?_
  refine JL_val _ (Ev_assign rfl) rfl ?_
  refine JL_nil ?_
  refine JQ_thenK ?_
  refine K_next (j + 1, o.set (k - j - 1) ((y % (256:UInt64)).toUInt8), y / (256:UInt64)) ⟨by omega, by rw [rnK, ← hx2, ← hx3], by rw [rnK, ← hx3], hl1⟩ (by first | (simp; omega) | simp | (dsimp only; omega) | omega) (Sub.cons rfl (Sub.cons rfl (Sub.cons (some_i64 (by omega)) (Sub.cons rfl (Sub.nil))))) rfl
 ·
  have hp1 : ¬ ((0:Int) ≤ (-(j:Int) + (k:Int) - 1)) := of_decide_eq_false hb1
  refine JC_exit ?_
  refine JQ_then_exit ?_
  refine JQ_then_exit ?_
  refine JQ_in_same ?_
  refine JQ_then ?_
  refine JC_seq ?_
  refine JC_region ?_
  refine JL_val _ (Ev_move rfl) rfl ?_
  refine JL_val _ (Ev_assign rfl) rfl ?_
  refine JL_nil ?_
  refine JQ_then ?_
  refine JC_ret ?_
  refine JQ_ret (Slc nb1 0 k k) (res1 Tryd.results55 (RV_tmp rfl)) fun w1 hw1 => ?_
  have e1 : j = k := by omega
  rw [hx2, e1, rnK_num k nv hk] at hw1
  exact ⟨_, _, rfl, ⟨_, rfl, rfl⟩, hw1.sub (by simp) (by simp)⟩
theorem doc7_c (e : UInt64) (d t : List UInt8) (w : World) (hd : d.length = 32) (ht : t.length = 16) : Calls Tryd.prog 61 #[.agg (List.toArray (α := Value) ([U64 e] ++ cu8 d ++ cu8 t))] w (Post w [] (fun v L => v = .agg (List.toArray (α := Value) ([U64 e] ++ cu8 d ++ cu8 t)) ∧ L = [])) := by
 refine enter (P := Tryd.prog) (f := 61) (fn := Tryd.f61) w [] 4 [] [.agg (List.toArray (α := Value) ([U64 e] ++ cu8 d ++ cu8 t))] Tryd.func61 rfl rfl (by simp) (Hp.start (by simp) (by simp) (by simp)) ?_
 show JC _ _ _ [(0, .agg (List.toArray (α := Value) ([U64 e] ++ cu8 d ++ cu8 t)))] _
 refine JC_seq ?_
 refine JC_region ?_
 refine JL_step (Step_box (.agg (List.toArray (α := Value) ([U64 e] ++ cu8 d ++ cu8 t))) ([U64 e] ++ cu8 d ++ cu8 t) rfl (by first | rfl | simp)) rfl ?_
 rintro v1 L1 ⟨nb1, hnb1, rfl, rfl⟩
 show JL _ _ _ _ ((1, Ptr nb1 0) :: _) [⟨nb1, [U64 e] ++ cu8 d ++ cu8 t, 76, (0, 0)⟩]
 refine JL_step (Step_alloc _ ([U64 (0:UInt64)] ++ cu8 (zr8 32) ++ cu8 (zr8 16)) Tryd.zeroValue81 (by kernel_rfl)) rfl ?_
 rintro v1 L1 ⟨nb2, hnb2, rfl, rfl⟩
 show JL _ _ _ _ ((2, Ptr nb2 0) :: _) [⟨nb1, [U64 e] ++ cu8 d ++ cu8 t, 76, (0, 0)⟩, ⟨nb2, [U64 (0:UInt64)] ++ cu8 (zr8 32) ++ cu8 (zr8 16), 81, (0, 0)⟩]
 refine JL_nil ?_
 refine JQ_then ?_
 refine JC_seq ?_
 refine JC_region ?_
 refine JL_val (.agg (List.toArray (α := Value) ([U64 e] ++ cu8 d ++ cu8 t))) (Ev_load rfl (Ld_agg Tryd.isAgg76 Tryd.sizeOf76 (by simp [hd, ht]) (MemAt.ent 0 rfl (Seg.whole _)))) rfl ?_
 refine JL_step (Step_store 1 nb2 0 49 ([U64 (0:UInt64)] ++ cu8 (zr8 32) ++ cu8 (zr8 16)) 81 (.agg (List.toArray (α := Value) ([U64 e] ++ cu8 d ++ cu8 t))) ([U64 e] ++ cu8 d ++ cu8 t) ([U64 e] ++ cu8 d ++ cu8 t) rfl rfl rfl (by first | rfl | simp) Tryd.sizeOf81 (by simp [hd, ht]) (one_app (one_app (by simp [Value.oneCell']) one_u8) one_u8) (by simp [(zr8_len 32), (zr8_len 16)]) (lay_whole (by simp [(zr8_len 32), (zr8_len 16), hd, ht]))) rfl ?_
 rintro v1 L1 ⟨rfl, rfl⟩
 show JL _ _ _ _ _ [⟨nb1, [U64 e] ++ cu8 d ++ cu8 t, 76, (0, 0)⟩, ⟨nb2, [U64 e] ++ cu8 d ++ cu8 t, 81, (0, 0)⟩]
 refine JL_nil ?_
 refine JQ_then ?_
 refine JC_ret ?_
 refine JQ_ret (.agg (List.toArray (α := Value) ([U64 e] ++ cu8 d ++ cu8 t))) (res1 Tryd.results61 (RV_cell rfl (Ld_agg Tryd.isAgg81 Tryd.sizeOf81 (by simp [hd, ht]) (MemAt.ent 1 rfl (Seg.whole _))))) fun w1 hw1 => ?_
 exact ⟨_, [], rfl, ⟨rfl, rfl⟩, hw1.sub (by simp) (by simp)⟩
theorem ofN_c  (w : World) (hG : GLs w)  : Calls Tryd.prog 100 #[.pointer none] w (Post w [] (fun v L => ∃ sb cb, v = Ptr sb 0 ∧ L = [⟨cb, cu8 (rkL (encK (zr8 16))) ++ cu8 thereL ++ cu8 backL, 170, (0, 0)⟩, ⟨sb, cu8 (encK (zr8 16)) ++ cu8 (tgK (zr8 16)) ++ cu8 (macL (zr8 16) ([101, 110, 116, 114, 117, 115, 116, 32, 116, 105, 99, 107, 101, 116] : List UInt8)) ++ cu8 (macL (zr8 16) ([101, 110, 116, 114, 117, 115, 116, 32, 108, 105, 110, 107] : List UInt8)) ++ [Ptr cb 0], 145, (0, 0)⟩])) := by
 refine enter w [] 8 [] [.pointer none] Tryd.func100 rfl rfl (by simp) (Hp.start (by simp) (by simp) (by simp)) ?_
 show JC _ _ _ [(0, .pointer none)] _
 refine JC_seq ?_
 refine JC_region ?_
 refine JL_val _ (Ev_assign rfl) rfl ?_
 refine JL_nil ?_
 refine JQ_then ?_
 refine JC_seq ?_
 refine JC_seq ?_
 refine JC_region ?_
 refine JL_val _ (Ev_move rfl) rfl ?_
 refine JL_val (.bool true) (Ev_bin _ _ _ rfl rfl (fun _ => eqGuard_ptr ..) fun _ => eql_ptr_nil_nil Tryd.underlying78) rfl ?_
 refine JL_nil ?_
 refine JQ_then ?_
 refine JC_condT _ rfl rfl ?_
 refine JC_seq ?_
 refine JC_region ?_
 refine JL_val (.agg (cu8 (zr8 16)).toArray) (Ev_build [] _ rfl (fun _ => by kernel_rfl)) rfl ?_
 refine JL_step (Step_callN 57 [.agg (cu8 (zr8 16)).toArray] _ (Cl_func [.agg (cu8 (zr8 16)).toArray] Tryd.call57 rfl) (fun w1 hw1 => snew_c (zr8 16) w1 (zr8_len 16) (hG.at hw1))) rfl ?_
 rintro v1 L1 ⟨_, ⟨nb1, nb2, rfl, rfl⟩, rfl⟩
 show JL _ _ _ _ ((6, Ptr nb1 0) :: _) [⟨nb2, cu8 (rkL (encK (zr8 16))) ++ cu8 thereL ++ cu8 backL, 170, (0, 0)⟩, ⟨nb1, cu8 (encK (zr8 16)) ++ cu8 (tgK (zr8 16)) ++ cu8 (macL (zr8 16) ([101, 110, 116, 114, 117, 115, 116, 32, 116, 105, 99, 107, 101, 116] : List UInt8)) ++ cu8 (macL (zr8 16) ([101, 110, 116, 114, 117, 115, 116, 32, 108, 105, 110, 107] : List UInt8)) ++ [Ptr nb2 0], 145, (0, 0)⟩]
 refine JL_val _ (Ev_assign rfl) rfl ?_
 refine JL_nil ?_
 refine JQ_then ?_
 refine JC_ret ?_
 refine JQ_then_ret ?_
 refine JQ_ret (Ptr nb1 0) (res1 Tryd.results100 (RV_tmp rfl)) fun w1 hw1 => ?_
 exact ⟨_, _, rfl, ⟨nb1, nb2, rfl, rfl⟩, hw1.sub (by simp) (by simpa using hw1.ne (i := 0) (j := 1) rfl rfl (by decide))⟩
theorem rright_c (i e : UInt64) (w : World) : Calls Tryd.prog 65 #[U64 i, U64 e] w (Post w [] (fun v L => v = .bool (RightB i e) ∧ L = [])) := by
 refine enter w [] 15 [] [U64 i, U64 e] Tryd.func65 rfl rfl (by simp) (Hp.start (by simp) (by simp) (by simp)) ?_
 show JC _ _ _ [(0, U64 i), (1, U64 e)] _
 refine JC_seq ?_
 refine JC_region ?_
 refine JL_val _ (Ev_assign rfl) rfl ?_
 refine JL_nil ?_
 refine JQ_then ?_
 refine JC_seq ?_
 refine JC_region ?_
 refine JL_val _ (Ev_move rfl) rfl ?_
 refine JL_val (.bool (decide (i ≤ (4294967295:UInt64)))) (Ev_bini rfl rfl fun _ => bin_leq_u64 i (4294967295:UInt64)) rfl ?_
 refine JL_val _ (Ev_move rfl) rfl ?_
 rcases Bool.eq_false_or_eq_true (decide (i ≤ (4294967295:UInt64))) with hb1 | hb1
 ·
  have hp1 : i ≤ (4294967295:UInt64) := of_decide_eq_true hb1
  refine JL_gval 2 7 true _ _ rfl rfl hb1 (Ev_move rfl) rfl ?_
  refine JL_gval 2 7 true _ (.bool (decide (e ≠ (0:UInt64)))) rfl rfl hb1 (Ev_bini rfl rfl fun _ => bin_neq_u64 e (0:UInt64)) rfl ?_
  refine JL_val _ (Ev_pickT _ rfl hb1 rfl) rfl ?_
  refine JL_val _ (Ev_move rfl) rfl ?_
  rcases Bool.eq_false_or_eq_true (decide (e ≠ (0:UInt64))) with hb2 | hb2
  ·
   have hp2 : e ≠ (0:UInt64) := of_decide_eq_true hb2
   refine JL_gval 6 11 true _ _ rfl rfl hb2 (Ev_move rfl) rfl ?_
   refine JL_gval 6 11 true _ (.bool (decide (e ≠ (18446744073709551615:UInt64)))) rfl rfl hb2 (Ev_bini rfl rfl fun _ => bin_neq_u64 e (18446744073709551615:UInt64)) rfl ?_
   refine JL_val _ (Ev_pickT _ rfl hb2 rfl) rfl ?_
   refine JL_val _ (Ev_assign rfl) rfl ?_
   refine JL_nil ?_
   refine JQ_then ?_
   refine JC_ret ?_
   refine JQ_ret (.bool (decide (e ≠ (18446744073709551615:UInt64)))) (res1 Tryd.results65 (RV_tmp rfl)) fun w1 hw1 => ?_
   refine ⟨_, [], rfl, ⟨congrArg Value.bool ?_, rfl⟩, hw1.sub (by simp) (by simp)⟩
   rw [RightB_ref]
   simp [*]
  ·
   have hp2 : ¬ (e ≠ (0:UInt64)) := of_decide_eq_false hb2
   refine JL_gskip 6 11 true _ rfl rfl hb2 rfl ?_
   refine JL_gskip 6 11 true _ rfl rfl hb2 rfl ?_
   refine JL_val _ (Ev_pickF _ rfl hb2 rfl) rfl ?_
   refine JL_val _ (Ev_assign rfl) rfl ?_
   refine JL_nil ?_
   refine JQ_then ?_
   refine JC_ret ?_
   refine JQ_ret (.bool false) (res1 Tryd.results65 (RV_tmp rfl)) fun w1 hw1 => ?_
   refine ⟨_, [], rfl, ⟨congrArg Value.bool ?_, rfl⟩, hw1.sub (by simp) (by simp)⟩
   rw [RightB_ref]
   simp [*]
 ·
  have hp1 : ¬ (i ≤ (4294967295:UInt64)) := of_decide_eq_false hb1
  refine JL_gskip 2 7 true _ rfl rfl hb1 rfl ?_
  refine JL_gskip 2 7 true _ rfl rfl hb1 rfl ?_
  refine JL_val _ (Ev_pickF _ rfl hb1 rfl) rfl ?_
  refine JL_val _ (Ev_move rfl) rfl ?_
  refine JL_gskip 6 11 true _ rfl rfl rfl rfl ?_
  refine JL_gskip 6 11 true _ rfl rfl rfl rfl ?_
  refine JL_val _ (Ev_pickF _ rfl rfl rfl) rfl ?_
  refine JL_val _ (Ev_assign rfl) rfl ?_
  refine JL_nil ?_
  refine JQ_then ?_
  refine JC_ret ?_
  refine JQ_ret (.bool false) (res1 Tryd.results65 (RV_tmp rfl)) fun w1 hw1 => ?_
  refine ⟨_, [], rfl, ⟨congrArg Value.bool ?_, rfl⟩, hw1.sub (by simp) (by simp)⟩
  rw [RightB_ref]
  simp [*]
theorem rplace_c (i e : UInt64) (w : World) : Calls Tryd.prog 105 #[U64 i, U64 e] w (Post w [] (fun v L => ∃ g sp cap, v = Slc g 0 12 cap ∧ L = [⟨g, cu8 (placeT i e) ++ sp, 5, (0, 0)⟩] ∧ sp.length = cap - 12 ∧ 12 ≤ cap ∧ cap ≤ maxLen)) := by
 have hmx : maxLen = 9223372036854775807 := rfl
 refine enter w [] 10 [] [U64 i, U64 e] Tryd.func105 rfl rfl (by simp) (Hp.start (by simp) (by simp) (by simp)) ?_
 show JC _ _ _ [(0, U64 i), (1, U64 e)] _
 refine JC_seq ?_
 refine JC_region ?_
 refine JL_val _ (Ev_assign rfl) rfl ?_
 refine JL_nil ?_
 refine JQ_then ?_
 refine JC_seq ?_
 refine JC_region ?_
 refine JL_val _ (Ev_move rfl) rfl ?_
 refine JL_step (Step_callN 55 [U64 i, I64 (4:Int)] _ (Cl_func [U64 i, I64 (4:Int)] Tryd.call55 rfl) (fun w1 hw1 => rnumber_c i 4 w1 (by omega))) rfl ?_
 rintro v1 L1 ⟨_, ⟨nb1, rfl, rfl⟩, rfl⟩
 show JL _ _ _ _ ((6, Slc nb1 0 4 4) :: _) [⟨nb1, cu8 (numK 4 i 4), 5, (0, 0)⟩]
 refine JL_val _ (Ev_move rfl) rfl ?_
 refine JL_step (Step_callN 55 [U64 e, I64 (8:Int)] _ (Cl_func [U64 e, I64 (8:Int)] Tryd.call55 rfl) (fun w1 hw1 => rnumber_c e 8 w1 (by omega))) rfl ?_
 rintro v1 L1 ⟨_, ⟨nb2, rfl, rfl⟩, rfl⟩
 show JL _ _ _ _ ((8, Slc nb2 0 8 8) :: _) [⟨nb1, cu8 (numK 4 i 4), 5, (0, 0)⟩, ⟨nb2, cu8 (numK 8 e 8), 5, (0, 0)⟩]
 refine JL_step (Step_appM8 22 5 [true, false] (Slc nb1 0 4 4) 4 (numK 4 i 4) (numK 8 e 8) (some ⟨nb2, 0, none⟩) 8 8 12 Tryd.underlying22 Tryd.info5 rfl (.inr ⟨nb1, [], 4, rfl, (by simp [take?, cu8, cu32, cu64]), (by first | exact (show (numK 4 i 4).length = 4 from numK_len _ _ _) | simp [(show (numK 4 i 4).length = 4 from numK_len _ _ _)]), (by simp), (by omega), (by unfold maxLen; omega)⟩) rfl (by first | exact (show (numK 8 e 8).length = 8 from numK_len _ _ _) | simp [(show (numK 8 e 8).length = 8 from numK_len _ _ _)]; try omega) (SrcAt.mem (MemAt.ent 1 rfl (Seg.whole _))) (by omega) (by unfold maxLen; omega) (by omega)) rfl ?_
 rintro v1 L1 ⟨nb3, sp1, cp1, hg1, rfl, rfl, ha1, ha2, ha3, ha4⟩
 show JL _ _ _ _ ((9, Slc nb3 0 12 cp1) :: _) [⟨nb2, cu8 (numK 8 e 8), 5, (0, 0)⟩, ⟨nb3, cu8 ((numK 4 i 4) ++ (numK 8 e 8)) ++ sp1, 5, (0, 0)⟩]
 refine JL_val _ (Ev_assign rfl) rfl ?_
 refine JL_nil ?_
 refine JQ_then ?_
 refine JC_ret ?_
 refine K_mask [false, true] ?_
 show JQ _ _ _ _ [⟨nb3, cu8 ((numK 4 i 4) ++ (numK 8 e 8)) ++ sp1, 5, (0, 0)⟩]
 refine JQ_ret (Slc nb3 0 12 cp1) (res1 Tryd.results105 (RV_tmp rfl)) fun w1 hw1 => ?_
 have hq : (numK 4 i 4) ++ (numK 8 e 8) = placeT i e := by rw [placeT]
 rw [hq] at hw1
 exact ⟨_, _, rfl, ⟨nb3, sp1, cp1, rfl, rfl, ha2, ha3, ha4⟩, hw1.sub (by simp) (by simp)⟩
end Go.Proofs.YtncoifiafklkjaaDoor
namespace Go.Proofs.YtncoifiafklkjaaDoor
open Go Go.Sx
set_option linter.unusedVariables false
set_option linter.unusedSimpArgs false
set_option maxRecDepth 100000
attribute [local irreducible] mid zr8 zr32 numK rnK rotr wordL spreadL comprL cpN adN spN wrdN constL initL padL stN outN routN sumG blkL xbN raN macL rkeysL rencL encL rkL thereL backL nextL rnextL strT xorN eBlk rBlk encK tgK placeT turnP tagP RightB sealN sE sD sT openN openBk
theorem opennB_c (i e : UInt64) (d t : List UInt8)  (w : World) (hG : GLs w) (hd : d.length = 32) (ht : t.length = 16) (hrt : RightB i e = false)  : Calls Tryd.prog 62 #[.pointer none, U64 i, .agg (List.toArray (α := Value) ([U64 e] ++ cu8 d ++ cu8 t))] w (Post w [] (fun v L => v = .tuple #[.agg (cu8 (zr8 32)).toArray, .iface 43 (I64 1)] ∧ L = [])) := by
 refine enter (P := Tryd.prog) (f := 62) (fn := Tryd.f62) w [] 38 [] [.pointer none, U64 i, .agg (List.toArray (α := Value) ([U64 e] ++ cu8 d ++ cu8 t))] Tryd.func62 rfl rfl (by simp) (Hp.start (by simp) (by simp) (by simp)) ?_
 show JC _ _ _ [(0, .pointer none), (1, U64 i), (2, .agg (List.toArray (α := Value) ([U64 e] ++ cu8 d ++ cu8 t)))] _
 refine JC_seq ?_
 refine JC_region ?_
 refine JL_step (Step_box (.agg (List.toArray (α := Value) ([U64 e] ++ cu8 d ++ cu8 t))) ([U64 e] ++ cu8 d ++ cu8 t) rfl (by first | rfl | simp)) rfl ?_
 rintro v1 L1 ⟨nb1, hnb1, rfl, rfl⟩
 show JL _ _ _ _ ((5, Ptr nb1 0) :: _) [⟨nb1, [U64 e] ++ cu8 d ++ cu8 t, 76, (0, 0)⟩]
 refine JL_step (Step_alloc _ (cu8 (zr8 32)) Tryd.zeroValue74 (by kernel_rfl)) rfl ?_
 rintro v1 L1 ⟨nb2, hnb2, rfl, rfl⟩
 show JL _ _ _ _ ((6, Ptr nb2 0) :: _) [⟨nb1, [U64 e] ++ cu8 d ++ cu8 t, 76, (0, 0)⟩, ⟨nb2, cu8 (zr8 32), 74, (0, 0)⟩]
 refine JL_val _ (Ev_assign rfl) rfl ?_
 refine JL_nil ?_
 refine JQ_then ?_
 refine JC_seq ?_
 refine JC_seq ?_
 refine JC_region ?_
 refine JL_val _ (Ev_move rfl) rfl ?_
 refine JL_val (Ptr nb1 0) (Ev_fieldAddr 0 58 1 Tryd.underlying76 rfl Tryd.sizeOf58 rfl rfl) rfl ?_
 refine JL_val (U64 e) (Ev_load rfl (Ld_one Tryd.isAgg58 (MemAt.ent 0 rfl (Seg.left (Seg.left (Seg.head)))))) rfl ?_
 refine JL_step (Step_callP 60 [U64 i, U64 e] (.bool (RightB i e)) (Cl_func [U64 i, U64 e] Tryd.call60 rfl) (fun w1 hw1 => right_c i e w1 )) rfl ?_
 rintro v1 L1 ⟨rfl, rfl⟩
 show JL _ _ _ _ ((12, .bool (RightB i e)) :: _) [⟨nb1, [U64 e] ++ cu8 d ++ cu8 t, 76, (0, 0)⟩, ⟨nb2, cu8 (zr8 32), 74, (0, 0)⟩]
 refine JL_val (.bool (!(RightB i e))) (Ev_not rfl) rfl ?_
 refine JL_nil ?_
 refine JQ_then ?_
 refine JC_condT _ rfl (by rw [show (RightB i e) = false from hrt] <;> rfl) ?_
 refine JC_seq ?_
 refine JC_region ?_
 refine JL_val (.agg (cu8 (zr8 32)).toArray) (Ev_build [] _ rfl (fun _ => by kernel_rfl)) rfl ?_
 refine JL_val (.iface 43 (I64 (1:Int))) (Ev_iface Tryd.underlying43 rfl rfl) rfl ?_
 refine JL_step (Step_store 1 nb2 0 32 (cu8 (zr8 32)) 74 (.agg (cu8 (zr8 32)).toArray) (cu8 (zr8 32)) (cu8 (zr8 32)) rfl rfl rfl (by first | rfl | simp) Tryd.sizeOf74 (len_cu8 (zr8_len 32)) (by first | exact one_u8 | exact one_u32 | exact one_u64 | (simp [cu8, cu32, cu64, Value.oneCell']; done)) (by simp [(zr8_len 32)]) (lay_whole (by simp [(zr8_len 32), (zr8_len 32)]))) rfl ?_
 rintro v1 L1 ⟨rfl, rfl⟩
 show JL _ _ _ _ _ [⟨nb1, [U64 e] ++ cu8 d ++ cu8 t, 76, (0, 0)⟩, ⟨nb2, cu8 (zr8 32), 74, (0, 0)⟩]
 refine JL_val _ (Ev_assign rfl) rfl ?_
 refine JL_nil ?_
 refine JQ_then ?_
 refine JC_ret ?_
 refine JQ_then_ret ?_
 refine K_mask [false, true] ?_
 show JQ _ _ _ _ [⟨nb2, cu8 (zr8 32), 74, (0, 0)⟩]
 refine JQ_ret (.tuple #[.agg (cu8 (zr8 32)).toArray, .iface 43 (I64 (1:Int))]) (res2 Tryd.results62 (RV_cell rfl (Ld_agg Tryd.isAgg74 Tryd.sizeOf74 (len_cu8 (zr8_len 32)) (MemAt.ent 0 rfl (Seg.whole _)))) (RV_tmp rfl)) fun w1 hw1 => ?_
 exact ⟨_, [], rfl, ⟨rfl, rfl⟩, hw1.sub (by simp) (by simp)⟩
theorem opennA_c (i e : UInt64) (d t : List UInt8)  (w : World) (hG : GLs w) (hd : d.length = 32) (ht : t.length = 16) (hrt : RightB i e = true) (hau : ¬ t = tagP (zr8 16) (placeT i e) d)  : Calls Tryd.prog 62 #[.pointer none, U64 i, .agg (List.toArray (α := Value) ([U64 e] ++ cu8 d ++ cu8 t))] w (Post w [] (fun v L => v = .tuple #[.agg (cu8 (zr8 32)).toArray, .iface 43 (I64 4)] ∧ L = [])) := by
 refine enter (P := Tryd.prog) (f := 62) (fn := Tryd.f62) w [] 38 [] [.pointer none, U64 i, .agg (List.toArray (α := Value) ([U64 e] ++ cu8 d ++ cu8 t))] Tryd.func62 rfl rfl (by simp) (Hp.start (by simp) (by simp) (by simp)) ?_
 show JC _ _ _ [(0, .pointer none), (1, U64 i), (2, .agg (List.toArray (α := Value) ([U64 e] ++ cu8 d ++ cu8 t)))] _
 refine JC_seq ?_
 refine JC_region ?_
 refine JL_step (Step_box (.agg (List.toArray (α := Value) ([U64 e] ++ cu8 d ++ cu8 t))) ([U64 e] ++ cu8 d ++ cu8 t) rfl (by first | rfl | simp)) rfl ?_
 rintro v1 L1 ⟨nb1, hnb1, rfl, rfl⟩
 show JL _ _ _ _ ((5, Ptr nb1 0) :: _) [⟨nb1, [U64 e] ++ cu8 d ++ cu8 t, 76, (0, 0)⟩]
 refine JL_step (Step_alloc _ (cu8 (zr8 32)) Tryd.zeroValue74 (by kernel_rfl)) rfl ?_
 rintro v1 L1 ⟨nb2, hnb2, rfl, rfl⟩
 show JL _ _ _ _ ((6, Ptr nb2 0) :: _) [⟨nb1, [U64 e] ++ cu8 d ++ cu8 t, 76, (0, 0)⟩, ⟨nb2, cu8 (zr8 32), 74, (0, 0)⟩]
 refine JL_val _ (Ev_assign rfl) rfl ?_
 refine JL_nil ?_
 refine JQ_then ?_
 refine JC_seq ?_
 refine JC_seq ?_
 refine JC_region ?_
 refine JL_val _ (Ev_move rfl) rfl ?_
 refine JL_val (Ptr nb1 0) (Ev_fieldAddr 0 58 1 Tryd.underlying76 rfl Tryd.sizeOf58 rfl rfl) rfl ?_
 refine JL_val (U64 e) (Ev_load rfl (Ld_one Tryd.isAgg58 (MemAt.ent 0 rfl (Seg.left (Seg.left (Seg.head)))))) rfl ?_
 refine JL_step (Step_callP 60 [U64 i, U64 e] (.bool (RightB i e)) (Cl_func [U64 i, U64 e] Tryd.call60 rfl) (fun w1 hw1 => right_c i e w1 )) rfl ?_
 rintro v1 L1 ⟨rfl, rfl⟩
 show JL _ _ _ _ ((12, .bool (RightB i e)) :: _) [⟨nb1, [U64 e] ++ cu8 d ++ cu8 t, 76, (0, 0)⟩, ⟨nb2, cu8 (zr8 32), 74, (0, 0)⟩]
 refine JL_val (.bool (!(RightB i e))) (Ev_not rfl) rfl ?_
 refine JL_nil ?_
 refine JQ_then ?_
 refine JC_condF _ rfl (by rw [show (RightB i e) = true from hrt] <;> rfl) ?_
 refine JC_skip ?_
 refine JQ_then ?_
 refine JC_seq ?_
 refine JC_region ?_
 refine JL_val _ (Ev_move rfl) rfl ?_
 refine JL_step (Step_callN 100 [.pointer none] _ (Cl_func [.pointer none] Tryd.call100 rfl) (fun w1 hw1 => ofN_c w1 (hG.at hw1))) rfl ?_
 rintro v1 L1 ⟨_, ⟨nb3, nb4, rfl, rfl⟩, rfl⟩
 show JL _ _ _ _ ((17, Ptr nb3 0) :: _) [⟨nb1, [U64 e] ++ cu8 d ++ cu8 t, 76, (0, 0)⟩, ⟨nb2, cu8 (zr8 32), 74, (0, 0)⟩, ⟨nb4, cu8 (rkL (encK (zr8 16))) ++ cu8 thereL ++ cu8 backL, 170, (0, 0)⟩, ⟨nb3, cu8 (encK (zr8 16)) ++ cu8 (tgK (zr8 16)) ++ cu8 (macL (zr8 16) ([101, 110, 116, 114, 117, 115, 116, 32, 116, 105, 99, 107, 101, 116] : List UInt8)) ++ cu8 (macL (zr8 16) ([101, 110, 116, 114, 117, 115, 116, 32, 108, 105, 110, 107] : List UInt8)) ++ [Ptr nb4 0], 145, (0, 0)⟩]
 refine JL_val _ (Ev_assign rfl) rfl ?_
 refine JL_nil ?_
 refine JQ_then ?_
 refine JC_seq ?_
 refine JC_region ?_
 refine JL_val _ (Ev_move rfl) rfl ?_
 refine JL_val (Ptr nb1 0) (Ev_fieldAddr 0 58 1 Tryd.underlying76 rfl Tryd.sizeOf58 rfl rfl) rfl ?_
 refine JL_val (U64 e) (Ev_load rfl (Ld_one Tryd.isAgg58 (MemAt.ent 0 rfl (Seg.left (Seg.left (Seg.head)))))) rfl ?_
 refine JL_step (Step_callN 101 [U64 i, U64 e] _ (Cl_func [U64 i, U64 e] Tryd.call101 rfl) (fun w1 hw1 => place_c i e w1 (shr4z (right_not hrt)))) rfl ?_
 rintro v1 L1 ⟨_, ⟨nb5, sp1, cp1, rfl, rfl, hc1, hc2, hc3⟩, rfl⟩
 show JL _ _ _ _ ((21, Slc nb5 0 12 cp1) :: _) [⟨nb1, [U64 e] ++ cu8 d ++ cu8 t, 76, (0, 0)⟩, ⟨nb2, cu8 (zr8 32), 74, (0, 0)⟩, ⟨nb4, cu8 (rkL (encK (zr8 16))) ++ cu8 thereL ++ cu8 backL, 170, (0, 0)⟩, ⟨nb3, cu8 (encK (zr8 16)) ++ cu8 (tgK (zr8 16)) ++ cu8 (macL (zr8 16) ([101, 110, 116, 114, 117, 115, 116, 32, 116, 105, 99, 107, 101, 116] : List UInt8)) ++ cu8 (macL (zr8 16) ([101, 110, 116, 114, 117, 115, 116, 32, 108, 105, 110, 107] : List UInt8)) ++ [Ptr nb4 0], 145, (0, 0)⟩, ⟨nb5, cu8 (placeT i e) ++ sp1, 5, (0, 0)⟩]
 refine JL_val _ (Ev_assign rfl) rfl ?_
 refine JL_nil ?_
 refine JQ_then ?_
 refine JC_seq ?_
 refine JC_seq ?_
 refine JC_draw 38 3 [(0, Ptr nb1 33), (1, Slc nb1 33 16 16), (2, Ptr nb3 0), (3, Slc nb5 0 12 cp1), (4, Ptr nb1 1), (5, .agg (cu8 d).toArray)] Tryd.mixed rfl (by decide +kernel) ?_
 refine DP_one ⟨[], [0, 1, 2, 3, 4, 5], [], [0, 1, 2, 3, 4, 5], [6]⟩ 6 _ rfl rfl (by decide +kernel) rfl ⟨⟨_, rfl, Qok_val rfl (Ev_fieldAddr 33 54 16 Tryd.underlying76 rfl Tryd.sizeOf54 rfl rfl)⟩, ⟨_, rfl, Qok_val rfl (Ev_sliceA 16 5 1 0 16 33 16 Tryd.underlying54 Tryd.sizeOf5 rfl rfl rfl (by omega) (by omega) (by omega) (by omega) (by omega) 16 (by omega))⟩, ⟨_, rfl, Qok_val rfl (Ev_move rfl)⟩, ⟨_, rfl, Qok_val rfl (Ev_move rfl)⟩, ⟨_, rfl, Qok_val rfl (Ev_fieldAddr 1 74 32 Tryd.underlying76 rfl Tryd.sizeOf74 rfl rfl)⟩, ⟨_, rfl, Qok_val rfl (Ev_load rfl (Ld_agg Tryd.isAgg74 Tryd.sizeOf74 (len_cu8 hd) (MemAt.ent 0 rfl (Seg.left (Seg.right 1 0 rfl rfl (Seg.whole _))))))⟩, trivial⟩ rfl (Cok_step rfl (Step_callN 103 [Ptr nb3 0, Slc nb5 0 12 cp1, .agg (cu8 d).toArray] _ (Cl_func [Ptr nb3 0, Slc nb5 0 12 cp1, .agg (cu8 d).toArray] Tryd.call103 rfl) (fun w1 hw1 => tag_c nb3 nb4 (zr8 16) (some ⟨nb5, 0, none⟩) cp1 (placeT i e) d w1 (zr8_len 16) (hw1.ent _ (List.mem_of_getElem? (i := 3) rfl)) (hw1.ent _ (List.mem_of_getElem? (i := 2) rfl)) (show (placeT i e).length = 12 from (placeT_len _ _)) (RdB.of hw1 (MemAt.ent 4 rfl (Seg.left (Seg.whole _))) (by simp)) hd (hG.at hw1)))) ?_
 rintro v1 L1 ⟨_, ⟨nb6, sp2, cp2, rfl, rfl, hc4, hc5, hc6⟩, rfl⟩
 refine ⟨[], ?_⟩
 show DP _ _ _ _ _ _ _ _ [⟨nb1, [U64 e] ++ cu8 d ++ cu8 t, 76, (0, 0)⟩, ⟨nb2, cu8 (zr8 32), 74, (0, 0)⟩, ⟨nb4, cu8 (rkL (encK (zr8 16))) ++ cu8 thereL ++ cu8 backL, 170, (0, 0)⟩, ⟨nb3, cu8 (encK (zr8 16)) ++ cu8 (tgK (zr8 16)) ++ cu8 (macL (zr8 16) ([101, 110, 116, 114, 117, 115, 116, 32, 116, 105, 99, 107, 101, 116] : List UInt8)) ++ cu8 (macL (zr8 16) ([101, 110, 116, 114, 117, 115, 116, 32, 108, 105, 110, 107] : List UInt8)) ++ [Ptr nb4 0], 145, (0, 0)⟩, ⟨nb5, cu8 (placeT i e) ++ sp1, 5, (0, 0)⟩, ⟨nb6, cu8 (tagP (zr8 16) (placeT i e) d) ++ sp2, 5, (0, 0)⟩]
 refine DP_one ⟨[6], [0, 1, 2, 3, 4, 5], [2, 3, 4, 5], [0, 1], [7]⟩ 7 _ rfl rfl (by decide +kernel) rfl ⟨⟨_, rfl, Qok_val rfl (Ev_fieldAddr 33 54 16 Tryd.underlying76 rfl Tryd.sizeOf54 rfl rfl)⟩, ⟨_, rfl, Qok_val rfl (Ev_sliceA 16 5 1 0 16 33 16 Tryd.underlying54 Tryd.sizeOf5 rfl rfl rfl (by omega) (by omega) (by omega) (by omega) (by omega) 16 (by omega))⟩, trivial⟩ rfl (Cok_step rfl (Step_callP 36 [Slc nb1 33 16 16, Slc nb6 0 16 cp2] (.bool (decide (t = (tagP (zr8 16) (placeT i e) d)))) (Cl_func [Slc nb1 33 16 16, Slc nb6 0 16 cp2] Tryd.call36 rfl) (fun w1 hw1 => same_c (some ⟨nb1, 33, none⟩) (some ⟨nb6, 0, none⟩) 16 16 16 cp2 t (tagP (zr8 16) (placeT i e) d) w1 ht (show (tagP (zr8 16) (placeT i e) d).length = 16 from (tagP_len _ _ _)) (RdB.of hw1 (MemAt.ent 0 rfl (Seg.right 33 0 (by simp [hd]) rfl (Seg.whole _))) (by simp)) (RdB.of hw1 (MemAt.ent 5 rfl (Seg.left (Seg.whole _))) (by simp)) (by omega) (by omega)))) ?_
 rintro v1 L1 ⟨rfl, rfl⟩
 refine ⟨[(8, .bool (!(decide (t = (tagP (zr8 16) (placeT i e) d)))))], ?_⟩
 show DP _ _ _ _ _ _ _ _ [⟨nb1, [U64 e] ++ cu8 d ++ cu8 t, 76, (0, 0)⟩, ⟨nb2, cu8 (zr8 32), 74, (0, 0)⟩, ⟨nb4, cu8 (rkL (encK (zr8 16))) ++ cu8 thereL ++ cu8 backL, 170, (0, 0)⟩, ⟨nb3, cu8 (encK (zr8 16)) ++ cu8 (tgK (zr8 16)) ++ cu8 (macL (zr8 16) ([101, 110, 116, 114, 117, 115, 116, 32, 116, 105, 99, 107, 101, 116] : List UInt8)) ++ cu8 (macL (zr8 16) ([101, 110, 116, 114, 117, 115, 116, 32, 108, 105, 110, 107] : List UInt8)) ++ [Ptr nb4 0], 145, (0, 0)⟩, ⟨nb5, cu8 (placeT i e) ++ sp1, 5, (0, 0)⟩, ⟨nb6, cu8 (tagP (zr8 16) (placeT i e) d) ++ sp2, 5, (0, 0)⟩]
 refine DP_end ⟨[6, 7], [0, 1, 2, 3, 4, 5, 8], [0, 1, 2, 3, 4, 5], [8], []⟩ rfl rfl (by decide +kernel) rfl ⟨⟨_, rfl, Qok_val rfl (Ev_not rfl)⟩, trivial⟩ ?_
 refine K_sub (F' := [(30, .bool (!(decide (t = (tagP (zr8 16) (placeT i e) d))))), (0, Ptr nb3 0), (5, Ptr nb1 0), (6, Ptr nb2 0), (7, .nilIface), (8, Slc nb5 0 12 cp1)]) (Sub.cons (by kernel_rfl) (Sub.cons (by kernel_rfl) (Sub.cons (by kernel_rfl) (Sub.cons (by kernel_rfl) (Sub.cons (by kernel_rfl) (Sub.cons (by kernel_rfl) (Sub.nil))))))) ?_
 show JQ _ _ _ [(30, .bool (!(decide (t = (tagP (zr8 16) (placeT i e) d))))), (0, Ptr nb3 0), (5, Ptr nb1 0), (6, Ptr nb2 0), (7, .nilIface), (8, Slc nb5 0 12 cp1)] _
 refine JQ_then ?_
 refine JC_condT _ rfl (by rw [show (decide (t = (tagP (zr8 16) (placeT i e) d))) = false from (decide_eq_false hau)] <;> rfl) ?_
 refine JC_seq ?_
 refine JC_region ?_
 refine JL_val (.agg (cu8 (zr8 32)).toArray) (Ev_build [] _ rfl (fun _ => by kernel_rfl)) rfl ?_
 refine JL_val (.iface 43 (I64 (4:Int))) (Ev_iface Tryd.underlying43 rfl rfl) rfl ?_
 refine JL_step (Step_store 1 nb2 0 32 (cu8 (zr8 32)) 74 (.agg (cu8 (zr8 32)).toArray) (cu8 (zr8 32)) (cu8 (zr8 32)) rfl rfl rfl (by first | rfl | simp) Tryd.sizeOf74 (len_cu8 (zr8_len 32)) (by first | exact one_u8 | exact one_u32 | exact one_u64 | (simp [cu8, cu32, cu64, Value.oneCell']; done)) (by simp [(zr8_len 32)]) (lay_whole (by simp [(zr8_len 32), (zr8_len 32)]))) rfl ?_
 rintro v1 L1 ⟨rfl, rfl⟩
 show JL _ _ _ _ _ [⟨nb1, [U64 e] ++ cu8 d ++ cu8 t, 76, (0, 0)⟩, ⟨nb2, cu8 (zr8 32), 74, (0, 0)⟩, ⟨nb4, cu8 (rkL (encK (zr8 16))) ++ cu8 thereL ++ cu8 backL, 170, (0, 0)⟩, ⟨nb3, cu8 (encK (zr8 16)) ++ cu8 (tgK (zr8 16)) ++ cu8 (macL (zr8 16) ([101, 110, 116, 114, 117, 115, 116, 32, 116, 105, 99, 107, 101, 116] : List UInt8)) ++ cu8 (macL (zr8 16) ([101, 110, 116, 114, 117, 115, 116, 32, 108, 105, 110, 107] : List UInt8)) ++ [Ptr nb4 0], 145, (0, 0)⟩, ⟨nb5, cu8 (placeT i e) ++ sp1, 5, (0, 0)⟩, ⟨nb6, cu8 (tagP (zr8 16) (placeT i e) d) ++ sp2, 5, (0, 0)⟩]
 refine JL_val _ (Ev_assign rfl) rfl ?_
 refine JL_nil ?_
 refine JQ_then ?_
 refine JC_ret ?_
 refine JQ_then_ret ?_
 refine K_mask [false, true, false, false, false, false] ?_
 show JQ _ _ _ _ [⟨nb2, cu8 (zr8 32), 74, (0, 0)⟩]
 refine JQ_ret (.tuple #[.agg (cu8 (zr8 32)).toArray, .iface 43 (I64 (4:Int))]) (res2 Tryd.results62 (RV_cell rfl (Ld_agg Tryd.isAgg74 Tryd.sizeOf74 (len_cu8 (zr8_len 32)) (MemAt.ent 0 rfl (Seg.whole _)))) (RV_tmp rfl)) fun w1 hw1 => ?_
 exact ⟨_, [], rfl, ⟨rfl, rfl⟩, hw1.sub (by simp) (by simp)⟩
theorem opennK_c (i e : UInt64) (d t : List UInt8)  (w : World) (hG : GLs w) (hd : d.length = 32) (ht : t.length = 16) (hrt : RightB i e = true) (hau : t = tagP (zr8 16) (placeT i e) d)  : Calls Tryd.prog 62 #[.pointer none, U64 i, .agg (List.toArray (α := Value) ([U64 e] ++ cu8 d ++ cu8 t))] w (Post w [] (fun v L => v = .tuple #[.agg (cu8 (turnP (zr8 16) (placeT i e) d)).toArray, .nilIface] ∧ L = [])) := by
 refine enter (P := Tryd.prog) (f := 62) (fn := Tryd.f62) w [] 38 [] [.pointer none, U64 i, .agg (List.toArray (α := Value) ([U64 e] ++ cu8 d ++ cu8 t))] Tryd.func62 rfl rfl (by simp) (Hp.start (by simp) (by simp) (by simp)) ?_
 show JC _ _ _ [(0, .pointer none), (1, U64 i), (2, .agg (List.toArray (α := Value) ([U64 e] ++ cu8 d ++ cu8 t)))] _
 refine JC_seq ?_
 refine JC_region ?_
 refine JL_step (Step_box (.agg (List.toArray (α := Value) ([U64 e] ++ cu8 d ++ cu8 t))) ([U64 e] ++ cu8 d ++ cu8 t) rfl (by first | rfl | simp)) rfl ?_
 rintro v1 L1 ⟨nb1, hnb1, rfl, rfl⟩
 show JL _ _ _ _ ((5, Ptr nb1 0) :: _) [⟨nb1, [U64 e] ++ cu8 d ++ cu8 t, 76, (0, 0)⟩]
 refine JL_step (Step_alloc _ (cu8 (zr8 32)) Tryd.zeroValue74 (by kernel_rfl)) rfl ?_
 rintro v1 L1 ⟨nb2, hnb2, rfl, rfl⟩
 show JL _ _ _ _ ((6, Ptr nb2 0) :: _) [⟨nb1, [U64 e] ++ cu8 d ++ cu8 t, 76, (0, 0)⟩, ⟨nb2, cu8 (zr8 32), 74, (0, 0)⟩]
 refine JL_val _ (Ev_assign rfl) rfl ?_
 refine JL_nil ?_
 refine JQ_then ?_
 refine JC_seq ?_
 refine JC_seq ?_
 refine JC_region ?_
 refine JL_val _ (Ev_move rfl) rfl ?_
 refine JL_val (Ptr nb1 0) (Ev_fieldAddr 0 58 1 Tryd.underlying76 rfl Tryd.sizeOf58 rfl rfl) rfl ?_
 refine JL_val (U64 e) (Ev_load rfl (Ld_one Tryd.isAgg58 (MemAt.ent 0 rfl (Seg.left (Seg.left (Seg.head)))))) rfl ?_
 refine JL_step (Step_callP 60 [U64 i, U64 e] (.bool (RightB i e)) (Cl_func [U64 i, U64 e] Tryd.call60 rfl) (fun w1 hw1 => right_c i e w1 )) rfl ?_
 rintro v1 L1 ⟨rfl, rfl⟩
 show JL _ _ _ _ ((12, .bool (RightB i e)) :: _) [⟨nb1, [U64 e] ++ cu8 d ++ cu8 t, 76, (0, 0)⟩, ⟨nb2, cu8 (zr8 32), 74, (0, 0)⟩]
 refine JL_val (.bool (!(RightB i e))) (Ev_not rfl) rfl ?_
 refine JL_nil ?_
 refine JQ_then ?_
 refine JC_condF _ rfl (by rw [show (RightB i e) = true from hrt] <;> rfl) ?_
 refine JC_skip ?_
 refine JQ_then ?_
 refine JC_seq ?_
 refine JC_region ?_
 refine JL_val _ (Ev_move rfl) rfl ?_
 refine JL_step (Step_callN 100 [.pointer none] _ (Cl_func [.pointer none] Tryd.call100 rfl) (fun w1 hw1 => ofN_c w1 (hG.at hw1))) rfl ?_
 rintro v1 L1 ⟨_, ⟨nb3, nb4, rfl, rfl⟩, rfl⟩
 show JL _ _ _ _ ((17, Ptr nb3 0) :: _) [⟨nb1, [U64 e] ++ cu8 d ++ cu8 t, 76, (0, 0)⟩, ⟨nb2, cu8 (zr8 32), 74, (0, 0)⟩, ⟨nb4, cu8 (rkL (encK (zr8 16))) ++ cu8 thereL ++ cu8 backL, 170, (0, 0)⟩, ⟨nb3, cu8 (encK (zr8 16)) ++ cu8 (tgK (zr8 16)) ++ cu8 (macL (zr8 16) ([101, 110, 116, 114, 117, 115, 116, 32, 116, 105, 99, 107, 101, 116] : List UInt8)) ++ cu8 (macL (zr8 16) ([101, 110, 116, 114, 117, 115, 116, 32, 108, 105, 110, 107] : List UInt8)) ++ [Ptr nb4 0], 145, (0, 0)⟩]
 refine JL_val _ (Ev_assign rfl) rfl ?_
 refine JL_nil ?_
 refine JQ_then ?_
 refine JC_seq ?_
 refine JC_region ?_
 refine JL_val _ (Ev_move rfl) rfl ?_
 refine JL_val (Ptr nb1 0) (Ev_fieldAddr 0 58 1 Tryd.underlying76 rfl Tryd.sizeOf58 rfl rfl) rfl ?_
 refine JL_val (U64 e) (Ev_load rfl (Ld_one Tryd.isAgg58 (MemAt.ent 0 rfl (Seg.left (Seg.left (Seg.head)))))) rfl ?_
 refine JL_step (Step_callN 101 [U64 i, U64 e] _ (Cl_func [U64 i, U64 e] Tryd.call101 rfl) (fun w1 hw1 => place_c i e w1 (shr4z (right_not hrt)))) rfl ?_
 rintro v1 L1 ⟨_, ⟨nb5, sp1, cp1, rfl, rfl, hc1, hc2, hc3⟩, rfl⟩
 show JL _ _ _ _ ((21, Slc nb5 0 12 cp1) :: _) [⟨nb1, [U64 e] ++ cu8 d ++ cu8 t, 76, (0, 0)⟩, ⟨nb2, cu8 (zr8 32), 74, (0, 0)⟩, ⟨nb4, cu8 (rkL (encK (zr8 16))) ++ cu8 thereL ++ cu8 backL, 170, (0, 0)⟩, ⟨nb3, cu8 (encK (zr8 16)) ++ cu8 (tgK (zr8 16)) ++ cu8 (macL (zr8 16) ([101, 110, 116, 114, 117, 115, 116, 32, 116, 105, 99, 107, 101, 116] : List UInt8)) ++ cu8 (macL (zr8 16) ([101, 110, 116, 114, 117, 115, 116, 32, 108, 105, 110, 107] : List UInt8)) ++ [Ptr nb4 0], 145, (0, 0)⟩, ⟨nb5, cu8 (placeT i e) ++ sp1, 5, (0, 0)⟩]
 refine JL_val _ (Ev_assign rfl) rfl ?_
 refine JL_nil ?_
 refine JQ_then ?_
 refine JC_seq ?_
 refine JC_seq ?_
 refine JC_draw 38 3 [(0, Ptr nb1 33), (1, Slc nb1 33 16 16), (2, Ptr nb3 0), (3, Slc nb5 0 12 cp1), (4, Ptr nb1 1), (5, .agg (cu8 d).toArray)] Tryd.mixed rfl (by decide +kernel) ?_
 refine DP_one ⟨[], [0, 1, 2, 3, 4, 5], [], [0, 1, 2, 3, 4, 5], [6]⟩ 6 _ rfl rfl (by decide +kernel) rfl ⟨⟨_, rfl, Qok_val rfl (Ev_fieldAddr 33 54 16 Tryd.underlying76 rfl Tryd.sizeOf54 rfl rfl)⟩, ⟨_, rfl, Qok_val rfl (Ev_sliceA 16 5 1 0 16 33 16 Tryd.underlying54 Tryd.sizeOf5 rfl rfl rfl (by omega) (by omega) (by omega) (by omega) (by omega) 16 (by omega))⟩, ⟨_, rfl, Qok_val rfl (Ev_move rfl)⟩, ⟨_, rfl, Qok_val rfl (Ev_move rfl)⟩, ⟨_, rfl, Qok_val rfl (Ev_fieldAddr 1 74 32 Tryd.underlying76 rfl Tryd.sizeOf74 rfl rfl)⟩, ⟨_, rfl, Qok_val rfl (Ev_load rfl (Ld_agg Tryd.isAgg74 Tryd.sizeOf74 (len_cu8 hd) (MemAt.ent 0 rfl (Seg.left (Seg.right 1 0 rfl rfl (Seg.whole _))))))⟩, trivial⟩ rfl (Cok_step rfl (Step_callN 103 [Ptr nb3 0, Slc nb5 0 12 cp1, .agg (cu8 d).toArray] _ (Cl_func [Ptr nb3 0, Slc nb5 0 12 cp1, .agg (cu8 d).toArray] Tryd.call103 rfl) (fun w1 hw1 => tag_c nb3 nb4 (zr8 16) (some ⟨nb5, 0, none⟩) cp1 (placeT i e) d w1 (zr8_len 16) (hw1.ent _ (List.mem_of_getElem? (i := 3) rfl)) (hw1.ent _ (List.mem_of_getElem? (i := 2) rfl)) (show (placeT i e).length = 12 from (placeT_len _ _)) (RdB.of hw1 (MemAt.ent 4 rfl (Seg.left (Seg.whole _))) (by simp)) hd (hG.at hw1)))) ?_
 rintro v1 L1 ⟨_, ⟨nb6, sp2, cp2, rfl, rfl, hc4, hc5, hc6⟩, rfl⟩
 refine ⟨[], ?_⟩
 show DP _ _ _ _ _ _ _ _ [⟨nb1, [U64 e] ++ cu8 d ++ cu8 t, 76, (0, 0)⟩, ⟨nb2, cu8 (zr8 32), 74, (0, 0)⟩, ⟨nb4, cu8 (rkL (encK (zr8 16))) ++ cu8 thereL ++ cu8 backL, 170, (0, 0)⟩, ⟨nb3, cu8 (encK (zr8 16)) ++ cu8 (tgK (zr8 16)) ++ cu8 (macL (zr8 16) ([101, 110, 116, 114, 117, 115, 116, 32, 116, 105, 99, 107, 101, 116] : List UInt8)) ++ cu8 (macL (zr8 16) ([101, 110, 116, 114, 117, 115, 116, 32, 108, 105, 110, 107] : List UInt8)) ++ [Ptr nb4 0], 145, (0, 0)⟩, ⟨nb5, cu8 (placeT i e) ++ sp1, 5, (0, 0)⟩, ⟨nb6, cu8 (tagP (zr8 16) (placeT i e) d) ++ sp2, 5, (0, 0)⟩]
 refine DP_one ⟨[6], [0, 1, 2, 3, 4, 5], [2, 3, 4, 5], [0, 1], [7]⟩ 7 _ rfl rfl (by decide +kernel) rfl ⟨⟨_, rfl, Qok_val rfl (Ev_fieldAddr 33 54 16 Tryd.underlying76 rfl Tryd.sizeOf54 rfl rfl)⟩, ⟨_, rfl, Qok_val rfl (Ev_sliceA 16 5 1 0 16 33 16 Tryd.underlying54 Tryd.sizeOf5 rfl rfl rfl (by omega) (by omega) (by omega) (by omega) (by omega) 16 (by omega))⟩, trivial⟩ rfl (Cok_step rfl (Step_callP 36 [Slc nb1 33 16 16, Slc nb6 0 16 cp2] (.bool (decide (t = (tagP (zr8 16) (placeT i e) d)))) (Cl_func [Slc nb1 33 16 16, Slc nb6 0 16 cp2] Tryd.call36 rfl) (fun w1 hw1 => same_c (some ⟨nb1, 33, none⟩) (some ⟨nb6, 0, none⟩) 16 16 16 cp2 t (tagP (zr8 16) (placeT i e) d) w1 ht (show (tagP (zr8 16) (placeT i e) d).length = 16 from (tagP_len _ _ _)) (RdB.of hw1 (MemAt.ent 0 rfl (Seg.right 33 0 (by simp [hd]) rfl (Seg.whole _))) (by simp)) (RdB.of hw1 (MemAt.ent 5 rfl (Seg.left (Seg.whole _))) (by simp)) (by omega) (by omega)))) ?_
 rintro v1 L1 ⟨rfl, rfl⟩
 refine ⟨[(8, .bool (!(decide (t = (tagP (zr8 16) (placeT i e) d)))))], ?_⟩
 show DP _ _ _ _ _ _ _ _ [⟨nb1, [U64 e] ++ cu8 d ++ cu8 t, 76, (0, 0)⟩, ⟨nb2, cu8 (zr8 32), 74, (0, 0)⟩, ⟨nb4, cu8 (rkL (encK (zr8 16))) ++ cu8 thereL ++ cu8 backL, 170, (0, 0)⟩, ⟨nb3, cu8 (encK (zr8 16)) ++ cu8 (tgK (zr8 16)) ++ cu8 (macL (zr8 16) ([101, 110, 116, 114, 117, 115, 116, 32, 116, 105, 99, 107, 101, 116] : List UInt8)) ++ cu8 (macL (zr8 16) ([101, 110, 116, 114, 117, 115, 116, 32, 108, 105, 110, 107] : List UInt8)) ++ [Ptr nb4 0], 145, (0, 0)⟩, ⟨nb5, cu8 (placeT i e) ++ sp1, 5, (0, 0)⟩, ⟨nb6, cu8 (tagP (zr8 16) (placeT i e) d) ++ sp2, 5, (0, 0)⟩]
 refine DP_end ⟨[6, 7], [0, 1, 2, 3, 4, 5, 8], [0, 1, 2, 3, 4, 5], [8], []⟩ rfl rfl (by decide +kernel) rfl ⟨⟨_, rfl, Qok_val rfl (Ev_not rfl)⟩, trivial⟩ ?_
 refine K_sub (F' := [(30, .bool (!(decide (t = (tagP (zr8 16) (placeT i e) d))))), (0, Ptr nb3 0), (5, Ptr nb1 0), (6, Ptr nb2 0), (7, .nilIface), (8, Slc nb5 0 12 cp1)]) (Sub.cons (by kernel_rfl) (Sub.cons (by kernel_rfl) (Sub.cons (by kernel_rfl) (Sub.cons (by kernel_rfl) (Sub.cons (by kernel_rfl) (Sub.cons (by kernel_rfl) (Sub.nil))))))) ?_
 show JQ _ _ _ [(30, .bool (!(decide (t = (tagP (zr8 16) (placeT i e) d))))), (0, Ptr nb3 0), (5, Ptr nb1 0), (6, Ptr nb2 0), (7, .nilIface), (8, Slc nb5 0 12 cp1)] _
 refine JQ_then ?_
 refine JC_condF _ rfl (by rw [show (decide (t = (tagP (zr8 16) (placeT i e) d))) = true from (decide_eq_true hau)] <;> rfl) ?_
 refine JC_skip ?_
 refine JQ_then ?_
 refine JC_seq ?_
 refine JC_region ?_
 refine JL_val _ (Ev_move rfl) rfl ?_
 refine JL_val _ (Ev_move rfl) rfl ?_
 refine JL_val (Ptr nb1 1) (Ev_fieldAddr 1 74 32 Tryd.underlying76 rfl Tryd.sizeOf74 rfl rfl) rfl ?_
 refine JL_val (.agg (cu8 d).toArray) (Ev_load rfl (Ld_agg Tryd.isAgg74 Tryd.sizeOf74 (len_cu8 hd) (MemAt.ent 0 rfl (Seg.left (Seg.right 1 0 rfl rfl (Seg.whole _)))))) rfl ?_
 refine JL_step (Step_callP 102 [Ptr nb3 0, Slc nb5 0 12 cp1, .agg (cu8 d).toArray] (.agg (cu8 (turnP (zr8 16) (placeT i e) d)).toArray) (Cl_func [Ptr nb3 0, Slc nb5 0 12 cp1, .agg (cu8 d).toArray] Tryd.call102 rfl) (fun w1 hw1 => turned_c nb3 nb4 (zr8 16) (some ⟨nb5, 0, none⟩) cp1 (placeT i e) d w1 (zr8_len 16) (hw1.ent _ (List.mem_of_getElem? (i := 3) rfl)) (hw1.ent _ (List.mem_of_getElem? (i := 2) rfl)) (show (placeT i e).length = 12 from (placeT_len _ _)) (RdB.of hw1 (MemAt.ent 4 rfl (Seg.left (Seg.whole _))) (by simp)) hd)) rfl ?_
 rintro v1 L1 ⟨rfl, rfl⟩
 show JL _ _ _ _ ((37, .agg (cu8 (turnP (zr8 16) (placeT i e) d)).toArray) :: _) [⟨nb1, [U64 e] ++ cu8 d ++ cu8 t, 76, (0, 0)⟩, ⟨nb2, cu8 (zr8 32), 74, (0, 0)⟩, ⟨nb4, cu8 (rkL (encK (zr8 16))) ++ cu8 thereL ++ cu8 backL, 170, (0, 0)⟩, ⟨nb3, cu8 (encK (zr8 16)) ++ cu8 (tgK (zr8 16)) ++ cu8 (macL (zr8 16) ([101, 110, 116, 114, 117, 115, 116, 32, 116, 105, 99, 107, 101, 116] : List UInt8)) ++ cu8 (macL (zr8 16) ([101, 110, 116, 114, 117, 115, 116, 32, 108, 105, 110, 107] : List UInt8)) ++ [Ptr nb4 0], 145, (0, 0)⟩, ⟨nb5, cu8 (placeT i e) ++ sp1, 5, (0, 0)⟩, ⟨nb6, cu8 (tagP (zr8 16) (placeT i e) d) ++ sp2, 5, (0, 0)⟩]
 refine JL_step (Step_store 1 nb2 0 32 (cu8 (zr8 32)) 74 (.agg (cu8 (turnP (zr8 16) (placeT i e) d)).toArray) (cu8 (turnP (zr8 16) (placeT i e) d)) (cu8 (turnP (zr8 16) (placeT i e) d)) rfl rfl rfl (by first | rfl | simp) Tryd.sizeOf74 (len_cu8 (turnP_len _ _ (show (placeT i e).length = 12 from (placeT_len _ _)))) (by first | exact one_u8 | exact one_u32 | exact one_u64 | (simp [cu8, cu32, cu64, Value.oneCell']; done)) (by simp [(zr8_len 32)]) (lay_whole (by simp [(zr8_len 32), (turnP_len _ _ (show (placeT i e).length = 12 from (placeT_len _ _)))]))) rfl ?_
 rintro v1 L1 ⟨rfl, rfl⟩
 show JL _ _ _ _ _ [⟨nb1, [U64 e] ++ cu8 d ++ cu8 t, 76, (0, 0)⟩, ⟨nb2, cu8 (turnP (zr8 16) (placeT i e) d), 74, (0, 0)⟩, ⟨nb4, cu8 (rkL (encK (zr8 16))) ++ cu8 thereL ++ cu8 backL, 170, (0, 0)⟩, ⟨nb3, cu8 (encK (zr8 16)) ++ cu8 (tgK (zr8 16)) ++ cu8 (macL (zr8 16) ([101, 110, 116, 114, 117, 115, 116, 32, 116, 105, 99, 107, 101, 116] : List UInt8)) ++ cu8 (macL (zr8 16) ([101, 110, 116, 114, 117, 115, 116, 32, 108, 105, 110, 107] : List UInt8)) ++ [Ptr nb4 0], 145, (0, 0)⟩, ⟨nb5, cu8 (placeT i e) ++ sp1, 5, (0, 0)⟩, ⟨nb6, cu8 (tagP (zr8 16) (placeT i e) d) ++ sp2, 5, (0, 0)⟩]
 refine JL_val _ (Ev_assign rfl) rfl ?_
 refine JL_nil ?_
 refine JQ_then ?_
 refine JC_ret ?_
 refine K_mask [false, true, false, false, false, false] ?_
 show JQ _ _ _ _ [⟨nb2, cu8 (turnP (zr8 16) (placeT i e) d), 74, (0, 0)⟩]
 refine JQ_ret (.tuple #[.agg (cu8 (turnP (zr8 16) (placeT i e) d)).toArray, .nilIface]) (res2 Tryd.results62 (RV_cell rfl (Ld_agg Tryd.isAgg74 Tryd.sizeOf74 (len_cu8 (turnP_len _ _ (show (placeT i e).length = 12 from (placeT_len _ _)))) (MemAt.ent 0 rfl (Seg.whole _)))) (RV_tmp rfl)) fun w1 hw1 => ?_
 exact ⟨_, [], rfl, ⟨rfl, rfl⟩, hw1.sub (by simp) (by simp)⟩
theorem openn_w (i e : UInt64) (d t : List UInt8) (w : World) (hG : GLs w) (hd : d.length = 32) (ht : t.length = 16) : Calls Tryd.prog 62 #[.pointer none, U64 i, .agg (List.toArray (α := Value) ([U64 e] ++ cu8 d ++ cu8 t))] w (Post w [] (fun v L => v = .tuple #[.agg (cu8 (openBk (zr8 16) i e d t)).toArray, errV 43 (openN (zr8 16) i e d t)] ∧ L = [])) := by
  cases hrt : RightB i e with
  | true =>
    by_cases hau : t = tagP (zr8 16) (placeT i e) d
    · have e1 : openN (zr8 16) i e d t = 0 := by unfold openN; rw [if_pos hrt, if_pos hau]
      have e2 : openBk (zr8 16) i e d t = turnP (zr8 16) (placeT i e) d := by unfold openBk; rw [if_pos ⟨hrt, hau⟩]
      rw [e1, e2]
      exact opennK_c i e d t w hG hd ht hrt hau
    · have e1 : openN (zr8 16) i e d t = 4 := by unfold openN; rw [if_pos hrt, if_neg hau]
      have e2 : openBk (zr8 16) i e d t = zr8 32 := by unfold openBk; rw [if_neg (fun h => hau h.2)]
      rw [e1, e2, errV_pos (by decide)]
      exact opennA_c i e d t w hG hd ht hrt hau
  | false =>
    have hn : ¬ RightB i e = true := by rw [hrt]; decide
    have e1 : openN (zr8 16) i e d t = 1 := by unfold openN; rw [if_neg hn]
    have e2 : openBk (zr8 16) i e d t = zr8 32 := by unfold openBk; rw [if_neg (fun h => hn h.1)]
    rw [e1, e2, errV_pos (by decide)]
    exact opennB_c i e d t w hG hd ht hrt

end Go.Proofs.YtncoifiafklkjaaDoor
namespace Go.Proofs.YtncoifiafklkjaaDoor
open Go Go.Sx
set_option linter.unusedVariables false
set_option linter.unusedSimpArgs false
set_option maxRecDepth 100000
attribute [local irreducible] mid zr8 zr32 numK rnK rotr wordL spreadL comprL cpN adN spN wrdN constL initL padL stN outN routN sumG blkL xbN raN macL rkeysL rencL encL rkL thereL backL nextL rnextL strT xorN eBlk rBlk encK tgK placeT turnP tagP RightB sealN sE sD sT openN openBk
theorem rencK_c (k : List UInt8) (w : World) (hk : k.length = 16) (hGr : GLr w) (hGi : GLi w) : Calls Tryd.prog 50 #[.agg (cu8 k).toArray] w (Post w [] (fun v L => v = .agg (cu8 (encK k)).toArray ∧ L = [])) := by
 unfold encK
 exact renc6_c k w hk hGr hGi
theorem rtgK_c (k : List UInt8) (w : World) (hk : k.length = 16) (hGr : GLr w) (hGi : GLi w) : Calls Tryd.prog 51 #[.agg (cu8 k).toArray] w (Post w [] (fun v L => v = .agg (cu8 (tgK k)).toArray ∧ L = [])) := by
 unfold tgK
 exact rtag_c k w hk hGr hGi
theorem rturned_c (k : List UInt8) (i e : UInt64) (b : List UInt8) (w : World) (hk : k.length = 16) (hb : b.length = 32) (hGr : GLr w) (hGi : GLi w)  : Calls Tryd.prog 104 #[.agg (cu8 k).toArray, U64 i, U64 e, .agg (cu8 b).toArray] w (Post w [] (fun v L => v = .agg (cu8 (turnP k (placeT i e) b)).toArray ∧ L = [])) := by
 have hmx : maxLen = 9223372036854775807 := rfl
 refine enter w [] 25 [] [.agg (cu8 k).toArray, U64 i, U64 e, .agg (cu8 b).toArray] Tryd.func104 rfl rfl (by simp) (Hp.start (by simp) (by simp) (by simp)) ?_
 show JC _ _ _ [(0, .agg (cu8 k).toArray), (1, U64 i), (2, U64 e), (3, .agg (cu8 b).toArray)] _
 refine JC_seq ?_
 refine JC_region ?_
 refine JL_step (Step_box (.agg (cu8 k).toArray) (cu8 k) rfl (by first | rfl | simp)) rfl ?_
 rintro v1 L1 ⟨nb1, hnb1, rfl, rfl⟩
 show JL _ _ _ _ ((4, Ptr nb1 0) :: _) [⟨nb1, cu8 k, 55, (0, 0)⟩]
 refine JL_step (Step_box (.agg (cu8 b).toArray) (cu8 b) rfl (by first | rfl | simp)) rfl ?_
 rintro v1 L1 ⟨nb2, hnb2, rfl, rfl⟩
 show JL _ _ _ _ ((7, Ptr nb2 0) :: _) [⟨nb1, cu8 k, 55, (0, 0)⟩, ⟨nb2, cu8 b, 74, (0, 0)⟩]
 refine JL_step (Step_alloc _ (cu8 (zr8 32)) Tryd.zeroValue74 (by kernel_rfl)) rfl ?_
 rintro v1 L1 ⟨nb3, hnb3, rfl, rfl⟩
 show JL _ _ _ _ ((8, Ptr nb3 0) :: _) [⟨nb1, cu8 k, 55, (0, 0)⟩, ⟨nb2, cu8 b, 74, (0, 0)⟩, ⟨nb3, cu8 (zr8 32), 74, (0, 0)⟩]
 refine JL_nil ?_
 refine JQ_then ?_
 refine JC_seq ?_
 refine JC_region ?_
 refine JL_step (Step_alloc _ (cu8 (zr8 16)) Tryd.zeroValue54 (by kernel_rfl)) rfl ?_
 rintro v1 L1 ⟨nb4, hnb4, rfl, rfl⟩
 show JL _ _ _ _ ((9, Ptr nb4 0) :: _) [⟨nb1, cu8 k, 55, (0, 0)⟩, ⟨nb2, cu8 b, 74, (0, 0)⟩, ⟨nb3, cu8 (zr8 32), 74, (0, 0)⟩, ⟨nb4, cu8 (zr8 16), 54, (0, 0)⟩]
 refine JL_nil ?_
 refine JQ_then ?_
 refine JC_seq ?_
 refine JC_draw 25 3 [(0, Slc nb4 0 16 16), (1, U64 i), (2, U64 e)] Tryd.mixed rfl (by decide +kernel) ?_
 refine DP_one ⟨[], [0, 1, 2], [], [0, 1, 2], [3]⟩ 3 _ rfl rfl (by decide +kernel) rfl ⟨⟨_, rfl, Qok_val rfl (Ev_sliceA 16 5 1 0 16 0 16 Tryd.underlying54 Tryd.sizeOf5 rfl rfl rfl (by omega) (by omega) (by omega) (by omega) (by omega) 16 (by omega))⟩, ⟨_, rfl, Qok_val rfl (Ev_move rfl)⟩, ⟨_, rfl, Qok_val rfl (Ev_move rfl)⟩, trivial⟩ rfl (Cok_step rfl (Step_callN 105 [U64 i, U64 e] _ (Cl_func [U64 i, U64 e] Tryd.call105 rfl) (fun w1 hw1 => rplace_c i e w1))) ?_
 rintro v1 L1 ⟨_, ⟨nb5, sp1, cp1, rfl, rfl, hc1, hc2, hc3⟩, rfl⟩
 refine ⟨[], ?_⟩
 show DP _ _ _ _ _ _ _ _ [⟨nb1, cu8 k, 55, (0, 0)⟩, ⟨nb2, cu8 b, 74, (0, 0)⟩, ⟨nb3, cu8 (zr8 32), 74, (0, 0)⟩, ⟨nb4, cu8 (zr8 16), 54, (0, 0)⟩, ⟨nb5, cu8 (placeT i e) ++ sp1, 5, (0, 0)⟩]
 have hl1 : (spl (zr8 16) 0 (placeT i e)).length = 16 := by rw [spl_len (by simp [(zr8_len 16), (show (placeT i e).length = 12 from (placeT_len _ _))])]; simp [(zr8_len 16), (show (placeT i e).length = 12 from (placeT_len _ _))]
 refine DP_one ⟨[3], [0, 1, 2], [1, 2], [0], [4]⟩ 4 _ rfl rfl (by decide +kernel) rfl ⟨⟨_, rfl, Qok_val rfl (Ev_sliceA 16 5 1 0 16 0 16 Tryd.underlying54 Tryd.sizeOf5 rfl rfl rfl (by omega) (by omega) (by omega) (by omega) (by omega) 16 (by omega))⟩, trivial⟩ rfl (Cok_step rfl (Step_copy 22 22 5 3 nb4 0 16 16 (cu8 (zr8 16)) 54 (some ⟨nb5, 0, none⟩) 12 cp1 12 (cu8 (placeT i e)) (cu8 (spl (zr8 16) 0 (placeT i e))) Tryd.underlying22 Tryd.size1_5 rfl rfl rfl rfl (by simp [(show (placeT i e).length = 12 from (placeT_len _ _))]; try omega) (SrcAt.mem (MemAt.ent 4 rfl (Seg.left (Seg.whole _)))) (by simp [(zr8_len 16)]; try omega) (by first | exact one_u8 | exact one_u32 | exact one_u64 | (simp [cu8, cu32, cu64, Value.oneCell']; done)) (laySpl8 _ _ _ (by simp [(zr8_len 16), (show (placeT i e).length = 12 from (placeT_len _ _))])))) ?_
 rintro v1 L1 ⟨rfl, rfl⟩
 refine ⟨[], ?_⟩
 show DP _ _ _ _ _ _ _ _ [⟨nb1, cu8 k, 55, (0, 0)⟩, ⟨nb2, cu8 b, 74, (0, 0)⟩, ⟨nb3, cu8 (zr8 32), 74, (0, 0)⟩, ⟨nb4, cu8 (spl (zr8 16) 0 (placeT i e)), 54, (0, 0)⟩, ⟨nb5, cu8 (placeT i e) ++ sp1, 5, (0, 0)⟩]
 refine DP_end ⟨[3, 4], [0, 1, 2], [0, 1, 2], [], []⟩ rfl rfl (by decide +kernel) rfl trivial ?_
 refine K_sub (F' := [(4, Ptr nb1 0), (7, Ptr nb2 0), (8, Ptr nb3 0), (9, Ptr nb4 0)]) (Sub.cons (by kernel_rfl) (Sub.cons (by kernel_rfl) (Sub.cons (by kernel_rfl) (Sub.cons (by kernel_rfl) (Sub.nil))))) ?_
 show JQ _ _ _ [(4, Ptr nb1 0), (7, Ptr nb2 0), (8, Ptr nb3 0), (9, Ptr nb4 0)] _
 refine JQ_then ?_
 refine JC_seq ?_
 refine JC_region ?_
 refine JL_step (Step_alloc _ (cu8 (zr8 32)) Tryd.zeroValue74 (by kernel_rfl)) rfl ?_
 rintro v1 L1 ⟨nb6, hnb6, rfl, rfl⟩
 show JL _ _ _ _ ((10, Ptr nb6 0) :: _) [⟨nb1, cu8 k, 55, (0, 0)⟩, ⟨nb2, cu8 b, 74, (0, 0)⟩, ⟨nb3, cu8 (zr8 32), 74, (0, 0)⟩, ⟨nb4, cu8 (spl (zr8 16) 0 (placeT i e)), 54, (0, 0)⟩, ⟨nb5, cu8 (placeT i e) ++ sp1, 5, (0, 0)⟩, ⟨nb6, cu8 (zr8 32), 74, (0, 0)⟩]
 refine JL_nil ?_
 refine JQ_then ?_
 refine JC_seq ?_
 have hs12 : spl (zr8 16) 0 (placeT i e) = placeT i e ++ zr8 4 := spl12 (placeT_len i e)
 have hl12 : (placeT i e ++ zr8 4).length = 16 := ctr12 (placeT_len i e)
 rw [hs12]
 clear hs12
 show JC _ _ _ _ [⟨nb1, cu8 k, 55, (0, 0)⟩, ⟨nb2, cu8 b, 74, (0, 0)⟩, ⟨nb3, cu8 (zr8 32), 74, (0, 0)⟩, ⟨nb4, cu8 (placeT i e ++ zr8 4), 54, (0, 0)⟩, ⟨nb5, cu8 (placeT i e) ++ sp1, 5, (0, 0)⟩, ⟨nb6, cu8 (zr8 32), 74, (0, 0)⟩]
 refine JC_draw 25 5 [(0, Slc nb6 0 32 32), (1, .agg (cu8 k).toArray), (4, .agg (cu8 (placeT i e ++ zr8 4)).toArray), (5, Slc nb2 0 32 32)] Tryd.mixed rfl (by decide +kernel) ?_
 refine DP_one ⟨[], [0, 1, 4, 5], [], [0, 1, 4, 5], [2]⟩ 2 _ rfl rfl (by decide +kernel) rfl ⟨⟨_, rfl, Qok_val rfl (Ev_sliceA 32 5 1 0 32 0 32 Tryd.underlying74 Tryd.sizeOf5 rfl rfl rfl (by omega) (by omega) (by omega) (by omega) (by omega) 32 (by omega))⟩, ⟨_, rfl, Qok_val rfl (Ev_load rfl (Ld_agg Tryd.isAgg55 Tryd.sizeOf55 (len_cu8 hk) (MemAt.ent 0 rfl (Seg.whole _))))⟩, ⟨_, rfl, Qok_val rfl (Ev_load rfl (Ld_agg Tryd.isAgg54 Tryd.sizeOf54 (len_cu8 hl12) (MemAt.ent 3 rfl (Seg.whole _))))⟩, ⟨_, rfl, Qok_val rfl (Ev_sliceA 32 5 1 0 32 0 32 Tryd.underlying74 Tryd.sizeOf5 rfl rfl rfl (by omega) (by omega) (by omega) (by omega) (by omega) 32 (by omega))⟩, trivial⟩ rfl (Cok_step rfl (Step_callP 50 [.agg (cu8 k).toArray] (.agg (cu8 (encK k)).toArray) (Cl_func [.agg (cu8 k).toArray] Tryd.call50 rfl) (fun w1 hw1 => rencK_c k w1 hk (GLr.at hw1 hGr) (GLi.at hw1 hGi)))) ?_
 rintro v1 L1 ⟨rfl, rfl⟩
 refine ⟨[], ?_⟩
 show DP _ _ _ _ _ _ _ _ [⟨nb1, cu8 k, 55, (0, 0)⟩, ⟨nb2, cu8 b, 74, (0, 0)⟩, ⟨nb3, cu8 (zr8 32), 74, (0, 0)⟩, ⟨nb4, cu8 (placeT i e ++ zr8 4), 54, (0, 0)⟩, ⟨nb5, cu8 (placeT i e) ++ sp1, 5, (0, 0)⟩, ⟨nb6, cu8 (zr8 32), 74, (0, 0)⟩]
 refine DP_one ⟨[2], [0, 1, 4, 5], [1], [0, 4, 5], [3]⟩ 3 _ rfl rfl (by decide +kernel) rfl ⟨⟨_, rfl, Qok_val rfl (Ev_sliceA 32 5 1 0 32 0 32 Tryd.underlying74 Tryd.sizeOf5 rfl rfl rfl (by omega) (by omega) (by omega) (by omega) (by omega) 32 (by omega))⟩, ⟨_, rfl, Qok_val rfl (Ev_load rfl (Ld_agg Tryd.isAgg54 Tryd.sizeOf54 (len_cu8 hl12) (MemAt.ent 3 rfl (Seg.whole _))))⟩, ⟨_, rfl, Qok_val rfl (Ev_sliceA 32 5 1 0 32 0 32 Tryd.underlying74 Tryd.sizeOf5 rfl rfl rfl (by omega) (by omega) (by omega) (by omega) (by omega) 32 (by omega))⟩, trivial⟩ rfl (Cok_step rfl (Step_callN 127 [.agg (cu8 (encK k)).toArray] _ (Cl_func [.agg (cu8 (encK k)).toArray] Tryd.call127 rfl) (fun w1 hw1 => rkeys_c (encK k) w1 (encK_len _)))) ?_
 rintro v1 L1 ⟨_, ⟨nb7, sp2, cp2, hc4, hs1, rfl, rfl⟩, rfl⟩
 refine ⟨[], ?_⟩
 show DP _ _ _ _ _ _ _ _ [⟨nb1, cu8 k, 55, (0, 0)⟩, ⟨nb2, cu8 b, 74, (0, 0)⟩, ⟨nb3, cu8 (zr8 32), 74, (0, 0)⟩, ⟨nb4, cu8 (placeT i e ++ zr8 4), 54, (0, 0)⟩, ⟨nb5, cu8 (placeT i e) ++ sp1, 5, (0, 0)⟩, ⟨nb6, cu8 (zr8 32), 74, (0, 0)⟩, ⟨nb7, cu8 (rkeysL (encK k)) ++ sp2, 5, (0, 0)⟩]
 refine DP_one ⟨[2, 3], [0, 1, 4, 5], [1], [0, 4, 5], [6]⟩ 6 _ rfl rfl (by decide +kernel) rfl ⟨⟨_, rfl, Qok_val rfl (Ev_sliceA 32 5 1 0 32 0 32 Tryd.underlying74 Tryd.sizeOf5 rfl rfl rfl (by omega) (by omega) (by omega) (by omega) (by omega) 32 (by omega))⟩, ⟨_, rfl, Qok_val rfl (Ev_load rfl (Ld_agg Tryd.isAgg54 Tryd.sizeOf54 (len_cu8 hl12) (MemAt.ent 3 rfl (Seg.whole _))))⟩, ⟨_, rfl, Qok_val rfl (Ev_sliceA 32 5 1 0 32 0 32 Tryd.underlying74 Tryd.sizeOf5 rfl rfl rfl (by omega) (by omega) (by omega) (by omega) (by omega) 32 (by omega))⟩, trivial⟩ rfl (Cok_step rfl (Step_callN 126 [Slc nb7 0 176 cp2, .agg (cu8 (placeT i e ++ zr8 4)).toArray, Slc nb2 0 32 32] _ (Cl_func [Slc nb7 0 176 cp2, .agg (cu8 (placeT i e ++ zr8 4)).toArray, Slc nb2 0 32 32] Tryd.call126 rfl) (fun w1 hw1 => crturn_c (rkeysL (encK k)) (placeT i e ++ zr8 4) b nb7 cp2 32 32 (some ⟨nb2, 0, none⟩) w1 hl12 (by omega) (by omega) hb (RdB.of hw1 (MemAt.ent 1 rfl (Seg.whole _)) (by simp)) (rkeysL_len (encK k) (encK_len _)) (RdA.of hw1 (MemAt.ent 6 rfl (Seg.left (Seg.whole _))) (by simp [(rkeysL_len (encK k) (encK_len _))]))))) ?_
 rintro v1 L1 ⟨_, ⟨nb8, sp3, cp3, rfl, rfl, hc5, hc6, hc7⟩, rfl⟩
 refine ⟨[], ?_⟩
 show DP _ _ _ _ _ _ _ _ [⟨nb1, cu8 k, 55, (0, 0)⟩, ⟨nb2, cu8 b, 74, (0, 0)⟩, ⟨nb3, cu8 (zr8 32), 74, (0, 0)⟩, ⟨nb4, cu8 (placeT i e ++ zr8 4), 54, (0, 0)⟩, ⟨nb5, cu8 (placeT i e) ++ sp1, 5, (0, 0)⟩, ⟨nb6, cu8 (zr8 32), 74, (0, 0)⟩, ⟨nb7, cu8 (rkeysL (encK k)) ++ sp2, 5, (0, 0)⟩, ⟨nb8, cu8 (xorN (strT (rBlk (rkeysL (encK k)) (placeT i e ++ zr8 4)) 32) b 32) ++ sp3, 5, (0, 0)⟩]
 refine DP_one ⟨[2, 3, 6], [0, 1, 4, 5], [1, 4, 5], [0], [7]⟩ 7 _ rfl rfl (by decide +kernel) rfl ⟨⟨_, rfl, Qok_val rfl (Ev_sliceA 32 5 1 0 32 0 32 Tryd.underlying74 Tryd.sizeOf5 rfl rfl rfl (by omega) (by omega) (by omega) (by omega) (by omega) 32 (by omega))⟩, trivial⟩ rfl (Cok_step rfl (Step_copy 22 22 5 5 nb6 0 32 32 (cu8 (zr8 32)) 74 (some ⟨nb8, 0, none⟩) 32 cp3 32 (cu8 (xorN (strT (rBlk (rkeysL (encK k)) (placeT i e ++ zr8 4)) 32) b 32)) (cu8 (xorN (strT (rBlk (rkeysL (encK k)) (placeT i e ++ zr8 4)) 32) b 32)) Tryd.underlying22 Tryd.size1_5 rfl rfl rfl rfl (by simp [((xorN_len _ _ _).trans (strT_len (fun k => rBlk_len hl12 k) 32))]; try omega) (SrcAt.mem (MemAt.ent 7 rfl (Seg.left (Seg.whole _)))) (by simp [(zr8_len 32)]; try omega) (by first | exact one_u8 | exact one_u32 | exact one_u64 | (simp [cu8, cu32, cu64, Value.oneCell']; done)) (lay_whole (by simp [(zr8_len 32), ((xorN_len _ _ _).trans (strT_len (fun k => rBlk_len hl12 k) 32))])))) ?_
 rintro v1 L1 ⟨rfl, rfl⟩
 refine ⟨[], ?_⟩
 show DP _ _ _ _ _ _ _ _ [⟨nb1, cu8 k, 55, (0, 0)⟩, ⟨nb2, cu8 b, 74, (0, 0)⟩, ⟨nb3, cu8 (zr8 32), 74, (0, 0)⟩, ⟨nb4, cu8 (placeT i e ++ zr8 4), 54, (0, 0)⟩, ⟨nb5, cu8 (placeT i e) ++ sp1, 5, (0, 0)⟩, ⟨nb6, cu8 (xorN (strT (rBlk (rkeysL (encK k)) (placeT i e ++ zr8 4)) 32) b 32), 74, (0, 0)⟩, ⟨nb7, cu8 (rkeysL (encK k)) ++ sp2, 5, (0, 0)⟩, ⟨nb8, cu8 (xorN (strT (rBlk (rkeysL (encK k)) (placeT i e ++ zr8 4)) 32) b 32) ++ sp3, 5, (0, 0)⟩]
 refine DP_end ⟨[2, 3, 6, 7], [0, 1, 4, 5], [0, 1, 4, 5], [], []⟩ rfl rfl (by decide +kernel) rfl trivial ?_
 refine K_sub (F' := [(8, Ptr nb3 0), (10, Ptr nb6 0)]) (Sub.cons (by kernel_rfl) (Sub.cons (by kernel_rfl) (Sub.nil))) ?_
 show JQ _ _ _ [(8, Ptr nb3 0), (10, Ptr nb6 0)] _
 refine JQ_then ?_
 refine JC_seq ?_
 refine JC_region ?_
 refine JL_val (.agg (cu8 (xorN (strT (rBlk (rkeysL (encK k)) (placeT i e ++ zr8 4)) 32) b 32)).toArray) (Ev_load rfl (Ld_agg Tryd.isAgg74 Tryd.sizeOf74 (len_cu8 ((xorN_len _ _ _).trans (strT_len (fun k => rBlk_len hl12 k) 32))) (MemAt.ent 5 rfl (Seg.whole _)))) rfl ?_
 refine JL_step (Step_store 2 nb3 0 32 (cu8 (zr8 32)) 74 (.agg (cu8 (xorN (strT (rBlk (rkeysL (encK k)) (placeT i e ++ zr8 4)) 32) b 32)).toArray) (cu8 (xorN (strT (rBlk (rkeysL (encK k)) (placeT i e ++ zr8 4)) 32) b 32)) (cu8 (xorN (strT (rBlk (rkeysL (encK k)) (placeT i e ++ zr8 4)) 32) b 32)) rfl rfl rfl (by first | rfl | simp) Tryd.sizeOf74 (len_cu8 ((xorN_len _ _ _).trans (strT_len (fun k => rBlk_len hl12 k) 32))) (by first | exact one_u8 | exact one_u32 | exact one_u64 | (simp [cu8, cu32, cu64, Value.oneCell']; done)) (by simp [(zr8_len 32)]) (lay_whole (by simp [(zr8_len 32), ((xorN_len _ _ _).trans (strT_len (fun k => rBlk_len hl12 k) 32))]))) rfl ?_
 rintro v1 L1 ⟨rfl, rfl⟩
 show JL _ _ _ _ _ [⟨nb1, cu8 k, 55, (0, 0)⟩, ⟨nb2, cu8 b, 74, (0, 0)⟩, ⟨nb3, cu8 (xorN (strT (rBlk (rkeysL (encK k)) (placeT i e ++ zr8 4)) 32) b 32), 74, (0, 0)⟩, ⟨nb4, cu8 (placeT i e ++ zr8 4), 54, (0, 0)⟩, ⟨nb5, cu8 (placeT i e) ++ sp1, 5, (0, 0)⟩, ⟨nb6, cu8 (xorN (strT (rBlk (rkeysL (encK k)) (placeT i e ++ zr8 4)) 32) b 32), 74, (0, 0)⟩, ⟨nb7, cu8 (rkeysL (encK k)) ++ sp2, 5, (0, 0)⟩, ⟨nb8, cu8 (xorN (strT (rBlk (rkeysL (encK k)) (placeT i e ++ zr8 4)) 32) b 32) ++ sp3, 5, (0, 0)⟩]
 refine JL_nil ?_
 refine JQ_then ?_
 refine JC_ret ?_
 refine K_mask [false, false, true, false, false, false, false, false] ?_
 show JQ _ _ _ _ [⟨nb3, cu8 (xorN (strT (rBlk (rkeysL (encK k)) (placeT i e ++ zr8 4)) 32) b 32), 74, (0, 0)⟩]
 refine JQ_ret (.agg (cu8 (xorN (strT (rBlk (rkeysL (encK k)) (placeT i e ++ zr8 4)) 32) b 32)).toArray) (res1 Tryd.results104 (RV_cell rfl (Ld_agg Tryd.isAgg74 Tryd.sizeOf74 (len_cu8 ((xorN_len _ _ _).trans (strT_len (fun k => rBlk_len hl12 k) 32))) (MemAt.ent 0 rfl (Seg.whole _))))) fun w1 hw1 => ?_
 exact ⟨_, [], rfl, ⟨by rw [turnP_ref k b (placeT_len i e)], rfl⟩, hw1.sub (by simp) (by simp)⟩
theorem rtagP_c (k : List UInt8) (i e : UInt64) (d : List UInt8) (w : World) (hk : k.length = 16) (hd : d.length = 32) (hGr : GLr w) (hGi : GLi w)  : Calls Tryd.prog 66 #[.agg (cu8 k).toArray, U64 i, U64 e, .agg (cu8 d).toArray] w (Post w [] (fun v L => v = .agg (cu8 (tagP k (placeT i e) d)).toArray ∧ L = [])) := by
 have hmx : maxLen = 9223372036854775807 := rfl
 refine enter w [] 25 [] [.agg (cu8 k).toArray, U64 i, U64 e, .agg (cu8 d).toArray] Tryd.func66 rfl rfl (by simp) (Hp.start (by simp) (by simp) (by simp)) ?_
 show JC _ _ _ [(0, .agg (cu8 k).toArray), (1, U64 i), (2, U64 e), (3, .agg (cu8 d).toArray)] _
 refine JC_seq ?_
 refine JC_region ?_
 refine JL_step (Step_box (.agg (cu8 k).toArray) (cu8 k) rfl (by first | rfl | simp)) rfl ?_
 rintro v1 L1 ⟨nb1, hnb1, rfl, rfl⟩
 show JL _ _ _ _ ((4, Ptr nb1 0) :: _) [⟨nb1, cu8 k, 55, (0, 0)⟩]
 refine JL_step (Step_box (.agg (cu8 d).toArray) (cu8 d) rfl (by first | rfl | simp)) rfl ?_
 rintro v1 L1 ⟨nb2, hnb2, rfl, rfl⟩
 show JL _ _ _ _ ((7, Ptr nb2 0) :: _) [⟨nb1, cu8 k, 55, (0, 0)⟩, ⟨nb2, cu8 d, 74, (0, 0)⟩]
 refine JL_step (Step_alloc _ (cu8 (zr8 16)) Tryd.zeroValue54 (by kernel_rfl)) rfl ?_
 rintro v1 L1 ⟨nb3, hnb3, rfl, rfl⟩
 show JL _ _ _ _ ((8, Ptr nb3 0) :: _) [⟨nb1, cu8 k, 55, (0, 0)⟩, ⟨nb2, cu8 d, 74, (0, 0)⟩, ⟨nb3, cu8 (zr8 16), 54, (0, 0)⟩]
 refine JL_nil ?_
 refine JQ_then ?_
 refine JC_seq ?_
 refine JC_region ?_
 refine JL_val (.agg (cu8 k).toArray) (Ev_load rfl (Ld_agg Tryd.isAgg55 Tryd.sizeOf55 (len_cu8 hk) (MemAt.ent 0 rfl (Seg.whole _)))) rfl ?_
 refine JL_step (Step_callP 51 [.agg (cu8 k).toArray] (.agg (cu8 (tgK k)).toArray) (Cl_func [.agg (cu8 k).toArray] Tryd.call51 rfl) (fun w1 hw1 => rtgK_c k w1 hk (GLr.at hw1 hGr) (GLi.at hw1 hGi))) rfl ?_
 rintro v1 L1 ⟨rfl, rfl⟩
 show JL _ _ _ _ ((13, .agg (cu8 (tgK k)).toArray) :: _) [⟨nb1, cu8 k, 55, (0, 0)⟩, ⟨nb2, cu8 d, 74, (0, 0)⟩, ⟨nb3, cu8 (zr8 16), 54, (0, 0)⟩]
 refine JL_step (Step_alloc _ (cu8 (zr8 32)) Tryd.zeroValue25 (by kernel_rfl)) rfl ?_
 rintro v1 L1 ⟨nb4, hnb4, rfl, rfl⟩
 show JL _ _ _ _ ((9, Ptr nb4 0) :: _) [⟨nb1, cu8 k, 55, (0, 0)⟩, ⟨nb2, cu8 d, 74, (0, 0)⟩, ⟨nb3, cu8 (zr8 16), 54, (0, 0)⟩, ⟨nb4, cu8 (zr8 32), 25, (0, 0)⟩]
 refine JL_step (Step_store 3 nb4 0 32 (cu8 (zr8 32)) 25 (.agg (cu8 (tgK k)).toArray) (cu8 (tgK k)) (cu8 (tgK k)) rfl rfl rfl (by first | rfl | simp) Tryd.sizeOf25 (len_cu8 (tgK_len _)) (by first | exact one_u8 | exact one_u32 | exact one_u64 | (simp [cu8, cu32, cu64, Value.oneCell']; done)) (by simp [(zr8_len 32)]) (lay_whole (by simp [(zr8_len 32), (tgK_len _)]))) rfl ?_
 rintro v1 L1 ⟨rfl, rfl⟩
 show JL _ _ _ _ _ [⟨nb1, cu8 k, 55, (0, 0)⟩, ⟨nb2, cu8 d, 74, (0, 0)⟩, ⟨nb3, cu8 (zr8 16), 54, (0, 0)⟩, ⟨nb4, cu8 (tgK k), 25, (0, 0)⟩]
 refine JL_nil ?_
 refine JQ_then ?_
 refine JC_seq ?_
 refine JC_cut (ι := Nat) (fun ynb0 => [(8, Ptr nb3 0), (10, Ptr ynb0 0)]) (fun ynb0 => [⟨nb3, cu8 (zr8 16), 54, (0, 0)⟩, ⟨ynb0, cu8 (macL (tgK k) ((placeT i e) ++ d)), 25, (0, 0)⟩]) (fun ynb0 => True) ?_ ?_
 ·
  refine JC_draw 25 6 [(0, Slc nb4 0 32 32), (1, U64 i), (2, U64 e), (4, Slc nb2 0 32 32)] Tryd.mixed rfl (by decide +kernel) ?_
  refine DP_two ⟨[], [0, 1, 2, 4], [], [0, 1, 2, 4], [3, 7]⟩ 3 7 _ _ rfl rfl (by decide +kernel) rfl ⟨⟨_, rfl, Qok_val rfl (Ev_sliceA 32 5 1 0 32 0 32 Tryd.underlying25 Tryd.sizeOf5 rfl rfl rfl (by omega) (by omega) (by omega) (by omega) (by omega) 32 (by omega))⟩, ⟨_, rfl, Qok_val rfl (Ev_move rfl)⟩, ⟨_, rfl, Qok_val rfl (Ev_move rfl)⟩, ⟨_, rfl, Qok_val rfl (Ev_sliceA 32 5 1 0 32 0 32 Tryd.underlying74 Tryd.sizeOf5 rfl rfl rfl (by omega) (by omega) (by omega) (by omega) (by omega) 32 (by omega))⟩, trivial⟩ rfl rfl (Cok_step rfl (Step_callN 105 [U64 i, U64 e] _ (Cl_func [U64 i, U64 e] Tryd.call105 rfl) (fun w1 hw1 => rplace_c i e w1))) (Cok_step rfl (Step_alloc _ (cu8 (zr8 32)) Tryd.zeroValue25 (by kernel_rfl))) ?_ ?_
  ·
   rintro v1 L1 ⟨_, ⟨nb5, sp1, cp1, rfl, rfl, hc1, hc2, hc3⟩, rfl⟩
   refine ⟨[], ?_⟩
   show DP _ _ _ _ _ _ _ _ [⟨nb1, cu8 k, 55, (0, 0)⟩, ⟨nb2, cu8 d, 74, (0, 0)⟩, ⟨nb3, cu8 (zr8 16), 54, (0, 0)⟩, ⟨nb4, cu8 (tgK k), 25, (0, 0)⟩, ⟨nb5, cu8 (placeT i e) ++ sp1, 5, (0, 0)⟩]
   refine DP_two ⟨[3], [0, 1, 2, 4], [1, 2], [0, 4], [5, 7]⟩ 5 7 _ _ rfl rfl (by decide +kernel) rfl ⟨⟨_, rfl, Qok_val rfl (Ev_sliceA 32 5 1 0 32 0 32 Tryd.underlying25 Tryd.sizeOf5 rfl rfl rfl (by omega) (by omega) (by omega) (by omega) (by omega) 32 (by omega))⟩, ⟨_, rfl, Qok_val rfl (Ev_sliceA 32 5 1 0 32 0 32 Tryd.underlying74 Tryd.sizeOf5 rfl rfl rfl (by omega) (by omega) (by omega) (by omega) (by omega) 32 (by omega))⟩, trivial⟩ rfl rfl (Cok_step rfl (Step_appM8 22 5 [false, false, false, false, true] (Slc nb5 0 12 cp1) 12 (placeT i e) d (some ⟨nb2, 0, none⟩) 32 32 44 Tryd.underlying22 Tryd.info5 rfl (.inr ⟨nb5, sp1, cp1, rfl, rfl, (by first | exact (show (placeT i e).length = 12 from (placeT_len _ _)) | simp [(show (placeT i e).length = 12 from (placeT_len _ _))]), hc1, (by omega), (by omega)⟩) rfl (by first | exact hd | simp [hd]; try omega) (SrcAt.mem (MemAt.ent 1 rfl (Seg.whole _))) (by omega) (by unfold maxLen; omega) (by omega))) (Cok_step rfl (Step_alloc _ (cu8 (zr8 32)) Tryd.zeroValue25 (by kernel_rfl))) ?_ ?_
   ·
    rintro v1 L1 ⟨nb7, sp2, cp2, hg1, rfl, rfl, ha1, ha2, ha3, ha4⟩
    refine ⟨[], ?_⟩
    show DP _ _ _ _ _ _ _ _ [⟨nb1, cu8 k, 55, (0, 0)⟩, ⟨nb2, cu8 d, 74, (0, 0)⟩, ⟨nb3, cu8 (zr8 16), 54, (0, 0)⟩, ⟨nb4, cu8 (tgK k), 25, (0, 0)⟩, ⟨nb7, cu8 ((placeT i e) ++ d) ++ sp2, 5, (0, 0)⟩]
    refine DP_two ⟨[3, 5], [0, 1, 2, 4], [1, 2, 4], [0], [6, 7]⟩ 6 7 _ _ rfl rfl (by decide +kernel) rfl ⟨⟨_, rfl, Qok_val rfl (Ev_sliceA 32 5 1 0 32 0 32 Tryd.underlying25 Tryd.sizeOf5 rfl rfl rfl (by omega) (by omega) (by omega) (by omega) (by omega) 32 (by omega))⟩, trivial⟩ rfl rfl (Cok_step rfl (Step_callP 37 [Slc nb4 0 32 32, Slc nb7 0 44 cp2] (.agg (cu8 (macL (tgK k) ((placeT i e) ++ d))).toArray) (Cl_func [Slc nb4 0 32 32, Slc nb7 0 44 cp2] Tryd.call37 rfl) (fun w1 hw1 => rmac_c (some ⟨nb4, 0, none⟩) 32 32 (tgK k) (some ⟨nb7, 0, none⟩) 44 cp2 ((placeT i e) ++ d) w1 (tgK_len _) (fun h => by cases h) (by omega) (RdB.of hw1 (MemAt.ent 3 rfl (Seg.whole _)) (by simp)) ha1 (by omega) (RdB.of hw1 (MemAt.ent 4 rfl (Seg.left (Seg.whole _))) (by simp)) (GLr.at hw1 hGr) (GLi.at hw1 hGi)))) (Cok_step rfl (Step_alloc _ (cu8 (zr8 32)) Tryd.zeroValue25 (by kernel_rfl))) ?_ ?_
    ·
     rintro v1 L1 ⟨rfl, rfl⟩
     refine ⟨[], ?_⟩
     show DP _ _ _ _ _ _ _ _ [⟨nb1, cu8 k, 55, (0, 0)⟩, ⟨nb2, cu8 d, 74, (0, 0)⟩, ⟨nb3, cu8 (zr8 16), 54, (0, 0)⟩, ⟨nb4, cu8 (tgK k), 25, (0, 0)⟩, ⟨nb7, cu8 ((placeT i e) ++ d) ++ sp2, 5, (0, 0)⟩]
     refine DP_one ⟨[3, 5, 6], [0, 1, 2, 4], [0, 1, 2, 4], [], [7]⟩ 7 _ rfl rfl (by decide +kernel) rfl trivial rfl (Cok_step rfl (Step_alloc _ (cu8 (zr8 32)) Tryd.zeroValue25 (by kernel_rfl))) ?_
     rintro v1 L1 ⟨nb10, hnb10, rfl, rfl⟩
     refine ⟨[], ?_⟩
     show DP _ _ _ _ _ _ _ _ [⟨nb1, cu8 k, 55, (0, 0)⟩, ⟨nb2, cu8 d, 74, (0, 0)⟩, ⟨nb3, cu8 (zr8 16), 54, (0, 0)⟩, ⟨nb4, cu8 (tgK k), 25, (0, 0)⟩, ⟨nb7, cu8 ((placeT i e) ++ d) ++ sp2, 5, (0, 0)⟩, ⟨nb10, cu8 (zr8 32), 25, (0, 0)⟩]
     refine DP_one ⟨[3, 5, 6, 7], [0, 1, 2, 4], [0, 1, 2, 4], [], [8]⟩ 8 _ rfl rfl (by decide +kernel) rfl trivial rfl (Cok_step rfl (Step_store 5 nb10 0 32 (cu8 (zr8 32)) 25 (.agg (cu8 (macL (tgK k) ((placeT i e) ++ d))).toArray) (cu8 (macL (tgK k) ((placeT i e) ++ d))) (cu8 (macL (tgK k) ((placeT i e) ++ d))) rfl rfl rfl (by first | rfl | simp) Tryd.sizeOf25 (len_cu8 (macL_len _ _)) (by first | exact one_u8 | exact one_u32 | exact one_u64 | (simp [cu8, cu32, cu64, Value.oneCell']; done)) (by simp [(zr8_len 32)]) (lay_whole (by simp [(zr8_len 32), (macL_len _ _)])))) ?_
     rintro v1 L1 ⟨rfl, rfl⟩
     refine ⟨[], ?_⟩
     show DP _ _ _ _ _ _ _ _ [⟨nb1, cu8 k, 55, (0, 0)⟩, ⟨nb2, cu8 d, 74, (0, 0)⟩, ⟨nb3, cu8 (zr8 16), 54, (0, 0)⟩, ⟨nb4, cu8 (tgK k), 25, (0, 0)⟩, ⟨nb7, cu8 ((placeT i e) ++ d) ++ sp2, 5, (0, 0)⟩, ⟨nb10, cu8 (macL (tgK k) ((placeT i e) ++ d)), 25, (0, 0)⟩]
     refine DP_end ⟨[3, 5, 6, 7, 8], [0, 1, 2, 4], [0, 1, 2, 4], [], []⟩ rfl rfl (by decide +kernel) rfl trivial ?_
     refine K_sub (F' := [(10, Ptr nb10 0), (8, Ptr nb3 0)]) (Sub.cons (by kernel_rfl) (Sub.cons (by kernel_rfl) (Sub.nil))) ?_
     show JQ _ _ _ [(10, Ptr nb10 0), (8, Ptr nb3 0)] _
     refine K_pick [2, 5] (by decide) ?_
     show JQ _ _ _ _ [⟨nb3, cu8 (zr8 16), 54, (0, 0)⟩, ⟨nb10, cu8 (macL (tgK k) ((placeT i e) ++ d)), 25, (0, 0)⟩]
     refine JQ_cut nb10 trivial (Sub.cons rfl (Sub.cons rfl (Sub.nil))) rfl
    ·
     rintro v1 L1 ⟨nb9, hnb9, rfl, rfl⟩
     refine ⟨[], ?_⟩
     show DP _ _ _ _ _ _ _ _ [⟨nb1, cu8 k, 55, (0, 0)⟩, ⟨nb2, cu8 d, 74, (0, 0)⟩, ⟨nb3, cu8 (zr8 16), 54, (0, 0)⟩, ⟨nb4, cu8 (tgK k), 25, (0, 0)⟩, ⟨nb7, cu8 ((placeT i e) ++ d) ++ sp2, 5, (0, 0)⟩, ⟨nb9, cu8 (zr8 32), 25, (0, 0)⟩]
     refine DP_one ⟨[3, 5, 7], [0, 1, 2, 4], [1, 2, 4], [0], [6]⟩ 6 _ rfl rfl (by decide +kernel) rfl ⟨⟨_, rfl, Qok_val rfl (Ev_sliceA 32 5 1 0 32 0 32 Tryd.underlying25 Tryd.sizeOf5 rfl rfl rfl (by omega) (by omega) (by omega) (by omega) (by omega) 32 (by omega))⟩, trivial⟩ rfl (Cok_step rfl (Step_callP 37 [Slc nb4 0 32 32, Slc nb7 0 44 cp2] (.agg (cu8 (macL (tgK k) ((placeT i e) ++ d))).toArray) (Cl_func [Slc nb4 0 32 32, Slc nb7 0 44 cp2] Tryd.call37 rfl) (fun w1 hw1 => rmac_c (some ⟨nb4, 0, none⟩) 32 32 (tgK k) (some ⟨nb7, 0, none⟩) 44 cp2 ((placeT i e) ++ d) w1 (tgK_len _) (fun h => by cases h) (by omega) (RdB.of hw1 (MemAt.ent 3 rfl (Seg.whole _)) (by simp)) ha1 (by omega) (RdB.of hw1 (MemAt.ent 4 rfl (Seg.left (Seg.whole _))) (by simp)) (GLr.at hw1 hGr) (GLi.at hw1 hGi)))) ?_
     rintro v1 L1 ⟨rfl, rfl⟩
     refine ⟨[], ?_⟩
     show DP _ _ _ _ _ _ _ _ [⟨nb1, cu8 k, 55, (0, 0)⟩, ⟨nb2, cu8 d, 74, (0, 0)⟩, ⟨nb3, cu8 (zr8 16), 54, (0, 0)⟩, ⟨nb4, cu8 (tgK k), 25, (0, 0)⟩, ⟨nb7, cu8 ((placeT i e) ++ d) ++ sp2, 5, (0, 0)⟩, ⟨nb9, cu8 (zr8 32), 25, (0, 0)⟩]
     refine DP_one ⟨[3, 5, 7, 6], [0, 1, 2, 4], [0, 1, 2, 4], [], [8]⟩ 8 _ rfl rfl (by decide +kernel) rfl trivial rfl (Cok_step rfl (Step_store 5 nb9 0 32 (cu8 (zr8 32)) 25 (.agg (cu8 (macL (tgK k) ((placeT i e) ++ d))).toArray) (cu8 (macL (tgK k) ((placeT i e) ++ d))) (cu8 (macL (tgK k) ((placeT i e) ++ d))) rfl rfl rfl (by first | rfl | simp) Tryd.sizeOf25 (len_cu8 (macL_len _ _)) (by first | exact one_u8 | exact one_u32 | exact one_u64 | (simp [cu8, cu32, cu64, Value.oneCell']; done)) (by simp [(zr8_len 32)]) (lay_whole (by simp [(zr8_len 32), (macL_len _ _)])))) ?_
     rintro v1 L1 ⟨rfl, rfl⟩
     refine ⟨[], ?_⟩
     show DP _ _ _ _ _ _ _ _ [⟨nb1, cu8 k, 55, (0, 0)⟩, ⟨nb2, cu8 d, 74, (0, 0)⟩, ⟨nb3, cu8 (zr8 16), 54, (0, 0)⟩, ⟨nb4, cu8 (tgK k), 25, (0, 0)⟩, ⟨nb7, cu8 ((placeT i e) ++ d) ++ sp2, 5, (0, 0)⟩, ⟨nb9, cu8 (macL (tgK k) ((placeT i e) ++ d)), 25, (0, 0)⟩]
     refine DP_end ⟨[3, 5, 7, 6, 8], [0, 1, 2, 4], [0, 1, 2, 4], [], []⟩ rfl rfl (by decide +kernel) rfl trivial ?_
     refine K_sub (F' := [(10, Ptr nb9 0), (8, Ptr nb3 0)]) (Sub.cons (by kernel_rfl) (Sub.cons (by kernel_rfl) (Sub.nil))) ?_
     show JQ _ _ _ [(10, Ptr nb9 0), (8, Ptr nb3 0)] _
     refine K_pick [2, 5] (by decide) ?_
     show JQ _ _ _ _ [⟨nb3, cu8 (zr8 16), 54, (0, 0)⟩, ⟨nb9, cu8 (macL (tgK k) ((placeT i e) ++ d)), 25, (0, 0)⟩]
     refine JQ_cut nb9 trivial (Sub.cons rfl (Sub.cons rfl (Sub.nil))) rfl
   ·
    rintro v1 L1 ⟨nb8, hnb8, rfl, rfl⟩
    refine ⟨[], ?_⟩
    show DP _ _ _ _ _ _ _ _ [⟨nb1, cu8 k, 55, (0, 0)⟩, ⟨nb2, cu8 d, 74, (0, 0)⟩, ⟨nb3, cu8 (zr8 16), 54, (0, 0)⟩, ⟨nb4, cu8 (tgK k), 25, (0, 0)⟩, ⟨nb5, cu8 (placeT i e) ++ sp1, 5, (0, 0)⟩, ⟨nb8, cu8 (zr8 32), 25, (0, 0)⟩]
    refine DP_one ⟨[3, 7], [0, 1, 2, 4], [1, 2], [0, 4], [5]⟩ 5 _ rfl rfl (by decide +kernel) rfl ⟨⟨_, rfl, Qok_val rfl (Ev_sliceA 32 5 1 0 32 0 32 Tryd.underlying25 Tryd.sizeOf5 rfl rfl rfl (by omega) (by omega) (by omega) (by omega) (by omega) 32 (by omega))⟩, ⟨_, rfl, Qok_val rfl (Ev_sliceA 32 5 1 0 32 0 32 Tryd.underlying74 Tryd.sizeOf5 rfl rfl rfl (by omega) (by omega) (by omega) (by omega) (by omega) 32 (by omega))⟩, trivial⟩ rfl (Cok_step rfl (Step_appM8 22 5 [false, false, false, false, true, false] (Slc nb5 0 12 cp1) 12 (placeT i e) d (some ⟨nb2, 0, none⟩) 32 32 44 Tryd.underlying22 Tryd.info5 rfl (.inr ⟨nb5, sp1, cp1, rfl, rfl, (by first | exact (show (placeT i e).length = 12 from (placeT_len _ _)) | simp [(show (placeT i e).length = 12 from (placeT_len _ _))]), hc1, (by omega), (by omega)⟩) rfl (by first | exact hd | simp [hd]; try omega) (SrcAt.mem (MemAt.ent 1 rfl (Seg.whole _))) (by omega) (by unfold maxLen; omega) (by omega))) ?_
    rintro v1 L1 ⟨nb11, sp3, cp3, hg2, rfl, rfl, ha5, ha6, ha7, ha8⟩
    refine ⟨[], ?_⟩
    show DP _ _ _ _ _ _ _ _ [⟨nb1, cu8 k, 55, (0, 0)⟩, ⟨nb2, cu8 d, 74, (0, 0)⟩, ⟨nb3, cu8 (zr8 16), 54, (0, 0)⟩, ⟨nb4, cu8 (tgK k), 25, (0, 0)⟩, ⟨nb8, cu8 (zr8 32), 25, (0, 0)⟩, ⟨nb11, cu8 ((placeT i e) ++ d) ++ sp3, 5, (0, 0)⟩]
    refine DP_one ⟨[3, 7, 5], [0, 1, 2, 4], [1, 2, 4], [0], [6]⟩ 6 _ rfl rfl (by decide +kernel) rfl ⟨⟨_, rfl, Qok_val rfl (Ev_sliceA 32 5 1 0 32 0 32 Tryd.underlying25 Tryd.sizeOf5 rfl rfl rfl (by omega) (by omega) (by omega) (by omega) (by omega) 32 (by omega))⟩, trivial⟩ rfl (Cok_step rfl (Step_callP 37 [Slc nb4 0 32 32, Slc nb11 0 44 cp3] (.agg (cu8 (macL (tgK k) ((placeT i e) ++ d))).toArray) (Cl_func [Slc nb4 0 32 32, Slc nb11 0 44 cp3] Tryd.call37 rfl) (fun w1 hw1 => rmac_c (some ⟨nb4, 0, none⟩) 32 32 (tgK k) (some ⟨nb11, 0, none⟩) 44 cp3 ((placeT i e) ++ d) w1 (tgK_len _) (fun h => by cases h) (by omega) (RdB.of hw1 (MemAt.ent 3 rfl (Seg.whole _)) (by simp)) ha5 (by omega) (RdB.of hw1 (MemAt.ent 5 rfl (Seg.left (Seg.whole _))) (by simp)) (GLr.at hw1 hGr) (GLi.at hw1 hGi)))) ?_
    rintro v1 L1 ⟨rfl, rfl⟩
    refine ⟨[], ?_⟩
    show DP _ _ _ _ _ _ _ _ [⟨nb1, cu8 k, 55, (0, 0)⟩, ⟨nb2, cu8 d, 74, (0, 0)⟩, ⟨nb3, cu8 (zr8 16), 54, (0, 0)⟩, ⟨nb4, cu8 (tgK k), 25, (0, 0)⟩, ⟨nb8, cu8 (zr8 32), 25, (0, 0)⟩, ⟨nb11, cu8 ((placeT i e) ++ d) ++ sp3, 5, (0, 0)⟩]
    refine DP_one ⟨[3, 7, 5, 6], [0, 1, 2, 4], [0, 1, 2, 4], [], [8]⟩ 8 _ rfl rfl (by decide +kernel) rfl trivial rfl (Cok_step rfl (Step_store 4 nb8 0 32 (cu8 (zr8 32)) 25 (.agg (cu8 (macL (tgK k) ((placeT i e) ++ d))).toArray) (cu8 (macL (tgK k) ((placeT i e) ++ d))) (cu8 (macL (tgK k) ((placeT i e) ++ d))) rfl rfl rfl (by first | rfl | simp) Tryd.sizeOf25 (len_cu8 (macL_len _ _)) (by first | exact one_u8 | exact one_u32 | exact one_u64 | (simp [cu8, cu32, cu64, Value.oneCell']; done)) (by simp [(zr8_len 32)]) (lay_whole (by simp [(zr8_len 32), (macL_len _ _)])))) ?_
    rintro v1 L1 ⟨rfl, rfl⟩
    refine ⟨[], ?_⟩
    show DP _ _ _ _ _ _ _ _ [⟨nb1, cu8 k, 55, (0, 0)⟩, ⟨nb2, cu8 d, 74, (0, 0)⟩, ⟨nb3, cu8 (zr8 16), 54, (0, 0)⟩, ⟨nb4, cu8 (tgK k), 25, (0, 0)⟩, ⟨nb8, cu8 (macL (tgK k) ((placeT i e) ++ d)), 25, (0, 0)⟩, ⟨nb11, cu8 ((placeT i e) ++ d) ++ sp3, 5, (0, 0)⟩]
    refine DP_end ⟨[3, 7, 5, 6, 8], [0, 1, 2, 4], [0, 1, 2, 4], [], []⟩ rfl rfl (by decide +kernel) rfl trivial ?_
    refine K_sub (F' := [(10, Ptr nb8 0), (8, Ptr nb3 0)]) (Sub.cons (by kernel_rfl) (Sub.cons (by kernel_rfl) (Sub.nil))) ?_
    show JQ _ _ _ [(10, Ptr nb8 0), (8, Ptr nb3 0)] _
    refine K_pick [2, 4] (by decide) ?_
    show JQ _ _ _ _ [⟨nb3, cu8 (zr8 16), 54, (0, 0)⟩, ⟨nb8, cu8 (macL (tgK k) ((placeT i e) ++ d)), 25, (0, 0)⟩]
    refine JQ_cut nb8 trivial (Sub.cons rfl (Sub.cons rfl (Sub.nil))) rfl
  ·
   rintro v1 L1 ⟨nb6, hnb6, rfl, rfl⟩
   refine ⟨[], ?_⟩
   show DP _ _ _ _ _ _ _ _ [⟨nb1, cu8 k, 55, (0, 0)⟩, ⟨nb2, cu8 d, 74, (0, 0)⟩, ⟨nb3, cu8 (zr8 16), 54, (0, 0)⟩, ⟨nb4, cu8 (tgK k), 25, (0, 0)⟩, ⟨nb6, cu8 (zr8 32), 25, (0, 0)⟩]
   refine DP_one ⟨[7], [0, 1, 2, 4], [], [0, 1, 2, 4], [3]⟩ 3 _ rfl rfl (by decide +kernel) rfl ⟨⟨_, rfl, Qok_val rfl (Ev_sliceA 32 5 1 0 32 0 32 Tryd.underlying25 Tryd.sizeOf5 rfl rfl rfl (by omega) (by omega) (by omega) (by omega) (by omega) 32 (by omega))⟩, ⟨_, rfl, Qok_val rfl (Ev_move rfl)⟩, ⟨_, rfl, Qok_val rfl (Ev_move rfl)⟩, ⟨_, rfl, Qok_val rfl (Ev_sliceA 32 5 1 0 32 0 32 Tryd.underlying74 Tryd.sizeOf5 rfl rfl rfl (by omega) (by omega) (by omega) (by omega) (by omega) 32 (by omega))⟩, trivial⟩ rfl (Cok_step rfl (Step_callN 105 [U64 i, U64 e] _ (Cl_func [U64 i, U64 e] Tryd.call105 rfl) (fun w1 hw1 => rplace_c i e w1))) ?_
   rintro v1 L1 ⟨_, ⟨nb12, sp4, cp4, rfl, rfl, hc4, hc5, hc6⟩, rfl⟩
   refine ⟨[], ?_⟩
   show DP _ _ _ _ _ _ _ _ [⟨nb1, cu8 k, 55, (0, 0)⟩, ⟨nb2, cu8 d, 74, (0, 0)⟩, ⟨nb3, cu8 (zr8 16), 54, (0, 0)⟩, ⟨nb4, cu8 (tgK k), 25, (0, 0)⟩, ⟨nb6, cu8 (zr8 32), 25, (0, 0)⟩, ⟨nb12, cu8 (placeT i e) ++ sp4, 5, (0, 0)⟩]
   refine DP_one ⟨[7, 3], [0, 1, 2, 4], [1, 2], [0, 4], [5]⟩ 5 _ rfl rfl (by decide +kernel) rfl ⟨⟨_, rfl, Qok_val rfl (Ev_sliceA 32 5 1 0 32 0 32 Tryd.underlying25 Tryd.sizeOf5 rfl rfl rfl (by omega) (by omega) (by omega) (by omega) (by omega) 32 (by omega))⟩, ⟨_, rfl, Qok_val rfl (Ev_sliceA 32 5 1 0 32 0 32 Tryd.underlying74 Tryd.sizeOf5 rfl rfl rfl (by omega) (by omega) (by omega) (by omega) (by omega) 32 (by omega))⟩, trivial⟩ rfl (Cok_step rfl (Step_appM8 22 5 [false, false, false, false, false, true] (Slc nb12 0 12 cp4) 12 (placeT i e) d (some ⟨nb2, 0, none⟩) 32 32 44 Tryd.underlying22 Tryd.info5 rfl (.inr ⟨nb12, sp4, cp4, rfl, rfl, (by first | exact (show (placeT i e).length = 12 from (placeT_len _ _)) | simp [(show (placeT i e).length = 12 from (placeT_len _ _))]), hc4, (by omega), (by omega)⟩) rfl (by first | exact hd | simp [hd]; try omega) (SrcAt.mem (MemAt.ent 1 rfl (Seg.whole _))) (by omega) (by unfold maxLen; omega) (by omega))) ?_
   rintro v1 L1 ⟨nb13, sp5, cp5, hg3, rfl, rfl, ha9, ha10, ha11, ha12⟩
   refine ⟨[], ?_⟩
   show DP _ _ _ _ _ _ _ _ [⟨nb1, cu8 k, 55, (0, 0)⟩, ⟨nb2, cu8 d, 74, (0, 0)⟩, ⟨nb3, cu8 (zr8 16), 54, (0, 0)⟩, ⟨nb4, cu8 (tgK k), 25, (0, 0)⟩, ⟨nb6, cu8 (zr8 32), 25, (0, 0)⟩, ⟨nb13, cu8 ((placeT i e) ++ d) ++ sp5, 5, (0, 0)⟩]
   refine DP_one ⟨[7, 3, 5], [0, 1, 2, 4], [1, 2, 4], [0], [6]⟩ 6 _ rfl rfl (by decide +kernel) rfl ⟨⟨_, rfl, Qok_val rfl (Ev_sliceA 32 5 1 0 32 0 32 Tryd.underlying25 Tryd.sizeOf5 rfl rfl rfl (by omega) (by omega) (by omega) (by omega) (by omega) 32 (by omega))⟩, trivial⟩ rfl (Cok_step rfl (Step_callP 37 [Slc nb4 0 32 32, Slc nb13 0 44 cp5] (.agg (cu8 (macL (tgK k) ((placeT i e) ++ d))).toArray) (Cl_func [Slc nb4 0 32 32, Slc nb13 0 44 cp5] Tryd.call37 rfl) (fun w1 hw1 => rmac_c (some ⟨nb4, 0, none⟩) 32 32 (tgK k) (some ⟨nb13, 0, none⟩) 44 cp5 ((placeT i e) ++ d) w1 (tgK_len _) (fun h => by cases h) (by omega) (RdB.of hw1 (MemAt.ent 3 rfl (Seg.whole _)) (by simp)) ha9 (by omega) (RdB.of hw1 (MemAt.ent 5 rfl (Seg.left (Seg.whole _))) (by simp)) (GLr.at hw1 hGr) (GLi.at hw1 hGi)))) ?_
   rintro v1 L1 ⟨rfl, rfl⟩
   refine ⟨[], ?_⟩
   show DP _ _ _ _ _ _ _ _ [⟨nb1, cu8 k, 55, (0, 0)⟩, ⟨nb2, cu8 d, 74, (0, 0)⟩, ⟨nb3, cu8 (zr8 16), 54, (0, 0)⟩, ⟨nb4, cu8 (tgK k), 25, (0, 0)⟩, ⟨nb6, cu8 (zr8 32), 25, (0, 0)⟩, ⟨nb13, cu8 ((placeT i e) ++ d) ++ sp5, 5, (0, 0)⟩]
   refine DP_one ⟨[7, 3, 5, 6], [0, 1, 2, 4], [0, 1, 2, 4], [], [8]⟩ 8 _ rfl rfl (by decide +kernel) rfl trivial rfl (Cok_step rfl (Step_store 4 nb6 0 32 (cu8 (zr8 32)) 25 (.agg (cu8 (macL (tgK k) ((placeT i e) ++ d))).toArray) (cu8 (macL (tgK k) ((placeT i e) ++ d))) (cu8 (macL (tgK k) ((placeT i e) ++ d))) rfl rfl rfl (by first | rfl | simp) Tryd.sizeOf25 (len_cu8 (macL_len _ _)) (by first | exact one_u8 | exact one_u32 | exact one_u64 | (simp [cu8, cu32, cu64, Value.oneCell']; done)) (by simp [(zr8_len 32)]) (lay_whole (by simp [(zr8_len 32), (macL_len _ _)])))) ?_
   rintro v1 L1 ⟨rfl, rfl⟩
   refine ⟨[], ?_⟩
   show DP _ _ _ _ _ _ _ _ [⟨nb1, cu8 k, 55, (0, 0)⟩, ⟨nb2, cu8 d, 74, (0, 0)⟩, ⟨nb3, cu8 (zr8 16), 54, (0, 0)⟩, ⟨nb4, cu8 (tgK k), 25, (0, 0)⟩, ⟨nb6, cu8 (macL (tgK k) ((placeT i e) ++ d)), 25, (0, 0)⟩, ⟨nb13, cu8 ((placeT i e) ++ d) ++ sp5, 5, (0, 0)⟩]
   refine DP_end ⟨[7, 3, 5, 6, 8], [0, 1, 2, 4], [0, 1, 2, 4], [], []⟩ rfl rfl (by decide +kernel) rfl trivial ?_
   refine K_sub (F' := [(10, Ptr nb6 0), (8, Ptr nb3 0)]) (Sub.cons (by kernel_rfl) (Sub.cons (by kernel_rfl) (Sub.nil))) ?_
   show JQ _ _ _ [(10, Ptr nb6 0), (8, Ptr nb3 0)] _
   refine K_pick [2, 4] (by decide) ?_
   show JQ _ _ _ _ [⟨nb3, cu8 (zr8 16), 54, (0, 0)⟩, ⟨nb6, cu8 (macL (tgK k) ((placeT i e) ++ d)), 25, (0, 0)⟩]
   refine JQ_cut nb6 trivial (Sub.cons rfl (Sub.cons rfl (Sub.nil))) rfl
 ·
  rintro ynb0 _
  show JQ _ _ _ [(8, Ptr nb3 0), (10, Ptr ynb0 0)] [⟨nb3, cu8 (zr8 16), 54, (0, 0)⟩, ⟨ynb0, cu8 (macL (tgK k) ((placeT i e) ++ d)), 25, (0, 0)⟩]
  refine JQ_then ?_
  refine JC_seq ?_
  refine JC_region ?_
  refine JL_step (Step_alloc _ (cu8 (zr8 16)) Tryd.zeroValue54 (by kernel_rfl)) rfl ?_
  rintro v1 L1 ⟨nb14, hnb14, rfl, rfl⟩
  show JL _ _ _ _ ((11, Ptr nb14 0) :: _) [⟨nb3, cu8 (zr8 16), 54, (0, 0)⟩, ⟨ynb0, cu8 (macL (tgK k) ((placeT i e) ++ d)), 25, (0, 0)⟩, ⟨nb14, cu8 (zr8 16), 54, (0, 0)⟩]
  refine JL_nil ?_
  refine JQ_then ?_
  refine JC_seq ?_
  refine JC_draw 25 2 [(0, Slc nb14 0 16 16), (1, Slc ynb0 0 32 32)] Tryd.mixed rfl (by decide +kernel) ?_
  have hl1 : (mid (macL (tgK k) ((placeT i e) ++ d)) 0 16).length = 16 := mid_len (by rw [(macL_len _ _)]; omega)
  refine DP_one ⟨[], [0, 1], [], [0, 1], [2]⟩ 2 _ rfl rfl (by decide +kernel) rfl ⟨⟨_, rfl, Qok_val rfl (Ev_sliceA 16 5 1 0 16 0 16 Tryd.underlying54 Tryd.sizeOf5 rfl rfl rfl (by omega) (by omega) (by omega) (by omega) (by omega) 16 (by omega))⟩, ⟨_, rfl, Qok_val rfl (Ev_sliceA 32 5 1 0 32 0 32 Tryd.underlying25 Tryd.sizeOf5 rfl rfl rfl (by omega) (by omega) (by omega) (by omega) (by omega) 32 (by omega))⟩, trivial⟩ rfl (Cok_step rfl (Step_copy 22 22 5 2 nb14 0 16 16 (cu8 (zr8 16)) 54 (some ⟨ynb0, 0, none⟩) 32 32 16 (cu8 (mid (macL (tgK k) ((placeT i e) ++ d)) 0 16)) (cu8 (mid (macL (tgK k) ((placeT i e) ++ d)) 0 16)) Tryd.underlying22 Tryd.size1_5 rfl rfl rfl (by rfl) (by simp [hl1]; try omega) (SrcAt.mem (MemAt.ent 1 rfl (segm_u8 0 16 (by rw [(macL_len _ _)]; omega)))) (by simp [(zr8_len 16)]; try omega) (by first | exact one_u8 | exact one_u32 | exact one_u64 | (simp [cu8, cu32, cu64, Value.oneCell']; done)) (lay_whole (by simp [(zr8_len 16), hl1])))) ?_
  rintro v1 L1 ⟨rfl, rfl⟩
  refine ⟨[], ?_⟩
  show DP _ _ _ _ _ _ _ _ [⟨nb3, cu8 (zr8 16), 54, (0, 0)⟩, ⟨ynb0, cu8 (macL (tgK k) ((placeT i e) ++ d)), 25, (0, 0)⟩, ⟨nb14, cu8 (mid (macL (tgK k) ((placeT i e) ++ d)) 0 16), 54, (0, 0)⟩]
  refine DP_end ⟨[2], [0, 1], [0, 1], [], []⟩ rfl rfl (by decide +kernel) rfl trivial ?_
  refine K_sub (F' := [(8, Ptr nb3 0), (11, Ptr nb14 0)]) (Sub.cons (by kernel_rfl) (Sub.cons (by kernel_rfl) (Sub.nil))) ?_
  show JQ _ _ _ [(8, Ptr nb3 0), (11, Ptr nb14 0)] _
  refine JQ_then ?_
  refine JC_seq ?_
  refine JC_region ?_
  refine JL_val (.agg (cu8 (mid (macL (tgK k) ((placeT i e) ++ d)) 0 16)).toArray) (Ev_load rfl (Ld_agg Tryd.isAgg54 Tryd.sizeOf54 (len_cu8 hl1) (MemAt.ent 2 rfl (Seg.whole _)))) rfl ?_
  refine JL_step (Step_store 0 nb3 0 16 (cu8 (zr8 16)) 54 (.agg (cu8 (mid (macL (tgK k) ((placeT i e) ++ d)) 0 16)).toArray) (cu8 (mid (macL (tgK k) ((placeT i e) ++ d)) 0 16)) (cu8 (mid (macL (tgK k) ((placeT i e) ++ d)) 0 16)) rfl rfl rfl (by first | rfl | simp) Tryd.sizeOf54 (len_cu8 hl1) (by first | exact one_u8 | exact one_u32 | exact one_u64 | (simp [cu8, cu32, cu64, Value.oneCell']; done)) (by simp [(zr8_len 16)]) (lay_whole (by simp [(zr8_len 16), hl1]))) rfl ?_
  rintro v1 L1 ⟨rfl, rfl⟩
  show JL _ _ _ _ _ [⟨nb3, cu8 (mid (macL (tgK k) ((placeT i e) ++ d)) 0 16), 54, (0, 0)⟩, ⟨ynb0, cu8 (macL (tgK k) ((placeT i e) ++ d)), 25, (0, 0)⟩, ⟨nb14, cu8 (mid (macL (tgK k) ((placeT i e) ++ d)) 0 16), 54, (0, 0)⟩]
  refine JL_nil ?_
  refine JQ_then ?_
  refine JC_ret ?_
  refine K_mask [true, false, false] ?_
  show JQ _ _ _ _ [⟨nb3, cu8 (mid (macL (tgK k) ((placeT i e) ++ d)) 0 16), 54, (0, 0)⟩]
  refine JQ_ret (.agg (cu8 (mid (macL (tgK k) ((placeT i e) ++ d)) 0 16)).toArray) (res1 Tryd.results66 (RV_cell rfl (Ld_agg Tryd.isAgg54 Tryd.sizeOf54 (len_cu8 hl1) (MemAt.ent 0 rfl (Seg.whole _))))) fun w1 hw1 => ?_
  exact ⟨_, [], rfl, ⟨by first | rfl | (rw [tagP]; done), rfl⟩, hw1.sub (by simp) (by simp)⟩
theorem ropenB_c (k : List UInt8) (i e : UInt64) (d t : List UInt8)  (w : World) (hk : k.length = 16) (hd : d.length = 32) (ht : t.length = 16) (hrt : RightB i e = false)  : Calls Tryd.prog 63 #[.agg (cu8 k).toArray, U64 i, .agg (List.toArray (α := Value) ([U64 e] ++ cu8 d ++ cu8 t))] w (Post w [] (fun v L => v = .tuple #[.agg (cu8 (zr8 32)).toArray, I64 1] ∧ L = [])) := by
 refine enter (P := Tryd.prog) (f := 63) (fn := Tryd.f63) w [] 32 [] [.agg (cu8 k).toArray, U64 i, .agg (List.toArray (α := Value) ([U64 e] ++ cu8 d ++ cu8 t))] Tryd.func63 rfl rfl (by simp) (Hp.start (by simp) (by simp) (by simp)) ?_
 show JC _ _ _ [(0, .agg (cu8 k).toArray), (1, U64 i), (2, .agg (List.toArray (α := Value) ([U64 e] ++ cu8 d ++ cu8 t)))] _
 refine JC_seq ?_
 refine JC_region ?_
 refine JL_step (Step_box (.agg (cu8 k).toArray) (cu8 k) rfl (by first | rfl | simp)) rfl ?_
 rintro v1 L1 ⟨nb1, hnb1, rfl, rfl⟩
 show JL _ _ _ _ ((3, Ptr nb1 0) :: _) [⟨nb1, cu8 k, 55, (0, 0)⟩]
 refine JL_step (Step_box (.agg (List.toArray (α := Value) ([U64 e] ++ cu8 d ++ cu8 t))) ([U64 e] ++ cu8 d ++ cu8 t) rfl (by first | rfl | simp)) rfl ?_
 rintro v1 L1 ⟨nb2, hnb2, rfl, rfl⟩
 show JL _ _ _ _ ((5, Ptr nb2 0) :: _) [⟨nb1, cu8 k, 55, (0, 0)⟩, ⟨nb2, [U64 e] ++ cu8 d ++ cu8 t, 81, (0, 0)⟩]
 refine JL_step (Step_alloc _ (cu8 (zr8 32)) Tryd.zeroValue74 (by kernel_rfl)) rfl ?_
 rintro v1 L1 ⟨nb3, hnb3, rfl, rfl⟩
 show JL _ _ _ _ ((6, Ptr nb3 0) :: _) [⟨nb1, cu8 k, 55, (0, 0)⟩, ⟨nb2, [U64 e] ++ cu8 d ++ cu8 t, 81, (0, 0)⟩, ⟨nb3, cu8 (zr8 32), 74, (0, 0)⟩]
 refine JL_val _ (Ev_assign rfl) rfl ?_
 refine JL_nil ?_
 refine JQ_then ?_
 refine JC_seq ?_
 refine JC_seq ?_
 refine JC_region ?_
 refine JL_val _ (Ev_move rfl) rfl ?_
 refine JL_val (Ptr nb2 0) (Ev_fieldAddr 0 58 1 Tryd.underlying81 rfl Tryd.sizeOf58 rfl rfl) rfl ?_
 refine JL_val (U64 e) (Ev_load rfl (Ld_one Tryd.isAgg58 (MemAt.ent 1 rfl (Seg.left (Seg.left (Seg.head)))))) rfl ?_
 refine JL_step (Step_callP 65 [U64 i, U64 e] (.bool (RightB i e)) (Cl_func [U64 i, U64 e] Tryd.call65 rfl) (fun w1 hw1 => rright_c i e w1 )) rfl ?_
 rintro v1 L1 ⟨rfl, rfl⟩
 show JL _ _ _ _ ((11, .bool (RightB i e)) :: _) [⟨nb1, cu8 k, 55, (0, 0)⟩, ⟨nb2, [U64 e] ++ cu8 d ++ cu8 t, 81, (0, 0)⟩, ⟨nb3, cu8 (zr8 32), 74, (0, 0)⟩]
 refine JL_val (.bool (!(RightB i e))) (Ev_not rfl) rfl ?_
 refine JL_nil ?_
 refine JQ_then ?_
 refine JC_condT _ rfl (by rw [show (RightB i e) = false from hrt] <;> rfl) ?_
 refine JC_seq ?_
 refine JC_region ?_
 refine JL_val (.agg (cu8 (zr8 32)).toArray) (Ev_build [] _ rfl (fun _ => by kernel_rfl)) rfl ?_
 refine JL_step (Step_store 2 nb3 0 32 (cu8 (zr8 32)) 74 (.agg (cu8 (zr8 32)).toArray) (cu8 (zr8 32)) (cu8 (zr8 32)) rfl rfl rfl (by first | rfl | simp) Tryd.sizeOf74 (len_cu8 (zr8_len 32)) (by first | exact one_u8 | exact one_u32 | exact one_u64 | (simp [cu8, cu32, cu64, Value.oneCell']; done)) (by simp [(zr8_len 32)]) (lay_whole (by simp [(zr8_len 32), (zr8_len 32)]))) rfl ?_
 rintro v1 L1 ⟨rfl, rfl⟩
 show JL _ _ _ _ _ [⟨nb1, cu8 k, 55, (0, 0)⟩, ⟨nb2, [U64 e] ++ cu8 d ++ cu8 t, 81, (0, 0)⟩, ⟨nb3, cu8 (zr8 32), 74, (0, 0)⟩]
 refine JL_val _ (Ev_assign rfl) rfl ?_
 refine JL_nil ?_
 refine JQ_then ?_
 refine JC_ret ?_
 refine JQ_then_ret ?_
 refine K_mask [false, false, true] ?_
 show JQ _ _ _ _ [⟨nb3, cu8 (zr8 32), 74, (0, 0)⟩]
 refine JQ_ret (.tuple #[.agg (cu8 (zr8 32)).toArray, I64 (1:Int)]) (res2 Tryd.results63 (RV_cell rfl (Ld_agg Tryd.isAgg74 Tryd.sizeOf74 (len_cu8 (zr8_len 32)) (MemAt.ent 0 rfl (Seg.whole _)))) (RV_tmp rfl)) fun w1 hw1 => ?_
 exact ⟨_, [], rfl, ⟨rfl, rfl⟩, hw1.sub (by simp) (by simp)⟩
theorem ropenA_c (k : List UInt8) (i e : UInt64) (d t : List UInt8)  (w : World) (hk : k.length = 16) (hd : d.length = 32) (ht : t.length = 16) (hGr : GLr w) (hGi : GLi w) (hrt : RightB i e = true) (hau : ¬ t = tagP k (placeT i e) d)  : Calls Tryd.prog 63 #[.agg (cu8 k).toArray, U64 i, .agg (List.toArray (α := Value) ([U64 e] ++ cu8 d ++ cu8 t))] w (Post w [] (fun v L => v = .tuple #[.agg (cu8 (zr8 32)).toArray, I64 4] ∧ L = [])) := by
 refine enter (P := Tryd.prog) (f := 63) (fn := Tryd.f63) w [] 32 [] [.agg (cu8 k).toArray, U64 i, .agg (List.toArray (α := Value) ([U64 e] ++ cu8 d ++ cu8 t))] Tryd.func63 rfl rfl (by simp) (Hp.start (by simp) (by simp) (by simp)) ?_
 show JC _ _ _ [(0, .agg (cu8 k).toArray), (1, U64 i), (2, .agg (List.toArray (α := Value) ([U64 e] ++ cu8 d ++ cu8 t)))] _
 refine JC_seq ?_
 refine JC_region ?_
 refine JL_step (Step_box (.agg (cu8 k).toArray) (cu8 k) rfl (by first | rfl | simp)) rfl ?_
 rintro v1 L1 ⟨nb1, hnb1, rfl, rfl⟩
 show JL _ _ _ _ ((3, Ptr nb1 0) :: _) [⟨nb1, cu8 k, 55, (0, 0)⟩]
 refine JL_step (Step_box (.agg (List.toArray (α := Value) ([U64 e] ++ cu8 d ++ cu8 t))) ([U64 e] ++ cu8 d ++ cu8 t) rfl (by first | rfl | simp)) rfl ?_
 rintro v1 L1 ⟨nb2, hnb2, rfl, rfl⟩
 show JL _ _ _ _ ((5, Ptr nb2 0) :: _) [⟨nb1, cu8 k, 55, (0, 0)⟩, ⟨nb2, [U64 e] ++ cu8 d ++ cu8 t, 81, (0, 0)⟩]
 refine JL_step (Step_alloc _ (cu8 (zr8 32)) Tryd.zeroValue74 (by kernel_rfl)) rfl ?_
 rintro v1 L1 ⟨nb3, hnb3, rfl, rfl⟩
 show JL _ _ _ _ ((6, Ptr nb3 0) :: _) [⟨nb1, cu8 k, 55, (0, 0)⟩, ⟨nb2, [U64 e] ++ cu8 d ++ cu8 t, 81, (0, 0)⟩, ⟨nb3, cu8 (zr8 32), 74, (0, 0)⟩]
 refine JL_val _ (Ev_assign rfl) rfl ?_
 refine JL_nil ?_
 refine JQ_then ?_
 refine JC_seq ?_
 refine JC_seq ?_
 refine JC_region ?_
 refine JL_val _ (Ev_move rfl) rfl ?_
 refine JL_val (Ptr nb2 0) (Ev_fieldAddr 0 58 1 Tryd.underlying81 rfl Tryd.sizeOf58 rfl rfl) rfl ?_
 refine JL_val (U64 e) (Ev_load rfl (Ld_one Tryd.isAgg58 (MemAt.ent 1 rfl (Seg.left (Seg.left (Seg.head)))))) rfl ?_
 refine JL_step (Step_callP 65 [U64 i, U64 e] (.bool (RightB i e)) (Cl_func [U64 i, U64 e] Tryd.call65 rfl) (fun w1 hw1 => rright_c i e w1 )) rfl ?_
 rintro v1 L1 ⟨rfl, rfl⟩
 show JL _ _ _ _ ((11, .bool (RightB i e)) :: _) [⟨nb1, cu8 k, 55, (0, 0)⟩, ⟨nb2, [U64 e] ++ cu8 d ++ cu8 t, 81, (0, 0)⟩, ⟨nb3, cu8 (zr8 32), 74, (0, 0)⟩]
 refine JL_val (.bool (!(RightB i e))) (Ev_not rfl) rfl ?_
 refine JL_nil ?_
 refine JQ_then ?_
 refine JC_condF _ rfl (by rw [show (RightB i e) = true from hrt] <;> rfl) ?_
 refine JC_skip ?_
 refine JQ_then ?_
 refine JC_seq ?_
 refine JC_seq ?_
 refine JC_draw 32 2 [(0, Ptr nb2 33), (1, .agg (cu8 t).toArray), (2, .agg (cu8 k).toArray), (3, U64 i), (4, Ptr nb2 0), (5, U64 e), (6, Ptr nb2 1), (7, .agg (cu8 d).toArray)] Tryd.mixed rfl (by decide +kernel) ?_
 refine DP_one ⟨[], [0, 1, 2, 3, 4, 5, 6, 7], [], [0, 1, 2, 3, 4, 5, 6, 7], [8]⟩ 8 _ rfl rfl (by decide +kernel) rfl ⟨⟨_, rfl, Qok_val rfl (Ev_fieldAddr 33 54 16 Tryd.underlying81 rfl Tryd.sizeOf54 rfl rfl)⟩, ⟨_, rfl, Qok_val rfl (Ev_load rfl (Ld_agg Tryd.isAgg54 Tryd.sizeOf54 (len_cu8 ht) (MemAt.ent 1 rfl (Seg.right 33 0 (by simp [hd]) rfl (Seg.whole _)))))⟩, ⟨_, rfl, Qok_val rfl (Ev_load rfl (Ld_agg Tryd.isAgg55 Tryd.sizeOf55 (len_cu8 hk) (MemAt.ent 0 rfl (Seg.whole _))))⟩, ⟨_, rfl, Qok_val rfl (Ev_move rfl)⟩, ⟨_, rfl, Qok_val rfl (Ev_fieldAddr 0 58 1 Tryd.underlying81 rfl Tryd.sizeOf58 rfl rfl)⟩, ⟨_, rfl, Qok_val rfl (Ev_load rfl (Ld_one Tryd.isAgg58 (MemAt.ent 1 rfl (Seg.left (Seg.left (Seg.head))))))⟩, ⟨_, rfl, Qok_val rfl (Ev_fieldAddr 1 74 32 Tryd.underlying81 rfl Tryd.sizeOf74 rfl rfl)⟩, ⟨_, rfl, Qok_val rfl (Ev_load rfl (Ld_agg Tryd.isAgg74 Tryd.sizeOf74 (len_cu8 hd) (MemAt.ent 1 rfl (Seg.left (Seg.right 1 0 rfl rfl (Seg.whole _))))))⟩, trivial⟩ rfl (Cok_step rfl (Step_callP 66 [.agg (cu8 k).toArray, U64 i, U64 e, .agg (cu8 d).toArray] (.agg (cu8 (tagP k (placeT i e) d)).toArray) (Cl_func [.agg (cu8 k).toArray, U64 i, U64 e, .agg (cu8 d).toArray] Tryd.call66 rfl) (fun w1 hw1 => rtagP_c k i e d w1 hk hd (GLr.at hw1 hGr) (GLi.at hw1 hGi)))) ?_
 rintro v1 L1 ⟨rfl, rfl⟩
 refine ⟨[(9, .bool (!(decide (t = (tagP k (placeT i e) d)))))], ?_⟩
 show DP _ _ _ _ _ _ _ _ [⟨nb1, cu8 k, 55, (0, 0)⟩, ⟨nb2, [U64 e] ++ cu8 d ++ cu8 t, 81, (0, 0)⟩, ⟨nb3, cu8 (zr8 32), 74, (0, 0)⟩]
 refine DP_end ⟨[8], [0, 1, 2, 3, 4, 5, 6, 7, 9], [2, 3, 4, 5, 6, 7], [0, 1, 9], []⟩ rfl rfl (by decide +kernel) rfl ⟨⟨_, rfl, Qok_val rfl (Ev_fieldAddr 33 54 16 Tryd.underlying81 rfl Tryd.sizeOf54 rfl rfl)⟩, ⟨_, rfl, Qok_val rfl (Ev_load rfl (Ld_agg Tryd.isAgg54 Tryd.sizeOf54 (len_cu8 ht) (MemAt.ent 1 rfl (Seg.right 33 0 (by simp [hd]) rfl (Seg.whole _)))))⟩, ⟨_, rfl, Qok_val rfl (Ev_bin _ _ _ rfl rfl (fun _ => eqGuard_agg _ _ _ _ _ _ (by kernel_rfl)) fun _ => neq_arr8 Tryd.underlying54 Tryd.underlying5 Tryd.isAgg5 Tryd.cells5 Tryd.has5 (by simp [ht]) (by simp [(tagP_len _ _ _)]))⟩, trivial⟩ ?_
 refine K_sub (F' := [(23, .bool (!(decide (t = (tagP k (placeT i e) d))))), (1, U64 i), (3, Ptr nb1 0), (5, Ptr nb2 0), (6, Ptr nb3 0), (7, I64 (0:Int))]) (Sub.cons (by kernel_rfl) (Sub.cons (by kernel_rfl) (Sub.cons (by kernel_rfl) (Sub.cons (by kernel_rfl) (Sub.cons (by kernel_rfl) (Sub.cons (by kernel_rfl) (Sub.nil))))))) ?_
 show JQ _ _ _ [(23, .bool (!(decide (t = (tagP k (placeT i e) d))))), (1, U64 i), (3, Ptr nb1 0), (5, Ptr nb2 0), (6, Ptr nb3 0), (7, I64 (0:Int))] _
 refine JQ_then ?_
 refine JC_condT _ rfl (by rw [show (decide (t = (tagP k (placeT i e) d))) = false from (decide_eq_false hau)] <;> rfl) ?_
 refine JC_seq ?_
 refine JC_region ?_
 refine JL_val (.agg (cu8 (zr8 32)).toArray) (Ev_build [] _ rfl (fun _ => by kernel_rfl)) rfl ?_
 refine JL_step (Step_store 2 nb3 0 32 (cu8 (zr8 32)) 74 (.agg (cu8 (zr8 32)).toArray) (cu8 (zr8 32)) (cu8 (zr8 32)) rfl rfl rfl (by first | rfl | simp) Tryd.sizeOf74 (len_cu8 (zr8_len 32)) (by first | exact one_u8 | exact one_u32 | exact one_u64 | (simp [cu8, cu32, cu64, Value.oneCell']; done)) (by simp [(zr8_len 32)]) (lay_whole (by simp [(zr8_len 32), (zr8_len 32)]))) rfl ?_
 rintro v1 L1 ⟨rfl, rfl⟩
 show JL _ _ _ _ _ [⟨nb1, cu8 k, 55, (0, 0)⟩, ⟨nb2, [U64 e] ++ cu8 d ++ cu8 t, 81, (0, 0)⟩, ⟨nb3, cu8 (zr8 32), 74, (0, 0)⟩]
 refine JL_val _ (Ev_assign rfl) rfl ?_
 refine JL_nil ?_
 refine JQ_then ?_
 refine JC_ret ?_
 refine JQ_then_ret ?_
 refine K_mask [false, false, true] ?_
 show JQ _ _ _ _ [⟨nb3, cu8 (zr8 32), 74, (0, 0)⟩]
 refine JQ_ret (.tuple #[.agg (cu8 (zr8 32)).toArray, I64 (4:Int)]) (res2 Tryd.results63 (RV_cell rfl (Ld_agg Tryd.isAgg74 Tryd.sizeOf74 (len_cu8 (zr8_len 32)) (MemAt.ent 0 rfl (Seg.whole _)))) (RV_tmp rfl)) fun w1 hw1 => ?_
 exact ⟨_, [], rfl, ⟨rfl, rfl⟩, hw1.sub (by simp) (by simp)⟩
theorem ropenK_c (k : List UInt8) (i e : UInt64) (d t : List UInt8)  (w : World) (hk : k.length = 16) (hd : d.length = 32) (ht : t.length = 16) (hGr : GLr w) (hGi : GLi w) (hrt : RightB i e = true) (hau : t = tagP k (placeT i e) d)  : Calls Tryd.prog 63 #[.agg (cu8 k).toArray, U64 i, .agg (List.toArray (α := Value) ([U64 e] ++ cu8 d ++ cu8 t))] w (Post w [] (fun v L => v = .tuple #[.agg (cu8 (turnP k (placeT i e) d)).toArray, I64 0] ∧ L = [])) := by
 refine enter (P := Tryd.prog) (f := 63) (fn := Tryd.f63) w [] 32 [] [.agg (cu8 k).toArray, U64 i, .agg (List.toArray (α := Value) ([U64 e] ++ cu8 d ++ cu8 t))] Tryd.func63 rfl rfl (by simp) (Hp.start (by simp) (by simp) (by simp)) ?_
 show JC _ _ _ [(0, .agg (cu8 k).toArray), (1, U64 i), (2, .agg (List.toArray (α := Value) ([U64 e] ++ cu8 d ++ cu8 t)))] _
 refine JC_seq ?_
 refine JC_region ?_
 refine JL_step (Step_box (.agg (cu8 k).toArray) (cu8 k) rfl (by first | rfl | simp)) rfl ?_
 rintro v1 L1 ⟨nb1, hnb1, rfl, rfl⟩
 show JL _ _ _ _ ((3, Ptr nb1 0) :: _) [⟨nb1, cu8 k, 55, (0, 0)⟩]
 refine JL_step (Step_box (.agg (List.toArray (α := Value) ([U64 e] ++ cu8 d ++ cu8 t))) ([U64 e] ++ cu8 d ++ cu8 t) rfl (by first | rfl | simp)) rfl ?_
 rintro v1 L1 ⟨nb2, hnb2, rfl, rfl⟩
 show JL _ _ _ _ ((5, Ptr nb2 0) :: _) [⟨nb1, cu8 k, 55, (0, 0)⟩, ⟨nb2, [U64 e] ++ cu8 d ++ cu8 t, 81, (0, 0)⟩]
 refine JL_step (Step_alloc _ (cu8 (zr8 32)) Tryd.zeroValue74 (by kernel_rfl)) rfl ?_
 rintro v1 L1 ⟨nb3, hnb3, rfl, rfl⟩
 show JL _ _ _ _ ((6, Ptr nb3 0) :: _) [⟨nb1, cu8 k, 55, (0, 0)⟩, ⟨nb2, [U64 e] ++ cu8 d ++ cu8 t, 81, (0, 0)⟩, ⟨nb3, cu8 (zr8 32), 74, (0, 0)⟩]
 refine JL_val _ (Ev_assign rfl) rfl ?_
 refine JL_nil ?_
 refine JQ_then ?_
 refine JC_seq ?_
 refine JC_seq ?_
 refine JC_region ?_
 refine JL_val _ (Ev_move rfl) rfl ?_
 refine JL_val (Ptr nb2 0) (Ev_fieldAddr 0 58 1 Tryd.underlying81 rfl Tryd.sizeOf58 rfl rfl) rfl ?_
 refine JL_val (U64 e) (Ev_load rfl (Ld_one Tryd.isAgg58 (MemAt.ent 1 rfl (Seg.left (Seg.left (Seg.head)))))) rfl ?_
 refine JL_step (Step_callP 65 [U64 i, U64 e] (.bool (RightB i e)) (Cl_func [U64 i, U64 e] Tryd.call65 rfl) (fun w1 hw1 => rright_c i e w1 )) rfl ?_
 rintro v1 L1 ⟨rfl, rfl⟩
 show JL _ _ _ _ ((11, .bool (RightB i e)) :: _) [⟨nb1, cu8 k, 55, (0, 0)⟩, ⟨nb2, [U64 e] ++ cu8 d ++ cu8 t, 81, (0, 0)⟩, ⟨nb3, cu8 (zr8 32), 74, (0, 0)⟩]
 refine JL_val (.bool (!(RightB i e))) (Ev_not rfl) rfl ?_
 refine JL_nil ?_
 refine JQ_then ?_
 refine JC_condF _ rfl (by rw [show (RightB i e) = true from hrt] <;> rfl) ?_
 refine JC_skip ?_
 refine JQ_then ?_
 refine JC_seq ?_
 refine JC_seq ?_
 refine JC_draw 32 2 [(0, Ptr nb2 33), (1, .agg (cu8 t).toArray), (2, .agg (cu8 k).toArray), (3, U64 i), (4, Ptr nb2 0), (5, U64 e), (6, Ptr nb2 1), (7, .agg (cu8 d).toArray)] Tryd.mixed rfl (by decide +kernel) ?_
 refine DP_one ⟨[], [0, 1, 2, 3, 4, 5, 6, 7], [], [0, 1, 2, 3, 4, 5, 6, 7], [8]⟩ 8 _ rfl rfl (by decide +kernel) rfl ⟨⟨_, rfl, Qok_val rfl (Ev_fieldAddr 33 54 16 Tryd.underlying81 rfl Tryd.sizeOf54 rfl rfl)⟩, ⟨_, rfl, Qok_val rfl (Ev_load rfl (Ld_agg Tryd.isAgg54 Tryd.sizeOf54 (len_cu8 ht) (MemAt.ent 1 rfl (Seg.right 33 0 (by simp [hd]) rfl (Seg.whole _)))))⟩, ⟨_, rfl, Qok_val rfl (Ev_load rfl (Ld_agg Tryd.isAgg55 Tryd.sizeOf55 (len_cu8 hk) (MemAt.ent 0 rfl (Seg.whole _))))⟩, ⟨_, rfl, Qok_val rfl (Ev_move rfl)⟩, ⟨_, rfl, Qok_val rfl (Ev_fieldAddr 0 58 1 Tryd.underlying81 rfl Tryd.sizeOf58 rfl rfl)⟩, ⟨_, rfl, Qok_val rfl (Ev_load rfl (Ld_one Tryd.isAgg58 (MemAt.ent 1 rfl (Seg.left (Seg.left (Seg.head))))))⟩, ⟨_, rfl, Qok_val rfl (Ev_fieldAddr 1 74 32 Tryd.underlying81 rfl Tryd.sizeOf74 rfl rfl)⟩, ⟨_, rfl, Qok_val rfl (Ev_load rfl (Ld_agg Tryd.isAgg74 Tryd.sizeOf74 (len_cu8 hd) (MemAt.ent 1 rfl (Seg.left (Seg.right 1 0 rfl rfl (Seg.whole _))))))⟩, trivial⟩ rfl (Cok_step rfl (Step_callP 66 [.agg (cu8 k).toArray, U64 i, U64 e, .agg (cu8 d).toArray] (.agg (cu8 (tagP k (placeT i e) d)).toArray) (Cl_func [.agg (cu8 k).toArray, U64 i, U64 e, .agg (cu8 d).toArray] Tryd.call66 rfl) (fun w1 hw1 => rtagP_c k i e d w1 hk hd (GLr.at hw1 hGr) (GLi.at hw1 hGi)))) ?_
 rintro v1 L1 ⟨rfl, rfl⟩
 refine ⟨[(9, .bool (!(decide (t = (tagP k (placeT i e) d)))))], ?_⟩
 show DP _ _ _ _ _ _ _ _ [⟨nb1, cu8 k, 55, (0, 0)⟩, ⟨nb2, [U64 e] ++ cu8 d ++ cu8 t, 81, (0, 0)⟩, ⟨nb3, cu8 (zr8 32), 74, (0, 0)⟩]
 refine DP_end ⟨[8], [0, 1, 2, 3, 4, 5, 6, 7, 9], [2, 3, 4, 5, 6, 7], [0, 1, 9], []⟩ rfl rfl (by decide +kernel) rfl ⟨⟨_, rfl, Qok_val rfl (Ev_fieldAddr 33 54 16 Tryd.underlying81 rfl Tryd.sizeOf54 rfl rfl)⟩, ⟨_, rfl, Qok_val rfl (Ev_load rfl (Ld_agg Tryd.isAgg54 Tryd.sizeOf54 (len_cu8 ht) (MemAt.ent 1 rfl (Seg.right 33 0 (by simp [hd]) rfl (Seg.whole _)))))⟩, ⟨_, rfl, Qok_val rfl (Ev_bin _ _ _ rfl rfl (fun _ => eqGuard_agg _ _ _ _ _ _ (by kernel_rfl)) fun _ => neq_arr8 Tryd.underlying54 Tryd.underlying5 Tryd.isAgg5 Tryd.cells5 Tryd.has5 (by simp [ht]) (by simp [(tagP_len _ _ _)]))⟩, trivial⟩ ?_
 refine K_sub (F' := [(23, .bool (!(decide (t = (tagP k (placeT i e) d))))), (1, U64 i), (3, Ptr nb1 0), (5, Ptr nb2 0), (6, Ptr nb3 0), (7, I64 (0:Int))]) (Sub.cons (by kernel_rfl) (Sub.cons (by kernel_rfl) (Sub.cons (by kernel_rfl) (Sub.cons (by kernel_rfl) (Sub.cons (by kernel_rfl) (Sub.cons (by kernel_rfl) (Sub.nil))))))) ?_
 show JQ _ _ _ [(23, .bool (!(decide (t = (tagP k (placeT i e) d))))), (1, U64 i), (3, Ptr nb1 0), (5, Ptr nb2 0), (6, Ptr nb3 0), (7, I64 (0:Int))] _
 refine JQ_then ?_
 refine JC_condF _ rfl (by rw [show (decide (t = (tagP k (placeT i e) d))) = true from (decide_eq_true hau)] <;> rfl) ?_
 refine JC_skip ?_
 refine JQ_then ?_
 refine JC_seq ?_
 refine JC_region ?_
 refine JL_val (.agg (cu8 k).toArray) (Ev_load rfl (Ld_agg Tryd.isAgg55 Tryd.sizeOf55 (len_cu8 hk) (MemAt.ent 0 rfl (Seg.whole _)))) rfl ?_
 refine JL_val _ (Ev_move rfl) rfl ?_
 refine JL_val (Ptr nb2 0) (Ev_fieldAddr 0 58 1 Tryd.underlying81 rfl Tryd.sizeOf58 rfl rfl) rfl ?_
 refine JL_val (U64 e) (Ev_load rfl (Ld_one Tryd.isAgg58 (MemAt.ent 1 rfl (Seg.left (Seg.left (Seg.head)))))) rfl ?_
 refine JL_val (Ptr nb2 1) (Ev_fieldAddr 1 74 32 Tryd.underlying81 rfl Tryd.sizeOf74 rfl rfl) rfl ?_
 refine JL_val (.agg (cu8 d).toArray) (Ev_load rfl (Ld_agg Tryd.isAgg74 Tryd.sizeOf74 (len_cu8 hd) (MemAt.ent 1 rfl (Seg.left (Seg.right 1 0 rfl rfl (Seg.whole _)))))) rfl ?_
 refine JL_step (Step_callP 104 [.agg (cu8 k).toArray, U64 i, U64 e, .agg (cu8 d).toArray] (.agg (cu8 (turnP k (placeT i e) d)).toArray) (Cl_func [.agg (cu8 k).toArray, U64 i, U64 e, .agg (cu8 d).toArray] Tryd.call104 rfl) (fun w1 hw1 => rturned_c k i e d w1 hk hd (GLr.at hw1 hGr) (GLi.at hw1 hGi))) rfl ?_
 rintro v1 L1 ⟨rfl, rfl⟩
 show JL _ _ _ _ ((31, .agg (cu8 (turnP k (placeT i e) d)).toArray) :: _) [⟨nb1, cu8 k, 55, (0, 0)⟩, ⟨nb2, [U64 e] ++ cu8 d ++ cu8 t, 81, (0, 0)⟩, ⟨nb3, cu8 (zr8 32), 74, (0, 0)⟩]
 refine JL_step (Step_store 2 nb3 0 32 (cu8 (zr8 32)) 74 (.agg (cu8 (turnP k (placeT i e) d)).toArray) (cu8 (turnP k (placeT i e) d)) (cu8 (turnP k (placeT i e) d)) rfl rfl rfl (by first | rfl | simp) Tryd.sizeOf74 (len_cu8 (turnP_len _ _ (placeT_len _ _))) (by first | exact one_u8 | exact one_u32 | exact one_u64 | (simp [cu8, cu32, cu64, Value.oneCell']; done)) (by simp [(zr8_len 32)]) (lay_whole (by simp [(zr8_len 32), (turnP_len _ _ (placeT_len _ _))]))) rfl ?_
 rintro v1 L1 ⟨rfl, rfl⟩
 show JL _ _ _ _ _ [⟨nb1, cu8 k, 55, (0, 0)⟩, ⟨nb2, [U64 e] ++ cu8 d ++ cu8 t, 81, (0, 0)⟩, ⟨nb3, cu8 (turnP k (placeT i e) d), 74, (0, 0)⟩]
 refine JL_val _ (Ev_assign rfl) rfl ?_
 refine JL_nil ?_
 refine JQ_then ?_
 refine JC_ret ?_
 refine K_mask [false, false, true] ?_
 show JQ _ _ _ _ [⟨nb3, cu8 (turnP k (placeT i e) d), 74, (0, 0)⟩]
 refine JQ_ret (.tuple #[.agg (cu8 (turnP k (placeT i e) d)).toArray, I64 (0:Int)]) (res2 Tryd.results63 (RV_cell rfl (Ld_agg Tryd.isAgg74 Tryd.sizeOf74 (len_cu8 (turnP_len _ _ (placeT_len _ _))) (MemAt.ent 0 rfl (Seg.whole _)))) (RV_tmp rfl)) fun w1 hw1 => ?_
 exact ⟨_, [], rfl, ⟨rfl, rfl⟩, hw1.sub (by simp) (by simp)⟩
theorem ropen_w (k : List UInt8) (i e : UInt64) (d t : List UInt8) (w : World) (hk : k.length = 16) (hd : d.length = 32) (ht : t.length = 16) (hGr : GLr w) (hGi : GLi w) : Calls Tryd.prog 63 #[.agg (cu8 k).toArray, U64 i, .agg (List.toArray (α := Value) ([U64 e] ++ cu8 d ++ cu8 t))] w (Post w [] (fun v L => v = .tuple #[.agg (cu8 (openBk k i e d t)).toArray, I64 ((openN k i e d t : Nat) : Int)] ∧ L = [])) := by
  cases hrt : RightB i e with
  | true =>
    by_cases hau : t = tagP k (placeT i e) d
    · have e1 : openN k i e d t = 0 := by unfold openN; rw [if_pos hrt, if_pos hau]
      have e2 : openBk k i e d t = turnP k (placeT i e) d := by unfold openBk; rw [if_pos ⟨hrt, hau⟩]
      rw [e1, e2]
      exact ropenK_c k i e d t w hk hd ht hGr hGi hrt hau
    · have e1 : openN k i e d t = 4 := by unfold openN; rw [if_pos hrt, if_neg hau]
      have e2 : openBk k i e d t = zr8 32 := by unfold openBk; rw [if_neg (fun h => hau h.2)]
      rw [e1, e2]
      exact ropenA_c k i e d t w hk hd ht hGr hGi hrt hau
  | false =>
    have hn : ¬ RightB i e = true := by rw [hrt]; decide
    have e1 : openN k i e d t = 1 := by unfold openN; rw [if_neg hn]
    have e2 : openBk k i e d t = zr8 32 := by unfold openBk; rw [if_neg (fun h => hn h.1)]
    rw [e1, e2]
    exact ropenB_c k i e d t w hk hd ht hrt

end Go.Proofs.YtncoifiafklkjaaDoor
namespace Go.Proofs.YtncoifiafklkjaaDoor
open Go Go.Sx
set_option linter.unusedVariables false
set_option linter.unusedSimpArgs false
set_option maxRecDepth 100000
attribute [local irreducible] mid zr8 zr32 numK rnK rotr wordL spreadL comprL cpN adN spN wrdN constL initL padL stN outN routN sumG blkL xbN raN macL rkeysL rencL encL rkL thereL backL nextL rnextL strT xorN eBlk rBlk encK tgK placeT turnP tagP RightB sealN sE sD sT openN openBk
theorem sealOpens_w (key : List UInt8) (i e : UInt64) (d t : List UInt8)  (w : World) (hk : key.length = 16) (hd : d.length = 32) (ht : t.length = 16) (hG : GLs w) (hGr : GLr w) (hGi : GLi w)  : Calls Tryd.prog 15 #[.agg (cu8 key).toArray, U64 i, .agg (List.toArray (α := Value) ([U64 e] ++ cu8 d ++ cu8 t))] w (Post w [] (fun v L => v = .bool true ∧ L = [])) := by
 refine enter (P := Tryd.prog) (f := 15) (fn := Tryd.f15) w [] 69 [] [.agg (cu8 key).toArray, U64 i, .agg (List.toArray (α := Value) ([U64 e] ++ cu8 d ++ cu8 t))] Tryd.func15 rfl rfl (by simp) (Hp.start (by simp) (by simp) (by simp)) ?_
 show JC _ _ _ [(0, .agg (cu8 key).toArray), (1, U64 i), (2, .agg (List.toArray (α := Value) ([U64 e] ++ cu8 d ++ cu8 t)))] _
 refine JC_seq ?_
 refine JC_region ?_
 refine JL_step (Step_box (.agg (cu8 key).toArray) (cu8 key) rfl (by first | rfl | simp)) rfl ?_
 rintro v1 L1 ⟨nb1, hnb1, rfl, rfl⟩
 show JL _ _ _ _ ((3, Ptr nb1 0) :: _) [⟨nb1, cu8 key, 55, (0, 0)⟩]
 refine JL_step (Step_box (.agg (List.toArray (α := Value) ([U64 e] ++ cu8 d ++ cu8 t))) ([U64 e] ++ cu8 d ++ cu8 t) rfl (by first | rfl | simp)) rfl ?_
 rintro v1 L1 ⟨nb2, hnb2, rfl, rfl⟩
 show JL _ _ _ _ ((5, Ptr nb2 0) :: _) [⟨nb1, cu8 key, 55, (0, 0)⟩, ⟨nb2, [U64 e] ++ cu8 d ++ cu8 t, 76, (0, 0)⟩]
 refine JL_val _ (Ev_assign rfl) rfl ?_
 refine JL_nil ?_
 refine JQ_then ?_
 refine JC_seq ?_
 refine JC_seq ?_
 refine JC_region ?_
 refine JL_step (Step_callP 56 [] (.bool true) (Cl_func [] Tryd.call56 rfl) (fun w1 hw1 => alive7_c  w1 (hG.at hw1))) rfl ?_
 rintro v1 L1 ⟨rfl, rfl⟩
 show JL _ _ _ _ ((16, .bool true) :: _) [⟨nb1, cu8 key, 55, (0, 0)⟩, ⟨nb2, [U64 e] ++ cu8 d ++ cu8 t, 76, (0, 0)⟩]
 refine JL_val (.bool (!true)) (Ev_not rfl) rfl ?_
 refine JL_nil ?_
 refine JQ_then ?_
 refine JC_condF _ rfl rfl ?_
 refine JC_skip ?_
 refine JQ_then ?_
 refine JC_seq ?_
 refine JC_cut (ι := Nat) (fun ynb0 => [(1, U64 i), (3, Ptr nb1 0), (5, Ptr nb2 0), (6, .bool false), (7, Ptr ynb0 0), (8, errV 43 (openN key i e d t))]) (fun ynb0 => [⟨nb1, cu8 key, 55, (0, 0)⟩, ⟨nb2, [U64 e] ++ cu8 d ++ cu8 t, 76, (0, 0)⟩, ⟨ynb0, cu8 (openBk key i e d t), 74, (0, 0)⟩]) (fun ynb0 => True) ?_ ?_
 ·
  refine JC_draw 69 5 [(0, .agg (cu8 key).toArray), (2, U64 i), (3, .agg (List.toArray (α := Value) ([U64 e] ++ cu8 d ++ cu8 t)))] Tryd.mixed rfl (by decide +kernel) ?_
  refine DP_two ⟨[], [0, 2, 3], [], [0, 2, 3], [1, 8]⟩ 1 8 _ _ rfl rfl (by decide +kernel) rfl ⟨⟨_, rfl, Qok_val rfl (Ev_load rfl (Ld_agg Tryd.isAgg55 Tryd.sizeOf55 (len_cu8 hk) (MemAt.ent 0 rfl (Seg.whole _))))⟩, ⟨_, rfl, Qok_val rfl (Ev_move rfl)⟩, ⟨_, rfl, Qok_val rfl (Ev_load rfl (Ld_agg Tryd.isAgg76 Tryd.sizeOf76 (by simp [hd, ht]) (MemAt.ent 1 rfl (Seg.whole _))))⟩, trivial⟩ rfl rfl (Cok_step rfl (Step_callN 57 [.agg (cu8 key).toArray] _ (Cl_func [.agg (cu8 key).toArray] Tryd.call57 rfl) (fun w1 hw1 => snew_c key w1 hk (hG.at hw1)))) (Cok_step rfl (Step_alloc _ (cu8 (zr8 32)) Tryd.zeroValue74 (by kernel_rfl))) ?_ ?_
  ·
   rintro v1 L1 ⟨_, ⟨nb3, nb4, rfl, rfl⟩, rfl⟩
   refine ⟨[], ?_⟩
   show DP _ _ _ _ _ _ _ _ [⟨nb1, cu8 key, 55, (0, 0)⟩, ⟨nb2, [U64 e] ++ cu8 d ++ cu8 t, 76, (0, 0)⟩, ⟨nb4, cu8 (rkL (encK key)) ++ cu8 thereL ++ cu8 backL, 170, (0, 0)⟩, ⟨nb3, cu8 (encK key) ++ cu8 (tgK key) ++ cu8 (macL key ([101, 110, 116, 114, 117, 115, 116, 32, 116, 105, 99, 107, 101, 116] : List UInt8)) ++ cu8 (macL key ([101, 110, 116, 114, 117, 115, 116, 32, 108, 105, 110, 107] : List UInt8)) ++ [Ptr nb4 0], 145, (0, 0)⟩]
   refine DP_two ⟨[1], [0, 2, 3], [0], [2, 3], [4, 8]⟩ 4 8 _ _ rfl rfl (by decide +kernel) rfl ⟨⟨_, rfl, Qok_val rfl (Ev_move rfl)⟩, ⟨_, rfl, Qok_val rfl (Ev_load rfl (Ld_agg Tryd.isAgg76 Tryd.sizeOf76 (by simp [hd, ht]) (MemAt.ent 1 rfl (Seg.whole _))))⟩, trivial⟩ rfl rfl (Cok_step rfl (Step_callP 62 [Ptr nb3 0, U64 i, .agg (List.toArray (α := Value) ([U64 e] ++ cu8 d ++ cu8 t))] (.tuple #[.agg (cu8 (openBk key i e d t)).toArray, errV 43 (openN key i e d t)]) (Cl_func [Ptr nb3 0, U64 i, .agg (List.toArray (α := Value) ([U64 e] ++ cu8 d ++ cu8 t))] Tryd.call62 rfl) (fun w1 hw1 => open_w nb3 nb4 key i e d t w1 hk (hw1.ent _ (List.mem_of_getElem? (i := 3) rfl)) (hw1.ent _ (List.mem_of_getElem? (i := 2) rfl)) hd ht (hG.at hw1)))) (Cok_step rfl (Step_alloc _ (cu8 (zr8 32)) Tryd.zeroValue74 (by kernel_rfl))) ?_ ?_
   ·
    rintro v1 L1 ⟨rfl, rfl⟩
    refine ⟨[(5, .tuple #[.agg (cu8 (openBk key i e d t)).toArray, errV 43 (openN key i e d t)]), (6, .agg (cu8 (openBk key i e d t)).toArray), (7, errV 43 (openN key i e d t))], ?_⟩
    show DP _ _ _ _ _ _ _ _ [⟨nb1, cu8 key, 55, (0, 0)⟩, ⟨nb2, [U64 e] ++ cu8 d ++ cu8 t, 76, (0, 0)⟩, ⟨nb4, cu8 (rkL (encK key)) ++ cu8 thereL ++ cu8 backL, 170, (0, 0)⟩, ⟨nb3, cu8 (encK key) ++ cu8 (tgK key) ++ cu8 (macL key ([101, 110, 116, 114, 117, 115, 116, 32, 116, 105, 99, 107, 101, 116] : List UInt8)) ++ cu8 (macL key ([101, 110, 116, 114, 117, 115, 116, 32, 108, 105, 110, 107] : List UInt8)) ++ [Ptr nb4 0], 145, (0, 0)⟩]
    refine DP_one ⟨[1, 4], [0, 2, 3, 5, 6, 7], [0, 2, 3], [5, 6, 7], [8]⟩ 8 _ rfl rfl (by decide +kernel) rfl ⟨⟨_, rfl, Qok_val rfl (Ev_move rfl)⟩, ⟨_, rfl, Qok_val rfl (Ev_extract rfl rfl)⟩, ⟨_, rfl, Qok_val rfl (Ev_extract rfl rfl)⟩, trivial⟩ rfl (Cok_step rfl (Step_alloc _ (cu8 (zr8 32)) Tryd.zeroValue74 (by kernel_rfl))) ?_
    rintro v1 L1 ⟨nb7, hnb7, rfl, rfl⟩
    refine ⟨[], ?_⟩
    show DP _ _ _ _ _ _ _ _ [⟨nb1, cu8 key, 55, (0, 0)⟩, ⟨nb2, [U64 e] ++ cu8 d ++ cu8 t, 76, (0, 0)⟩, ⟨nb4, cu8 (rkL (encK key)) ++ cu8 thereL ++ cu8 backL, 170, (0, 0)⟩, ⟨nb3, cu8 (encK key) ++ cu8 (tgK key) ++ cu8 (macL key ([101, 110, 116, 114, 117, 115, 116, 32, 116, 105, 99, 107, 101, 116] : List UInt8)) ++ cu8 (macL key ([101, 110, 116, 114, 117, 115, 116, 32, 108, 105, 110, 107] : List UInt8)) ++ [Ptr nb4 0], 145, (0, 0)⟩, ⟨nb7, cu8 (zr8 32), 74, (0, 0)⟩]
    refine DP_one ⟨[1, 4, 8], [0, 2, 3, 5, 6, 7], [0, 2, 3], [5, 6, 7], [9]⟩ 9 _ rfl rfl (by decide +kernel) rfl ⟨⟨_, rfl, Qok_val rfl (Ev_move rfl)⟩, ⟨_, rfl, Qok_val rfl (Ev_extract rfl rfl)⟩, ⟨_, rfl, Qok_val rfl (Ev_extract rfl rfl)⟩, trivial⟩ rfl (Cok_step rfl (Step_store 4 nb7 0 32 (cu8 (zr8 32)) 74 (.agg (cu8 (openBk key i e d t)).toArray) (cu8 (openBk key i e d t)) (cu8 (openBk key i e d t)) rfl rfl rfl (by first | rfl | simp) Tryd.sizeOf74 (len_cu8 (openBk_len _ _ _ _ _)) (by first | exact one_u8 | exact one_u32 | exact one_u64 | (simp [cu8, cu32, cu64, Value.oneCell']; done)) (by simp [(zr8_len 32)]) (lay_whole (by simp [(zr8_len 32), (openBk_len _ _ _ _ _)])))) ?_
    rintro v1 L1 ⟨rfl, rfl⟩
    refine ⟨[(10, errV 43 (openN key i e d t))], ?_⟩
    show DP _ _ _ _ _ _ _ _ [⟨nb1, cu8 key, 55, (0, 0)⟩, ⟨nb2, [U64 e] ++ cu8 d ++ cu8 t, 76, (0, 0)⟩, ⟨nb4, cu8 (rkL (encK key)) ++ cu8 thereL ++ cu8 backL, 170, (0, 0)⟩, ⟨nb3, cu8 (encK key) ++ cu8 (tgK key) ++ cu8 (macL key ([101, 110, 116, 114, 117, 115, 116, 32, 116, 105, 99, 107, 101, 116] : List UInt8)) ++ cu8 (macL key ([101, 110, 116, 114, 117, 115, 116, 32, 108, 105, 110, 107] : List UInt8)) ++ [Ptr nb4 0], 145, (0, 0)⟩, ⟨nb7, cu8 (openBk key i e d t), 74, (0, 0)⟩]
    refine DP_end ⟨[1, 4, 8, 9], [0, 2, 3, 5, 6, 7, 10], [0, 2, 3, 5, 6], [7, 10], []⟩ rfl rfl (by decide +kernel) rfl ⟨⟨_, rfl, Qok_val rfl (Ev_extract rfl rfl)⟩, ⟨_, rfl, Qok_val rfl (Ev_assign rfl)⟩, trivial⟩ ?_
    refine K_sub (F' := [(7, Ptr nb7 0), (8, errV 43 (openN key i e d t)), (1, U64 i), (3, Ptr nb1 0), (5, Ptr nb2 0), (6, .bool false)]) (Sub.cons (by kernel_rfl) (Sub.cons (by kernel_rfl) (Sub.cons (by kernel_rfl) (Sub.cons (by kernel_rfl) (Sub.cons (by kernel_rfl) (Sub.cons (by kernel_rfl) (Sub.nil))))))) ?_
    show JQ _ _ _ [(7, Ptr nb7 0), (8, errV 43 (openN key i e d t)), (1, U64 i), (3, Ptr nb1 0), (5, Ptr nb2 0), (6, .bool false)] _
    refine K_pick [0, 1, 4] (by decide) ?_
    show JQ _ _ _ _ [⟨nb1, cu8 key, 55, (0, 0)⟩, ⟨nb2, [U64 e] ++ cu8 d ++ cu8 t, 76, (0, 0)⟩, ⟨nb7, cu8 (openBk key i e d t), 74, (0, 0)⟩]
    refine JQ_cut nb7 trivial (Sub.cons rfl (Sub.cons rfl (Sub.cons rfl (Sub.cons rfl (Sub.cons rfl (Sub.cons rfl (Sub.nil))))))) rfl
   ·
    rintro v1 L1 ⟨nb6, hnb6, rfl, rfl⟩
    refine ⟨[], ?_⟩
    show DP _ _ _ _ _ _ _ _ [⟨nb1, cu8 key, 55, (0, 0)⟩, ⟨nb2, [U64 e] ++ cu8 d ++ cu8 t, 76, (0, 0)⟩, ⟨nb4, cu8 (rkL (encK key)) ++ cu8 thereL ++ cu8 backL, 170, (0, 0)⟩, ⟨nb3, cu8 (encK key) ++ cu8 (tgK key) ++ cu8 (macL key ([101, 110, 116, 114, 117, 115, 116, 32, 116, 105, 99, 107, 101, 116] : List UInt8)) ++ cu8 (macL key ([101, 110, 116, 114, 117, 115, 116, 32, 108, 105, 110, 107] : List UInt8)) ++ [Ptr nb4 0], 145, (0, 0)⟩, ⟨nb6, cu8 (zr8 32), 74, (0, 0)⟩]
    refine DP_one ⟨[1, 8], [0, 2, 3], [0], [2, 3], [4]⟩ 4 _ rfl rfl (by decide +kernel) rfl ⟨⟨_, rfl, Qok_val rfl (Ev_move rfl)⟩, ⟨_, rfl, Qok_val rfl (Ev_load rfl (Ld_agg Tryd.isAgg76 Tryd.sizeOf76 (by simp [hd, ht]) (MemAt.ent 1 rfl (Seg.whole _))))⟩, trivial⟩ rfl (Cok_step rfl (Step_callP 62 [Ptr nb3 0, U64 i, .agg (List.toArray (α := Value) ([U64 e] ++ cu8 d ++ cu8 t))] (.tuple #[.agg (cu8 (openBk key i e d t)).toArray, errV 43 (openN key i e d t)]) (Cl_func [Ptr nb3 0, U64 i, .agg (List.toArray (α := Value) ([U64 e] ++ cu8 d ++ cu8 t))] Tryd.call62 rfl) (fun w1 hw1 => open_w nb3 nb4 key i e d t w1 hk (hw1.ent _ (List.mem_of_getElem? (i := 3) rfl)) (hw1.ent _ (List.mem_of_getElem? (i := 2) rfl)) hd ht (hG.at hw1)))) ?_
    rintro v1 L1 ⟨rfl, rfl⟩
    refine ⟨[(5, .tuple #[.agg (cu8 (openBk key i e d t)).toArray, errV 43 (openN key i e d t)]), (6, .agg (cu8 (openBk key i e d t)).toArray), (7, errV 43 (openN key i e d t))], ?_⟩
    show DP _ _ _ _ _ _ _ _ [⟨nb1, cu8 key, 55, (0, 0)⟩, ⟨nb2, [U64 e] ++ cu8 d ++ cu8 t, 76, (0, 0)⟩, ⟨nb4, cu8 (rkL (encK key)) ++ cu8 thereL ++ cu8 backL, 170, (0, 0)⟩, ⟨nb3, cu8 (encK key) ++ cu8 (tgK key) ++ cu8 (macL key ([101, 110, 116, 114, 117, 115, 116, 32, 116, 105, 99, 107, 101, 116] : List UInt8)) ++ cu8 (macL key ([101, 110, 116, 114, 117, 115, 116, 32, 108, 105, 110, 107] : List UInt8)) ++ [Ptr nb4 0], 145, (0, 0)⟩, ⟨nb6, cu8 (zr8 32), 74, (0, 0)⟩]
    refine DP_one ⟨[1, 8, 4], [0, 2, 3, 5, 6, 7], [0, 2, 3], [5, 6, 7], [9]⟩ 9 _ rfl rfl (by decide +kernel) rfl ⟨⟨_, rfl, Qok_val rfl (Ev_move rfl)⟩, ⟨_, rfl, Qok_val rfl (Ev_extract rfl rfl)⟩, ⟨_, rfl, Qok_val rfl (Ev_extract rfl rfl)⟩, trivial⟩ rfl (Cok_step rfl (Step_store 4 nb6 0 32 (cu8 (zr8 32)) 74 (.agg (cu8 (openBk key i e d t)).toArray) (cu8 (openBk key i e d t)) (cu8 (openBk key i e d t)) rfl rfl rfl (by first | rfl | simp) Tryd.sizeOf74 (len_cu8 (openBk_len _ _ _ _ _)) (by first | exact one_u8 | exact one_u32 | exact one_u64 | (simp [cu8, cu32, cu64, Value.oneCell']; done)) (by simp [(zr8_len 32)]) (lay_whole (by simp [(zr8_len 32), (openBk_len _ _ _ _ _)])))) ?_
    rintro v1 L1 ⟨rfl, rfl⟩
    refine ⟨[(10, errV 43 (openN key i e d t))], ?_⟩
    show DP _ _ _ _ _ _ _ _ [⟨nb1, cu8 key, 55, (0, 0)⟩, ⟨nb2, [U64 e] ++ cu8 d ++ cu8 t, 76, (0, 0)⟩, ⟨nb4, cu8 (rkL (encK key)) ++ cu8 thereL ++ cu8 backL, 170, (0, 0)⟩, ⟨nb3, cu8 (encK key) ++ cu8 (tgK key) ++ cu8 (macL key ([101, 110, 116, 114, 117, 115, 116, 32, 116, 105, 99, 107, 101, 116] : List UInt8)) ++ cu8 (macL key ([101, 110, 116, 114, 117, 115, 116, 32, 108, 105, 110, 107] : List UInt8)) ++ [Ptr nb4 0], 145, (0, 0)⟩, ⟨nb6, cu8 (openBk key i e d t), 74, (0, 0)⟩]
    refine DP_end ⟨[1, 8, 4, 9], [0, 2, 3, 5, 6, 7, 10], [0, 2, 3, 5, 6], [7, 10], []⟩ rfl rfl (by decide +kernel) rfl ⟨⟨_, rfl, Qok_val rfl (Ev_extract rfl rfl)⟩, ⟨_, rfl, Qok_val rfl (Ev_assign rfl)⟩, trivial⟩ ?_
    refine K_sub (F' := [(7, Ptr nb6 0), (8, errV 43 (openN key i e d t)), (1, U64 i), (3, Ptr nb1 0), (5, Ptr nb2 0), (6, .bool false)]) (Sub.cons (by kernel_rfl) (Sub.cons (by kernel_rfl) (Sub.cons (by kernel_rfl) (Sub.cons (by kernel_rfl) (Sub.cons (by kernel_rfl) (Sub.cons (by kernel_rfl) (Sub.nil))))))) ?_
    show JQ _ _ _ [(7, Ptr nb6 0), (8, errV 43 (openN key i e d t)), (1, U64 i), (3, Ptr nb1 0), (5, Ptr nb2 0), (6, .bool false)] _
    refine K_pick [0, 1, 4] (by decide) ?_
    show JQ _ _ _ _ [⟨nb1, cu8 key, 55, (0, 0)⟩, ⟨nb2, [U64 e] ++ cu8 d ++ cu8 t, 76, (0, 0)⟩, ⟨nb6, cu8 (openBk key i e d t), 74, (0, 0)⟩]
    refine JQ_cut nb6 trivial (Sub.cons rfl (Sub.cons rfl (Sub.cons rfl (Sub.cons rfl (Sub.cons rfl (Sub.cons rfl (Sub.nil))))))) rfl
  ·
   rintro v1 L1 ⟨nb5, hnb5, rfl, rfl⟩
   refine ⟨[], ?_⟩
   show DP _ _ _ _ _ _ _ _ [⟨nb1, cu8 key, 55, (0, 0)⟩, ⟨nb2, [U64 e] ++ cu8 d ++ cu8 t, 76, (0, 0)⟩, ⟨nb5, cu8 (zr8 32), 74, (0, 0)⟩]
   refine DP_one ⟨[8], [0, 2, 3], [], [0, 2, 3], [1]⟩ 1 _ rfl rfl (by decide +kernel) rfl ⟨⟨_, rfl, Qok_val rfl (Ev_load rfl (Ld_agg Tryd.isAgg55 Tryd.sizeOf55 (len_cu8 hk) (MemAt.ent 0 rfl (Seg.whole _))))⟩, ⟨_, rfl, Qok_val rfl (Ev_move rfl)⟩, ⟨_, rfl, Qok_val rfl (Ev_load rfl (Ld_agg Tryd.isAgg76 Tryd.sizeOf76 (by simp [hd, ht]) (MemAt.ent 1 rfl (Seg.whole _))))⟩, trivial⟩ rfl (Cok_step rfl (Step_callN 57 [.agg (cu8 key).toArray] _ (Cl_func [.agg (cu8 key).toArray] Tryd.call57 rfl) (fun w1 hw1 => snew_c key w1 hk (hG.at hw1)))) ?_
   rintro v1 L1 ⟨_, ⟨nb8, nb9, rfl, rfl⟩, rfl⟩
   refine ⟨[], ?_⟩
   show DP _ _ _ _ _ _ _ _ [⟨nb1, cu8 key, 55, (0, 0)⟩, ⟨nb2, [U64 e] ++ cu8 d ++ cu8 t, 76, (0, 0)⟩, ⟨nb5, cu8 (zr8 32), 74, (0, 0)⟩, ⟨nb9, cu8 (rkL (encK key)) ++ cu8 thereL ++ cu8 backL, 170, (0, 0)⟩, ⟨nb8, cu8 (encK key) ++ cu8 (tgK key) ++ cu8 (macL key ([101, 110, 116, 114, 117, 115, 116, 32, 116, 105, 99, 107, 101, 116] : List UInt8)) ++ cu8 (macL key ([101, 110, 116, 114, 117, 115, 116, 32, 108, 105, 110, 107] : List UInt8)) ++ [Ptr nb9 0], 145, (0, 0)⟩]
   refine DP_one ⟨[8, 1], [0, 2, 3], [0], [2, 3], [4]⟩ 4 _ rfl rfl (by decide +kernel) rfl ⟨⟨_, rfl, Qok_val rfl (Ev_move rfl)⟩, ⟨_, rfl, Qok_val rfl (Ev_load rfl (Ld_agg Tryd.isAgg76 Tryd.sizeOf76 (by simp [hd, ht]) (MemAt.ent 1 rfl (Seg.whole _))))⟩, trivial⟩ rfl (Cok_step rfl (Step_callP 62 [Ptr nb8 0, U64 i, .agg (List.toArray (α := Value) ([U64 e] ++ cu8 d ++ cu8 t))] (.tuple #[.agg (cu8 (openBk key i e d t)).toArray, errV 43 (openN key i e d t)]) (Cl_func [Ptr nb8 0, U64 i, .agg (List.toArray (α := Value) ([U64 e] ++ cu8 d ++ cu8 t))] Tryd.call62 rfl) (fun w1 hw1 => open_w nb8 nb9 key i e d t w1 hk (hw1.ent _ (List.mem_of_getElem? (i := 4) rfl)) (hw1.ent _ (List.mem_of_getElem? (i := 3) rfl)) hd ht (hG.at hw1)))) ?_
   rintro v1 L1 ⟨rfl, rfl⟩
   refine ⟨[(5, .tuple #[.agg (cu8 (openBk key i e d t)).toArray, errV 43 (openN key i e d t)]), (6, .agg (cu8 (openBk key i e d t)).toArray), (7, errV 43 (openN key i e d t))], ?_⟩
   show DP _ _ _ _ _ _ _ _ [⟨nb1, cu8 key, 55, (0, 0)⟩, ⟨nb2, [U64 e] ++ cu8 d ++ cu8 t, 76, (0, 0)⟩, ⟨nb5, cu8 (zr8 32), 74, (0, 0)⟩, ⟨nb9, cu8 (rkL (encK key)) ++ cu8 thereL ++ cu8 backL, 170, (0, 0)⟩, ⟨nb8, cu8 (encK key) ++ cu8 (tgK key) ++ cu8 (macL key ([101, 110, 116, 114, 117, 115, 116, 32, 116, 105, 99, 107, 101, 116] : List UInt8)) ++ cu8 (macL key ([101, 110, 116, 114, 117, 115, 116, 32, 108, 105, 110, 107] : List UInt8)) ++ [Ptr nb9 0], 145, (0, 0)⟩]
   refine DP_one ⟨[8, 1, 4], [0, 2, 3, 5, 6, 7], [0, 2, 3], [5, 6, 7], [9]⟩ 9 _ rfl rfl (by decide +kernel) rfl ⟨⟨_, rfl, Qok_val rfl (Ev_move rfl)⟩, ⟨_, rfl, Qok_val rfl (Ev_extract rfl rfl)⟩, ⟨_, rfl, Qok_val rfl (Ev_extract rfl rfl)⟩, trivial⟩ rfl (Cok_step rfl (Step_store 2 nb5 0 32 (cu8 (zr8 32)) 74 (.agg (cu8 (openBk key i e d t)).toArray) (cu8 (openBk key i e d t)) (cu8 (openBk key i e d t)) rfl rfl rfl (by first | rfl | simp) Tryd.sizeOf74 (len_cu8 (openBk_len _ _ _ _ _)) (by first | exact one_u8 | exact one_u32 | exact one_u64 | (simp [cu8, cu32, cu64, Value.oneCell']; done)) (by simp [(zr8_len 32)]) (lay_whole (by simp [(zr8_len 32), (openBk_len _ _ _ _ _)])))) ?_
   rintro v1 L1 ⟨rfl, rfl⟩
   refine ⟨[(10, errV 43 (openN key i e d t))], ?_⟩
   show DP _ _ _ _ _ _ _ _ [⟨nb1, cu8 key, 55, (0, 0)⟩, ⟨nb2, [U64 e] ++ cu8 d ++ cu8 t, 76, (0, 0)⟩, ⟨nb5, cu8 (openBk key i e d t), 74, (0, 0)⟩, ⟨nb9, cu8 (rkL (encK key)) ++ cu8 thereL ++ cu8 backL, 170, (0, 0)⟩, ⟨nb8, cu8 (encK key) ++ cu8 (tgK key) ++ cu8 (macL key ([101, 110, 116, 114, 117, 115, 116, 32, 116, 105, 99, 107, 101, 116] : List UInt8)) ++ cu8 (macL key ([101, 110, 116, 114, 117, 115, 116, 32, 108, 105, 110, 107] : List UInt8)) ++ [Ptr nb9 0], 145, (0, 0)⟩]
   refine DP_end ⟨[8, 1, 4, 9], [0, 2, 3, 5, 6, 7, 10], [0, 2, 3, 5, 6], [7, 10], []⟩ rfl rfl (by decide +kernel) rfl ⟨⟨_, rfl, Qok_val rfl (Ev_extract rfl rfl)⟩, ⟨_, rfl, Qok_val rfl (Ev_assign rfl)⟩, trivial⟩ ?_
   refine K_sub (F' := [(7, Ptr nb5 0), (8, errV 43 (openN key i e d t)), (1, U64 i), (3, Ptr nb1 0), (5, Ptr nb2 0), (6, .bool false)]) (Sub.cons (by kernel_rfl) (Sub.cons (by kernel_rfl) (Sub.cons (by kernel_rfl) (Sub.cons (by kernel_rfl) (Sub.cons (by kernel_rfl) (Sub.cons (by kernel_rfl) (Sub.nil))))))) ?_
   show JQ _ _ _ [(7, Ptr nb5 0), (8, errV 43 (openN key i e d t)), (1, U64 i), (3, Ptr nb1 0), (5, Ptr nb2 0), (6, .bool false)] _
   refine K_pick [0, 1, 2] (by decide) ?_
   show JQ _ _ _ _ [⟨nb1, cu8 key, 55, (0, 0)⟩, ⟨nb2, [U64 e] ++ cu8 d ++ cu8 t, 76, (0, 0)⟩, ⟨nb5, cu8 (openBk key i e d t), 74, (0, 0)⟩]
   refine JQ_cut nb5 trivial (Sub.cons rfl (Sub.cons rfl (Sub.cons rfl (Sub.cons rfl (Sub.cons rfl (Sub.cons rfl (Sub.nil))))))) rfl
 ·
  rintro ynb0 _
  show JQ _ _ _ [(1, U64 i), (3, Ptr nb1 0), (5, Ptr nb2 0), (6, .bool false), (7, Ptr ynb0 0), (8, errV 43 (openN key i e d t))] [⟨nb1, cu8 key, 55, (0, 0)⟩, ⟨nb2, [U64 e] ++ cu8 d ++ cu8 t, 76, (0, 0)⟩, ⟨ynb0, cu8 (openBk key i e d t), 74, (0, 0)⟩]
  refine JQ_then ?_
  refine JC_seq ?_
  refine JC_cut (ι := Nat) (fun yq1_nb0 => [(1, U64 i), (5, Ptr nb2 0), (6, .bool false), (7, Ptr ynb0 0), (8, errV 43 (openN key i e d t)), (9, Ptr yq1_nb0 0), (10, I64 ((openN key i e d t:Int)))]) (fun yq1_nb0 => [⟨nb2, [U64 e] ++ cu8 d ++ cu8 t, 76, (0, 0)⟩, ⟨ynb0, cu8 (openBk key i e d t), 74, (0, 0)⟩, ⟨yq1_nb0, cu8 (openBk key i e d t), 74, (0, 0)⟩]) (fun yq1_nb0 => True) ?_ ?_
  ·
   refine JC_draw 69 5 [(0, .agg (cu8 key).toArray), (1, U64 i), (2, .agg (List.toArray (α := Value) ([U64 e] ++ cu8 d ++ cu8 t)))] Tryd.mixed rfl (by decide +kernel) ?_
   refine DP_two ⟨[], [0, 1, 2], [], [0, 1, 2], [3, 8]⟩ 3 8 _ _ rfl rfl (by decide +kernel) rfl ⟨⟨_, rfl, Qok_val rfl (Ev_load rfl (Ld_agg Tryd.isAgg55 Tryd.sizeOf55 (len_cu8 hk) (MemAt.ent 0 rfl (Seg.whole _))))⟩, ⟨_, rfl, Qok_val rfl (Ev_move rfl)⟩, ⟨_, rfl, Qok_val rfl (Ev_load rfl (Ld_agg Tryd.isAgg76 Tryd.sizeOf76 (by simp [hd, ht]) (MemAt.ent 1 rfl (Seg.whole _))))⟩, trivial⟩ rfl rfl (Cok_step rfl (Step_callP 61 [.agg (List.toArray (α := Value) ([U64 e] ++ cu8 d ++ cu8 t))] (.agg (List.toArray (α := Value) ([U64 e] ++ cu8 d ++ cu8 t))) (Cl_func [.agg (List.toArray (α := Value) ([U64 e] ++ cu8 d ++ cu8 t))] Tryd.call61 rfl) (fun w1 hw1 => doc7_c e d t w1 hd ht))) (Cok_step rfl (Step_alloc _ (cu8 (zr8 32)) Tryd.zeroValue74 (by kernel_rfl))) ?_ ?_
   ·
    rintro v1 L1 ⟨rfl, rfl⟩
    refine ⟨[], ?_⟩
    show DP _ _ _ _ _ _ _ _ [⟨nb1, cu8 key, 55, (0, 0)⟩, ⟨nb2, [U64 e] ++ cu8 d ++ cu8 t, 76, (0, 0)⟩, ⟨ynb0, cu8 (openBk key i e d t), 74, (0, 0)⟩]
    refine DP_two ⟨[3], [0, 1, 2], [2], [0, 1], [4, 8]⟩ 4 8 _ _ rfl rfl (by decide +kernel) rfl ⟨⟨_, rfl, Qok_val rfl (Ev_load rfl (Ld_agg Tryd.isAgg55 Tryd.sizeOf55 (len_cu8 hk) (MemAt.ent 0 rfl (Seg.whole _))))⟩, ⟨_, rfl, Qok_val rfl (Ev_move rfl)⟩, trivial⟩ rfl rfl (Cok_step rfl (Step_callP 63 [.agg (cu8 key).toArray, U64 i, .agg (List.toArray (α := Value) ([U64 e] ++ cu8 d ++ cu8 t))] (.tuple #[.agg (cu8 (openBk key i e d t)).toArray, I64 ((openN key i e d t:Int))]) (Cl_func [.agg (cu8 key).toArray, U64 i, .agg (List.toArray (α := Value) ([U64 e] ++ cu8 d ++ cu8 t))] Tryd.call63 rfl) (fun w1 hw1 => ropen_w key i e d t w1 hk hd ht (GLr.at hw1 hGr) (GLi.at hw1 hGi)))) (Cok_step rfl (Step_alloc _ (cu8 (zr8 32)) Tryd.zeroValue74 (by kernel_rfl))) ?_ ?_
    ·
     rintro v1 L1 ⟨rfl, rfl⟩
     refine ⟨[(5, .tuple #[.agg (cu8 (openBk key i e d t)).toArray, I64 ((openN key i e d t:Int))]), (6, .agg (cu8 (openBk key i e d t)).toArray), (7, I64 ((openN key i e d t:Int)))], ?_⟩
     show DP _ _ _ _ _ _ _ _ [⟨nb1, cu8 key, 55, (0, 0)⟩, ⟨nb2, [U64 e] ++ cu8 d ++ cu8 t, 76, (0, 0)⟩, ⟨ynb0, cu8 (openBk key i e d t), 74, (0, 0)⟩]
     refine DP_one ⟨[3, 4], [0, 1, 2, 5, 6, 7], [0, 1, 2], [5, 6, 7], [8]⟩ 8 _ rfl rfl (by decide +kernel) rfl ⟨⟨_, rfl, Qok_val rfl (Ev_move rfl)⟩, ⟨_, rfl, Qok_val rfl (Ev_extract rfl rfl)⟩, ⟨_, rfl, Qok_val rfl (Ev_extract rfl rfl)⟩, trivial⟩ rfl (Cok_step rfl (Step_alloc _ (cu8 (zr8 32)) Tryd.zeroValue74 (by kernel_rfl))) ?_
     rintro v1 L1 ⟨nb12, hnb12, rfl, rfl⟩
     refine ⟨[], ?_⟩
     show DP _ _ _ _ _ _ _ _ [⟨nb1, cu8 key, 55, (0, 0)⟩, ⟨nb2, [U64 e] ++ cu8 d ++ cu8 t, 76, (0, 0)⟩, ⟨ynb0, cu8 (openBk key i e d t), 74, (0, 0)⟩, ⟨nb12, cu8 (zr8 32), 74, (0, 0)⟩]
     refine DP_one ⟨[3, 4, 8], [0, 1, 2, 5, 6, 7], [0, 1, 2], [5, 6, 7], [9]⟩ 9 _ rfl rfl (by decide +kernel) rfl ⟨⟨_, rfl, Qok_val rfl (Ev_move rfl)⟩, ⟨_, rfl, Qok_val rfl (Ev_extract rfl rfl)⟩, ⟨_, rfl, Qok_val rfl (Ev_extract rfl rfl)⟩, trivial⟩ rfl (Cok_step rfl (Step_store 3 nb12 0 32 (cu8 (zr8 32)) 74 (.agg (cu8 (openBk key i e d t)).toArray) (cu8 (openBk key i e d t)) (cu8 (openBk key i e d t)) rfl rfl rfl (by first | rfl | simp) Tryd.sizeOf74 (len_cu8 (openBk_len _ _ _ _ _)) (by first | exact one_u8 | exact one_u32 | exact one_u64 | (simp [cu8, cu32, cu64, Value.oneCell']; done)) (by simp [(zr8_len 32)]) (lay_whole (by simp [(zr8_len 32), (openBk_len _ _ _ _ _)])))) ?_
     rintro v1 L1 ⟨rfl, rfl⟩
     refine ⟨[(10, I64 ((openN key i e d t:Int)))], ?_⟩
     show DP _ _ _ _ _ _ _ _ [⟨nb1, cu8 key, 55, (0, 0)⟩, ⟨nb2, [U64 e] ++ cu8 d ++ cu8 t, 76, (0, 0)⟩, ⟨ynb0, cu8 (openBk key i e d t), 74, (0, 0)⟩, ⟨nb12, cu8 (openBk key i e d t), 74, (0, 0)⟩]
     refine DP_end ⟨[3, 4, 8, 9], [0, 1, 2, 5, 6, 7, 10], [0, 1, 2, 5, 6], [7, 10], []⟩ rfl rfl (by decide +kernel) rfl ⟨⟨_, rfl, Qok_val rfl (Ev_extract rfl rfl)⟩, ⟨_, rfl, Qok_val rfl (Ev_assign rfl)⟩, trivial⟩ ?_
     refine K_sub (F' := [(9, Ptr nb12 0), (10, I64 ((openN key i e d t:Int))), (1, U64 i), (5, Ptr nb2 0), (6, .bool false), (7, Ptr ynb0 0), (8, errV 43 (openN key i e d t))]) (Sub.cons (by kernel_rfl) (Sub.cons (by kernel_rfl) (Sub.cons (by kernel_rfl) (Sub.cons (by kernel_rfl) (Sub.cons (by kernel_rfl) (Sub.cons (by kernel_rfl) (Sub.cons (by kernel_rfl) (Sub.nil)))))))) ?_
     show JQ _ _ _ [(9, Ptr nb12 0), (10, I64 ((openN key i e d t:Int))), (1, U64 i), (5, Ptr nb2 0), (6, .bool false), (7, Ptr ynb0 0), (8, errV 43 (openN key i e d t))] _
     refine K_pick [1, 2, 3] (by decide) ?_
     show JQ _ _ _ _ [⟨nb2, [U64 e] ++ cu8 d ++ cu8 t, 76, (0, 0)⟩, ⟨ynb0, cu8 (openBk key i e d t), 74, (0, 0)⟩, ⟨nb12, cu8 (openBk key i e d t), 74, (0, 0)⟩]
     refine JQ_cut nb12 trivial (Sub.cons rfl (Sub.cons rfl (Sub.cons rfl (Sub.cons rfl (Sub.cons rfl (Sub.cons rfl (Sub.cons rfl (Sub.nil)))))))) rfl
    ·
     rintro v1 L1 ⟨nb11, hnb11, rfl, rfl⟩
     refine ⟨[], ?_⟩
     show DP _ _ _ _ _ _ _ _ [⟨nb1, cu8 key, 55, (0, 0)⟩, ⟨nb2, [U64 e] ++ cu8 d ++ cu8 t, 76, (0, 0)⟩, ⟨ynb0, cu8 (openBk key i e d t), 74, (0, 0)⟩, ⟨nb11, cu8 (zr8 32), 74, (0, 0)⟩]
     refine DP_one ⟨[3, 8], [0, 1, 2], [2], [0, 1], [4]⟩ 4 _ rfl rfl (by decide +kernel) rfl ⟨⟨_, rfl, Qok_val rfl (Ev_load rfl (Ld_agg Tryd.isAgg55 Tryd.sizeOf55 (len_cu8 hk) (MemAt.ent 0 rfl (Seg.whole _))))⟩, ⟨_, rfl, Qok_val rfl (Ev_move rfl)⟩, trivial⟩ rfl (Cok_step rfl (Step_callP 63 [.agg (cu8 key).toArray, U64 i, .agg (List.toArray (α := Value) ([U64 e] ++ cu8 d ++ cu8 t))] (.tuple #[.agg (cu8 (openBk key i e d t)).toArray, I64 ((openN key i e d t:Int))]) (Cl_func [.agg (cu8 key).toArray, U64 i, .agg (List.toArray (α := Value) ([U64 e] ++ cu8 d ++ cu8 t))] Tryd.call63 rfl) (fun w1 hw1 => ropen_w key i e d t w1 hk hd ht (GLr.at hw1 hGr) (GLi.at hw1 hGi)))) ?_
     rintro v1 L1 ⟨rfl, rfl⟩
     refine ⟨[(5, .tuple #[.agg (cu8 (openBk key i e d t)).toArray, I64 ((openN key i e d t:Int))]), (6, .agg (cu8 (openBk key i e d t)).toArray), (7, I64 ((openN key i e d t:Int)))], ?_⟩
     show DP _ _ _ _ _ _ _ _ [⟨nb1, cu8 key, 55, (0, 0)⟩, ⟨nb2, [U64 e] ++ cu8 d ++ cu8 t, 76, (0, 0)⟩, ⟨ynb0, cu8 (openBk key i e d t), 74, (0, 0)⟩, ⟨nb11, cu8 (zr8 32), 74, (0, 0)⟩]
     refine DP_one ⟨[3, 8, 4], [0, 1, 2, 5, 6, 7], [0, 1, 2], [5, 6, 7], [9]⟩ 9 _ rfl rfl (by decide +kernel) rfl ⟨⟨_, rfl, Qok_val rfl (Ev_move rfl)⟩, ⟨_, rfl, Qok_val rfl (Ev_extract rfl rfl)⟩, ⟨_, rfl, Qok_val rfl (Ev_extract rfl rfl)⟩, trivial⟩ rfl (Cok_step rfl (Step_store 3 nb11 0 32 (cu8 (zr8 32)) 74 (.agg (cu8 (openBk key i e d t)).toArray) (cu8 (openBk key i e d t)) (cu8 (openBk key i e d t)) rfl rfl rfl (by first | rfl | simp) Tryd.sizeOf74 (len_cu8 (openBk_len _ _ _ _ _)) (by first | exact one_u8 | exact one_u32 | exact one_u64 | (simp [cu8, cu32, cu64, Value.oneCell']; done)) (by simp [(zr8_len 32)]) (lay_whole (by simp [(zr8_len 32), (openBk_len _ _ _ _ _)])))) ?_
     rintro v1 L1 ⟨rfl, rfl⟩
     refine ⟨[(10, I64 ((openN key i e d t:Int)))], ?_⟩
     show DP _ _ _ _ _ _ _ _ [⟨nb1, cu8 key, 55, (0, 0)⟩, ⟨nb2, [U64 e] ++ cu8 d ++ cu8 t, 76, (0, 0)⟩, ⟨ynb0, cu8 (openBk key i e d t), 74, (0, 0)⟩, ⟨nb11, cu8 (openBk key i e d t), 74, (0, 0)⟩]
     refine DP_end ⟨[3, 8, 4, 9], [0, 1, 2, 5, 6, 7, 10], [0, 1, 2, 5, 6], [7, 10], []⟩ rfl rfl (by decide +kernel) rfl ⟨⟨_, rfl, Qok_val rfl (Ev_extract rfl rfl)⟩, ⟨_, rfl, Qok_val rfl (Ev_assign rfl)⟩, trivial⟩ ?_
     refine K_sub (F' := [(9, Ptr nb11 0), (10, I64 ((openN key i e d t:Int))), (1, U64 i), (5, Ptr nb2 0), (6, .bool false), (7, Ptr ynb0 0), (8, errV 43 (openN key i e d t))]) (Sub.cons (by kernel_rfl) (Sub.cons (by kernel_rfl) (Sub.cons (by kernel_rfl) (Sub.cons (by kernel_rfl) (Sub.cons (by kernel_rfl) (Sub.cons (by kernel_rfl) (Sub.cons (by kernel_rfl) (Sub.nil)))))))) ?_
     show JQ _ _ _ [(9, Ptr nb11 0), (10, I64 ((openN key i e d t:Int))), (1, U64 i), (5, Ptr nb2 0), (6, .bool false), (7, Ptr ynb0 0), (8, errV 43 (openN key i e d t))] _
     refine K_pick [1, 2, 3] (by decide) ?_
     show JQ _ _ _ _ [⟨nb2, [U64 e] ++ cu8 d ++ cu8 t, 76, (0, 0)⟩, ⟨ynb0, cu8 (openBk key i e d t), 74, (0, 0)⟩, ⟨nb11, cu8 (openBk key i e d t), 74, (0, 0)⟩]
     refine JQ_cut nb11 trivial (Sub.cons rfl (Sub.cons rfl (Sub.cons rfl (Sub.cons rfl (Sub.cons rfl (Sub.cons rfl (Sub.cons rfl (Sub.nil)))))))) rfl
   ·
    rintro v1 L1 ⟨nb10, hnb10, rfl, rfl⟩
    refine ⟨[], ?_⟩
    show DP _ _ _ _ _ _ _ _ [⟨nb1, cu8 key, 55, (0, 0)⟩, ⟨nb2, [U64 e] ++ cu8 d ++ cu8 t, 76, (0, 0)⟩, ⟨ynb0, cu8 (openBk key i e d t), 74, (0, 0)⟩, ⟨nb10, cu8 (zr8 32), 74, (0, 0)⟩]
    refine DP_one ⟨[8], [0, 1, 2], [], [0, 1, 2], [3]⟩ 3 _ rfl rfl (by decide +kernel) rfl ⟨⟨_, rfl, Qok_val rfl (Ev_load rfl (Ld_agg Tryd.isAgg55 Tryd.sizeOf55 (len_cu8 hk) (MemAt.ent 0 rfl (Seg.whole _))))⟩, ⟨_, rfl, Qok_val rfl (Ev_move rfl)⟩, ⟨_, rfl, Qok_val rfl (Ev_load rfl (Ld_agg Tryd.isAgg76 Tryd.sizeOf76 (by simp [hd, ht]) (MemAt.ent 1 rfl (Seg.whole _))))⟩, trivial⟩ rfl (Cok_step rfl (Step_callP 61 [.agg (List.toArray (α := Value) ([U64 e] ++ cu8 d ++ cu8 t))] (.agg (List.toArray (α := Value) ([U64 e] ++ cu8 d ++ cu8 t))) (Cl_func [.agg (List.toArray (α := Value) ([U64 e] ++ cu8 d ++ cu8 t))] Tryd.call61 rfl) (fun w1 hw1 => doc7_c e d t w1 hd ht))) ?_
    rintro v1 L1 ⟨rfl, rfl⟩
    refine ⟨[], ?_⟩
    show DP _ _ _ _ _ _ _ _ [⟨nb1, cu8 key, 55, (0, 0)⟩, ⟨nb2, [U64 e] ++ cu8 d ++ cu8 t, 76, (0, 0)⟩, ⟨ynb0, cu8 (openBk key i e d t), 74, (0, 0)⟩, ⟨nb10, cu8 (zr8 32), 74, (0, 0)⟩]
    refine DP_one ⟨[8, 3], [0, 1, 2], [2], [0, 1], [4]⟩ 4 _ rfl rfl (by decide +kernel) rfl ⟨⟨_, rfl, Qok_val rfl (Ev_load rfl (Ld_agg Tryd.isAgg55 Tryd.sizeOf55 (len_cu8 hk) (MemAt.ent 0 rfl (Seg.whole _))))⟩, ⟨_, rfl, Qok_val rfl (Ev_move rfl)⟩, trivial⟩ rfl (Cok_step rfl (Step_callP 63 [.agg (cu8 key).toArray, U64 i, .agg (List.toArray (α := Value) ([U64 e] ++ cu8 d ++ cu8 t))] (.tuple #[.agg (cu8 (openBk key i e d t)).toArray, I64 ((openN key i e d t:Int))]) (Cl_func [.agg (cu8 key).toArray, U64 i, .agg (List.toArray (α := Value) ([U64 e] ++ cu8 d ++ cu8 t))] Tryd.call63 rfl) (fun w1 hw1 => ropen_w key i e d t w1 hk hd ht (GLr.at hw1 hGr) (GLi.at hw1 hGi)))) ?_
    rintro v1 L1 ⟨rfl, rfl⟩
    refine ⟨[(5, .tuple #[.agg (cu8 (openBk key i e d t)).toArray, I64 ((openN key i e d t:Int))]), (6, .agg (cu8 (openBk key i e d t)).toArray), (7, I64 ((openN key i e d t:Int)))], ?_⟩
    show DP _ _ _ _ _ _ _ _ [⟨nb1, cu8 key, 55, (0, 0)⟩, ⟨nb2, [U64 e] ++ cu8 d ++ cu8 t, 76, (0, 0)⟩, ⟨ynb0, cu8 (openBk key i e d t), 74, (0, 0)⟩, ⟨nb10, cu8 (zr8 32), 74, (0, 0)⟩]
    refine DP_one ⟨[8, 3, 4], [0, 1, 2, 5, 6, 7], [0, 1, 2], [5, 6, 7], [9]⟩ 9 _ rfl rfl (by decide +kernel) rfl ⟨⟨_, rfl, Qok_val rfl (Ev_move rfl)⟩, ⟨_, rfl, Qok_val rfl (Ev_extract rfl rfl)⟩, ⟨_, rfl, Qok_val rfl (Ev_extract rfl rfl)⟩, trivial⟩ rfl (Cok_step rfl (Step_store 3 nb10 0 32 (cu8 (zr8 32)) 74 (.agg (cu8 (openBk key i e d t)).toArray) (cu8 (openBk key i e d t)) (cu8 (openBk key i e d t)) rfl rfl rfl (by first | rfl | simp) Tryd.sizeOf74 (len_cu8 (openBk_len _ _ _ _ _)) (by first | exact one_u8 | exact one_u32 | exact one_u64 | (simp [cu8, cu32, cu64, Value.oneCell']; done)) (by simp [(zr8_len 32)]) (lay_whole (by simp [(zr8_len 32), (openBk_len _ _ _ _ _)])))) ?_
    rintro v1 L1 ⟨rfl, rfl⟩
    refine ⟨[(10, I64 ((openN key i e d t:Int)))], ?_⟩
    show DP _ _ _ _ _ _ _ _ [⟨nb1, cu8 key, 55, (0, 0)⟩, ⟨nb2, [U64 e] ++ cu8 d ++ cu8 t, 76, (0, 0)⟩, ⟨ynb0, cu8 (openBk key i e d t), 74, (0, 0)⟩, ⟨nb10, cu8 (openBk key i e d t), 74, (0, 0)⟩]
    refine DP_end ⟨[8, 3, 4, 9], [0, 1, 2, 5, 6, 7, 10], [0, 1, 2, 5, 6], [7, 10], []⟩ rfl rfl (by decide +kernel) rfl ⟨⟨_, rfl, Qok_val rfl (Ev_extract rfl rfl)⟩, ⟨_, rfl, Qok_val rfl (Ev_assign rfl)⟩, trivial⟩ ?_
    refine K_sub (F' := [(9, Ptr nb10 0), (10, I64 ((openN key i e d t:Int))), (1, U64 i), (5, Ptr nb2 0), (6, .bool false), (7, Ptr ynb0 0), (8, errV 43 (openN key i e d t))]) (Sub.cons (by kernel_rfl) (Sub.cons (by kernel_rfl) (Sub.cons (by kernel_rfl) (Sub.cons (by kernel_rfl) (Sub.cons (by kernel_rfl) (Sub.cons (by kernel_rfl) (Sub.cons (by kernel_rfl) (Sub.nil)))))))) ?_
    show JQ _ _ _ [(9, Ptr nb10 0), (10, I64 ((openN key i e d t:Int))), (1, U64 i), (5, Ptr nb2 0), (6, .bool false), (7, Ptr ynb0 0), (8, errV 43 (openN key i e d t))] _
    refine K_pick [1, 2, 3] (by decide) ?_
    show JQ _ _ _ _ [⟨nb2, [U64 e] ++ cu8 d ++ cu8 t, 76, (0, 0)⟩, ⟨ynb0, cu8 (openBk key i e d t), 74, (0, 0)⟩, ⟨nb10, cu8 (openBk key i e d t), 74, (0, 0)⟩]
    refine JQ_cut nb10 trivial (Sub.cons rfl (Sub.cons rfl (Sub.cons rfl (Sub.cons rfl (Sub.cons rfl (Sub.cons rfl (Sub.cons rfl (Sub.nil)))))))) rfl
  ·
   rintro yq1_nb0 _
   show JQ _ _ _ [(1, U64 i), (5, Ptr nb2 0), (6, .bool false), (7, Ptr ynb0 0), (8, errV 43 (openN key i e d t)), (9, Ptr yq1_nb0 0), (10, I64 ((openN key i e d t:Int)))] [⟨nb2, [U64 e] ++ cu8 d ++ cu8 t, 76, (0, 0)⟩, ⟨ynb0, cu8 (openBk key i e d t), 74, (0, 0)⟩, ⟨yq1_nb0, cu8 (openBk key i e d t), 74, (0, 0)⟩]
   refine JQ_then ?_
   refine JC_seq ?_
   refine JC_region ?_
   refine JL_val _ (Ev_assign rfl) rfl ?_
   refine JL_nil ?_
   refine JQ_then ?_
   refine JC_seq ?_
   refine JC_region ?_
   refine JL_val _ (Ev_move rfl) rfl ?_
   refine JL_val _ (Ev_move rfl) rfl ?_
   refine JL_val (.agg (List.toArray (α := Value) ([U64 e] ++ cu8 d ++ cu8 t))) (Ev_load rfl (Ld_agg Tryd.isAgg76 Tryd.sizeOf76 (by simp [hd, ht]) (MemAt.ent 0 rfl (Seg.whole _)))) rfl ?_
   refine JL_step (Step_callP 62 [.pointer none, U64 i, .agg (List.toArray (α := Value) ([U64 e] ++ cu8 d ++ cu8 t))] (.tuple #[.agg (cu8 (openBk (zr8 16) i e d t)).toArray, errV 43 (openN (zr8 16) i e d t)]) (Cl_func [.pointer none, U64 i, .agg (List.toArray (α := Value) ([U64 e] ++ cu8 d ++ cu8 t))] Tryd.call62 rfl) (fun w1 hw1 => openn_w i e d t w1 (hG.at hw1) hd ht)) rfl ?_
   rintro v1 L1 ⟨rfl, rfl⟩
   show JL _ _ _ _ ((38, .tuple #[.agg (cu8 (openBk (zr8 16) i e d t)).toArray, errV 43 (openN (zr8 16) i e d t)]) :: _) [⟨nb2, [U64 e] ++ cu8 d ++ cu8 t, 76, (0, 0)⟩, ⟨ynb0, cu8 (openBk key i e d t), 74, (0, 0)⟩, ⟨yq1_nb0, cu8 (openBk key i e d t), 74, (0, 0)⟩]
   refine JL_val _ (Ev_move rfl) rfl ?_
   refine JL_val _ (Ev_extract rfl rfl) rfl ?_
   refine JL_val _ (Ev_extract rfl rfl) rfl ?_
   refine JL_step (Step_alloc _ (cu8 (zr8 32)) Tryd.zeroValue74 (by kernel_rfl)) rfl ?_
   rintro v1 L1 ⟨nb13, hnb13, rfl, rfl⟩
   show JL _ _ _ _ ((12, Ptr nb13 0) :: _) [⟨nb2, [U64 e] ++ cu8 d ++ cu8 t, 76, (0, 0)⟩, ⟨ynb0, cu8 (openBk key i e d t), 74, (0, 0)⟩, ⟨yq1_nb0, cu8 (openBk key i e d t), 74, (0, 0)⟩, ⟨nb13, cu8 (zr8 32), 74, (0, 0)⟩]
   refine JL_step (Step_store 3 nb13 0 32 (cu8 (zr8 32)) 74 (.agg (cu8 (openBk (zr8 16) i e d t)).toArray) (cu8 (openBk (zr8 16) i e d t)) (cu8 (openBk (zr8 16) i e d t)) rfl rfl rfl (by first | rfl | simp) Tryd.sizeOf74 (len_cu8 (openBk_len _ _ _ _ _)) (by first | exact one_u8 | exact one_u32 | exact one_u64 | (simp [cu8, cu32, cu64, Value.oneCell']; done)) (by simp [(zr8_len 32)]) (lay_whole (by simp [(zr8_len 32), (openBk_len _ _ _ _ _)]))) rfl ?_
   rintro v1 L1 ⟨rfl, rfl⟩
   show JL _ _ _ _ _ [⟨nb2, [U64 e] ++ cu8 d ++ cu8 t, 76, (0, 0)⟩, ⟨ynb0, cu8 (openBk key i e d t), 74, (0, 0)⟩, ⟨yq1_nb0, cu8 (openBk key i e d t), 74, (0, 0)⟩, ⟨nb13, cu8 (openBk (zr8 16) i e d t), 74, (0, 0)⟩]
   refine JL_val _ (Ev_assign rfl) rfl ?_
   refine JL_nil ?_
   refine JQ_then ?_
   refine JC_seq ?_
   refine JC_region ?_
   refine JL_val (.agg (cu8 (zr8 16)).toArray) (Ev_build [] _ rfl (fun _ => by kernel_rfl)) rfl ?_
   refine JL_val _ (Ev_move rfl) rfl ?_
   refine JL_val (.agg (List.toArray (α := Value) ([U64 e] ++ cu8 d ++ cu8 t))) (Ev_load rfl (Ld_agg Tryd.isAgg76 Tryd.sizeOf76 (by simp [hd, ht]) (MemAt.ent 0 rfl (Seg.whole _)))) rfl ?_
   refine JL_step (Step_callP 61 [.agg (List.toArray (α := Value) ([U64 e] ++ cu8 d ++ cu8 t))] (.agg (List.toArray (α := Value) ([U64 e] ++ cu8 d ++ cu8 t))) (Cl_func [.agg (List.toArray (α := Value) ([U64 e] ++ cu8 d ++ cu8 t))] Tryd.call61 rfl) (fun w1 hw1 => doc7_c e d t w1 hd ht)) rfl ?_
   rintro v1 L1 ⟨rfl, rfl⟩
   show JL _ _ _ _ ((45, .agg (List.toArray (α := Value) ([U64 e] ++ cu8 d ++ cu8 t))) :: _) [⟨nb2, [U64 e] ++ cu8 d ++ cu8 t, 76, (0, 0)⟩, ⟨ynb0, cu8 (openBk key i e d t), 74, (0, 0)⟩, ⟨yq1_nb0, cu8 (openBk key i e d t), 74, (0, 0)⟩, ⟨nb13, cu8 (openBk (zr8 16) i e d t), 74, (0, 0)⟩]
   refine JL_step (Step_callP 63 [.agg (cu8 (zr8 16)).toArray, U64 i, .agg (List.toArray (α := Value) ([U64 e] ++ cu8 d ++ cu8 t))] (.tuple #[.agg (cu8 (openBk (zr8 16) i e d t)).toArray, I64 ((openN (zr8 16) i e d t:Int))]) (Cl_func [.agg (cu8 (zr8 16)).toArray, U64 i, .agg (List.toArray (α := Value) ([U64 e] ++ cu8 d ++ cu8 t))] Tryd.call63 rfl) (fun w1 hw1 => ropen_w (zr8 16) i e d t w1 (zr8_len 16) hd ht (GLr.at hw1 hGr) (GLi.at hw1 hGi))) rfl ?_
   rintro v1 L1 ⟨rfl, rfl⟩
   show JL _ _ _ _ ((46, .tuple #[.agg (cu8 (openBk (zr8 16) i e d t)).toArray, I64 ((openN (zr8 16) i e d t:Int))]) :: _) [⟨nb2, [U64 e] ++ cu8 d ++ cu8 t, 76, (0, 0)⟩, ⟨ynb0, cu8 (openBk key i e d t), 74, (0, 0)⟩, ⟨yq1_nb0, cu8 (openBk key i e d t), 74, (0, 0)⟩, ⟨nb13, cu8 (openBk (zr8 16) i e d t), 74, (0, 0)⟩]
   refine JL_val _ (Ev_move rfl) rfl ?_
   refine JL_val _ (Ev_extract rfl rfl) rfl ?_
   refine JL_val _ (Ev_extract rfl rfl) rfl ?_
   refine JL_step (Step_alloc _ (cu8 (zr8 32)) Tryd.zeroValue74 (by kernel_rfl)) rfl ?_
   rintro v1 L1 ⟨nb14, hnb14, rfl, rfl⟩
   show JL _ _ _ _ ((14, Ptr nb14 0) :: _) [⟨nb2, [U64 e] ++ cu8 d ++ cu8 t, 76, (0, 0)⟩, ⟨ynb0, cu8 (openBk key i e d t), 74, (0, 0)⟩, ⟨yq1_nb0, cu8 (openBk key i e d t), 74, (0, 0)⟩, ⟨nb13, cu8 (openBk (zr8 16) i e d t), 74, (0, 0)⟩, ⟨nb14, cu8 (zr8 32), 74, (0, 0)⟩]
   refine JL_step (Step_store 4 nb14 0 32 (cu8 (zr8 32)) 74 (.agg (cu8 (openBk (zr8 16) i e d t)).toArray) (cu8 (openBk (zr8 16) i e d t)) (cu8 (openBk (zr8 16) i e d t)) rfl rfl rfl (by first | rfl | simp) Tryd.sizeOf74 (len_cu8 (openBk_len _ _ _ _ _)) (by first | exact one_u8 | exact one_u32 | exact one_u64 | (simp [cu8, cu32, cu64, Value.oneCell']; done)) (by simp [(zr8_len 32)]) (lay_whole (by simp [(zr8_len 32), (openBk_len _ _ _ _ _)]))) rfl ?_
   rintro v1 L1 ⟨rfl, rfl⟩
   show JL _ _ _ _ _ [⟨nb2, [U64 e] ++ cu8 d ++ cu8 t, 76, (0, 0)⟩, ⟨ynb0, cu8 (openBk key i e d t), 74, (0, 0)⟩, ⟨yq1_nb0, cu8 (openBk key i e d t), 74, (0, 0)⟩, ⟨nb13, cu8 (openBk (zr8 16) i e d t), 74, (0, 0)⟩, ⟨nb14, cu8 (openBk (zr8 16) i e d t), 74, (0, 0)⟩]
   refine JL_val _ (Ev_assign rfl) rfl ?_
   refine JL_nil ?_
   refine JQ_then ?_
   refine JC_seq ?_
   refine JC_region ?_
   refine JL_val (.agg (cu8 (openBk key i e d t)).toArray) (Ev_load rfl (Ld_agg Tryd.isAgg74 Tryd.sizeOf74 (len_cu8 (openBk_len _ _ _ _ _)) (MemAt.ent 1 rfl (Seg.whole _)))) rfl ?_
   refine JL_val (.agg (cu8 (openBk key i e d t)).toArray) (Ev_load rfl (Ld_agg Tryd.isAgg74 Tryd.sizeOf74 (len_cu8 (openBk_len _ _ _ _ _)) (MemAt.ent 2 rfl (Seg.whole _)))) rfl ?_
   refine JL_val (.bool (decide ((openBk key i e d t) = (openBk key i e d t)))) (Ev_bin _ _ _ rfl rfl (fun _ => eqGuard_agg _ _ _ _ _ _ (by kernel_rfl)) fun _ => eql_arr8 Tryd.underlying74 Tryd.underlying5 Tryd.isAgg5 Tryd.cells5 Tryd.has5 (by simp [(openBk_len _ _ _ _ _)]) (by simp [(openBk_len _ _ _ _ _)])) rfl ?_
   refine JL_val _ (Ev_move rfl) rfl ?_
   refine JL_gval 3 52 true _ _ rfl rfl (decide_eq_true rfl) (Ev_move rfl) rfl ?_
   refine JL_gstep 3 52 true _ rfl rfl (decide_eq_true rfl) (Step_callP 64 [errV 43 (openN key i e d t)] (I64 ((openN key i e d t:Int))) (Cl_func [errV 43 (openN key i e d t)] Tryd.call64 rfl) (fun w1 hw1 => errNum_w (openN key i e d t) w1)) rfl ?_
   rintro v1 L1 ⟨rfl, rfl⟩
   show JL _ _ _ _ ((54, I64 ((openN key i e d t:Int))) :: _) [⟨nb2, [U64 e] ++ cu8 d ++ cu8 t, 76, (0, 0)⟩, ⟨ynb0, cu8 (openBk key i e d t), 74, (0, 0)⟩, ⟨yq1_nb0, cu8 (openBk key i e d t), 74, (0, 0)⟩, ⟨nb13, cu8 (openBk (zr8 16) i e d t), 74, (0, 0)⟩, ⟨nb14, cu8 (openBk (zr8 16) i e d t), 74, (0, 0)⟩]
   refine JL_gval 3 52 true _ _ rfl rfl (decide_eq_true rfl) (Ev_move rfl) rfl ?_
   refine JL_gval 3 52 true _ (.bool (decide (((openN key i e d t:Int)) = ((openN key i e d t:Int))))) rfl rfl (decide_eq_true rfl) (Ev_bini rfl rfl fun _ => bin_eql_i _ _) rfl ?_
   refine JL_val _ (Ev_pickT _ rfl (decide_eq_true rfl) rfl) rfl ?_
   refine JL_val _ (Ev_move rfl) rfl ?_
   refine JL_gval 9 58 true _ (.agg (cu8 (openBk (zr8 16) i e d t)).toArray) rfl rfl (by simp) (Ev_load rfl (Ld_agg Tryd.isAgg74 Tryd.sizeOf74 (len_cu8 (openBk_len _ _ _ _ _)) (MemAt.ent 3 rfl (Seg.whole _)))) rfl ?_
   refine JL_gval 9 58 true _ (.agg (cu8 (openBk (zr8 16) i e d t)).toArray) rfl rfl (by simp) (Ev_load rfl (Ld_agg Tryd.isAgg74 Tryd.sizeOf74 (len_cu8 (openBk_len _ _ _ _ _)) (MemAt.ent 4 rfl (Seg.whole _)))) rfl ?_
   refine JL_gval 9 58 true _ (.bool (decide ((openBk (zr8 16) i e d t) = (openBk (zr8 16) i e d t)))) rfl rfl (by simp) (Ev_bin _ _ _ rfl rfl (fun _ => eqGuard_agg _ _ _ _ _ _ (by kernel_rfl)) fun _ => eql_arr8 Tryd.underlying74 Tryd.underlying5 Tryd.isAgg5 Tryd.cells5 Tryd.has5 (by simp [(openBk_len _ _ _ _ _)]) (by simp [(openBk_len _ _ _ _ _)])) rfl ?_
   refine JL_val _ (Ev_pickT _ rfl (by simp) rfl) rfl ?_
   refine JL_val _ (Ev_move rfl) rfl ?_
   refine JL_gval 14 63 true _ _ rfl rfl (decide_eq_true rfl) (Ev_move rfl) rfl ?_
   refine JL_gstep 14 63 true _ rfl rfl (decide_eq_true rfl) (Step_callP 64 [errV 43 (openN (zr8 16) i e d t)] (I64 ((openN (zr8 16) i e d t:Int))) (Cl_func [errV 43 (openN (zr8 16) i e d t)] Tryd.call64 rfl) (fun w1 hw1 => errNum_w (openN (zr8 16) i e d t) w1)) rfl ?_
   rintro v1 L1 ⟨rfl, rfl⟩
   show JL _ _ _ _ ((65, I64 ((openN (zr8 16) i e d t:Int))) :: _) [⟨nb2, [U64 e] ++ cu8 d ++ cu8 t, 76, (0, 0)⟩, ⟨ynb0, cu8 (openBk key i e d t), 74, (0, 0)⟩, ⟨yq1_nb0, cu8 (openBk key i e d t), 74, (0, 0)⟩, ⟨nb13, cu8 (openBk (zr8 16) i e d t), 74, (0, 0)⟩, ⟨nb14, cu8 (openBk (zr8 16) i e d t), 74, (0, 0)⟩]
   refine JL_gval 14 63 true _ _ rfl rfl (decide_eq_true rfl) (Ev_move rfl) rfl ?_
   refine JL_gval 14 63 true _ (.bool (decide (((openN (zr8 16) i e d t:Int)) = ((openN (zr8 16) i e d t:Int))))) rfl rfl (decide_eq_true rfl) (Ev_bini rfl rfl fun _ => bin_eql_i _ _) rfl ?_
   refine JL_val _ (Ev_pickT _ rfl (decide_eq_true rfl) rfl) rfl ?_
   refine JL_val _ (Ev_assign rfl) rfl ?_
   refine JL_nil ?_
   refine JQ_then ?_
   refine JC_ret ?_
   refine JQ_ret (.bool (decide (((openN (zr8 16) i e d t:Int)) = ((openN (zr8 16) i e d t:Int))))) (res1 Tryd.results15 (RV_tmp rfl)) fun w1 hw1 => ?_
   exact ⟨_, [], rfl, ⟨by rw [show (decide (((openN (zr8 16) i e d t:Int)) = ((openN (zr8 16) i e d t:Int)))) = true from (by simp)], rfl⟩, hw1.sub (by simp) (by simp)⟩
end Go.Proofs.YtncoifiafklkjaaDoor
