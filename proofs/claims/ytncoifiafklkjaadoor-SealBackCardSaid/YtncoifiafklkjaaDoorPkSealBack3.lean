import Derived.Deep.Slices
import Derived.Lib.LaidTab
import Derived.MakeChecks
import Derived.Shelf.Bytes.SlJoin
import Derived.Laws.IdiomStrings
import Derived.LaidEql
import Derived.Test.YtncoifiafklkjaaDoorPkSealBack2
namespace Go.Proofs.YtncoifiafklkjaaDoor
open Go Go.Sx
set_option linter.unusedVariables false
set_option linter.unusedSimpArgs false
set_option maxRecDepth 100000
attribute [local irreducible] mid zr8 zr32 rotr wordL spreadL comprL cpN adN spN wrdN constL initL
theorem scloneNil_c  (w : World) : Calls Tryd.prog 84 #[.slice none 0 0] w (Post w [] (fun v L => v = .slice none 0 0 ∧ L = [])) := by
 refine enter w [] 8 [] [.slice none 0 0] Tryd.func84 rfl rfl (by simp) (Hp.start (by simp) (by simp) (by simp)) ?_
 show JC _ _ _ [(0, .slice none 0 0)] _
 refine JC_seq ?_
 refine JC_region ?_
 refine JL_val _ (Ev_assign rfl) rfl ?_
 refine JL_nil ?_
 refine JQ_then ?_
 refine JC_seq ?_
 refine JC_seq ?_
 refine JC_region ?_
 refine JL_val _ (Ev_move rfl) rfl ?_
 refine JL_val (.bool true) (Ev_bin _ _ _ rfl rfl (fun _ => eqGuard_sl ..) fun _ => eql_sl_nil_nil Tryd.underlying22) rfl ?_
 refine JL_nil ?_
 refine JQ_then ?_
 refine JC_condT _ rfl rfl ?_
 refine JC_seq ?_
 refine JC_region ?_
 refine JL_val _ (Ev_assign rfl) rfl ?_
 refine JL_nil ?_
 refine JQ_then ?_
 refine JC_ret ?_
 refine JQ_then_ret ?_
 refine JQ_ret (.slice none 0 0) (res1 Tryd.results84 (RV_tmp rfl)) fun w1 hw1 => ?_
 exact ⟨_, [], rfl, ⟨rfl, rfl⟩, hw1.sub (by simp) (by simp)⟩
theorem sclone_c (ao : Option Addr) (n cb : Nat) (b : List UInt8) (w : World) (ha : ao.isNone = false) (hb : b.length = n) (hn : n ≤ 35184372088832) (hr : RdB w [] ao b) : Calls Tryd.prog 84 #[.slice ao n cb] w (Post w [] (fun v L => ∃ g sp cap, v = Slc g 0 n cap ∧ L = [⟨g, cu8 (b) ++ sp, 5, (0, 0)⟩] ∧ sp.length = cap - n ∧ n ≤ cap ∧ cap ≤ maxLen)) := by
 refine enter w [] 8 [] [.slice ao n cb] Tryd.func84 rfl rfl (by simp) (Hp.start (by simp) (by simp) (by simp)) ?_
 show JC _ _ _ [(0, .slice ao n cb)] _
 refine JC_seq ?_
 refine JC_region ?_
 refine JL_val _ (Ev_assign rfl) rfl ?_
 refine JL_nil ?_
 refine JQ_then ?_
 refine JC_seq ?_
 refine JC_seq ?_
 refine JC_region ?_
 refine JL_val _ (Ev_move rfl) rfl ?_
 refine JL_val (.bool ao.isNone) (Ev_bin _ _ _ rfl rfl (fun _ => eqGuard_sl ..) fun _ => eql_sl_any Tryd.underlying22) rfl ?_
 refine JL_nil ?_
 refine JQ_then ?_
 refine JC_condF _ rfl ha ?_
 refine JC_skip ?_
 refine JQ_then ?_
 refine JC_seq ?_
 refine JC_region ?_
 refine JL_step (Step_buildSlice0 5 1 Tryd.underlying22 Tryd.sizeOf5) rfl ?_
 rintro v1 L1 ⟨nb1, hnb1, rfl, rfl⟩
 show JL _ _ _ _ ((5, Slc nb1 0 0 0) :: _) [⟨nb1, [], 5, (0, 0)⟩]
 refine JL_val _ (Ev_move rfl) rfl ?_
 refine JL_step (Step_appM8 22 5 [true] (Slc nb1 0 0 0) 0 ([] : List UInt8) b ao n cb n Tryd.underlying22 Tryd.info5 rfl (.inr ⟨nb1, [], 0, rfl, (by simp [take?, cu8, cu32, cu64]), rfl, (by simp), (by omega), (by unfold maxLen; omega)⟩) rfl (by simp [hb]; try omega) (hr.src) (by omega) (by unfold maxLen; omega) (by omega)) rfl ?_
 rintro v1 L1 ⟨nb2, sp1, cp1, hg1, rfl, rfl, ha1, ha2, ha3, ha4⟩
 show JL _ _ _ _ ((7, Slc nb2 0 n cp1) :: _) [⟨nb2, cu8 (([] : List UInt8) ++ b) ++ sp1, 5, (0, 0)⟩]
 refine JL_val _ (Ev_assign rfl) rfl ?_
 refine JL_nil ?_
 refine JQ_then ?_
 refine JC_ret ?_
 refine JQ_ret (Slc nb2 0 n cp1) (res1 Tryd.results84 (RV_tmp rfl)) fun w1 hw1 => ?_
 exact ⟨_, _, rfl, ⟨nb2, sp1, cp1, rfl, rfl, ha2, ha3, ha4⟩, hw1⟩
theorem bclone_c (ao : Option Addr) (n cb : Nat) (b : List UInt8) (w : World) (ha : ao.isNone = false) (hb : b.length = n) (hn : n ≤ 35184372088832) (hr : RdB w [] ao b) : Calls Tryd.prog 96 #[.slice ao n cb] w (Post w [] (fun v L => ∃ g sp cap, v = Slc g 0 n cap ∧ L = [⟨g, cu8 (b) ++ sp, 5, (0, 0)⟩] ∧ sp.length = cap - n ∧ n ≤ cap ∧ cap ≤ maxLen)) := by
 refine enter w [] 8 [] [.slice ao n cb] Tryd.func96 rfl rfl (by simp) (Hp.start (by simp) (by simp) (by simp)) ?_
 show JC _ _ _ [(0, .slice ao n cb)] _
 refine JC_seq ?_
 refine JC_region ?_
 refine JL_val _ (Ev_assign rfl) rfl ?_
 refine JL_nil ?_
 refine JQ_then ?_
 refine JC_seq ?_
 refine JC_seq ?_
 refine JC_region ?_
 refine JL_val _ (Ev_move rfl) rfl ?_
 refine JL_val (.bool ao.isNone) (Ev_bin _ _ _ rfl rfl (fun _ => eqGuard_sl ..) fun _ => eql_sl_any Tryd.underlying22) rfl ?_
 refine JL_nil ?_
 refine JQ_then ?_
 refine JC_condF _ rfl ha ?_
 refine JC_skip ?_
 refine JQ_then ?_
 refine JC_seq ?_
 refine JC_region ?_
 refine JL_step (Step_buildSlice0 5 1 Tryd.underlying22 Tryd.sizeOf5) rfl ?_
 rintro v1 L1 ⟨nb1, hnb1, rfl, rfl⟩
 show JL _ _ _ _ ((5, Slc nb1 0 0 0) :: _) [⟨nb1, [], 5, (0, 0)⟩]
 refine JL_val _ (Ev_move rfl) rfl ?_
 refine JL_step (Step_appM8 22 5 [true] (Slc nb1 0 0 0) 0 ([] : List UInt8) b ao n cb n Tryd.underlying22 Tryd.info5 rfl (.inr ⟨nb1, [], 0, rfl, (by simp [take?, cu8, cu32, cu64]), rfl, (by simp), (by omega), (by unfold maxLen; omega)⟩) rfl (by simp [hb]; try omega) (hr.src) (by omega) (by unfold maxLen; omega) (by omega)) rfl ?_
 rintro v1 L1 ⟨nb2, sp1, cp1, hg1, rfl, rfl, ha1, ha2, ha3, ha4⟩
 show JL _ _ _ _ ((7, Slc nb2 0 n cp1) :: _) [⟨nb2, cu8 (([] : List UInt8) ++ b) ++ sp1, 5, (0, 0)⟩]
 refine JL_val _ (Ev_assign rfl) rfl ?_
 refine JL_nil ?_
 refine JQ_then ?_
 refine JC_ret ?_
 refine JQ_ret (Slc nb2 0 n cp1) (res1 Tryd.results96 (RV_tmp rfl)) fun w1 hw1 => ?_
 exact ⟨_, _, rfl, ⟨nb2, sp1, cp1, rfl, rfl, ha2, ha3, ha4⟩, hw1⟩
theorem slc_len {b o l l' c : Nat} (h : l = l') : Slc b o l c = Slc b o l' c := by rw [h]
theorem nzP_lt (n : Nat) : nzP n < 64 := by unfold nzP; omega
theorem nzP_def (n : Nat) : nzP n = (119 - n % 64) % 64 := rfl
theorem zr8_succ (j : Nat) : zr8 (j + 1) = zr8 j ++ [0] := by rw [zr8, zr8, List.replicate_succ']
theorem padNil_c  (w : World) : Calls Tryd.prog 26 #[.slice none 0 0] w (Post w [] (fun v L => ∃ g sp cap, v = Slc g 0 (padL ([] : List UInt8)).length cap ∧ L = [⟨g, cu8 (padL ([] : List UInt8)) ++ sp, 5, (0, 0)⟩] ∧ sp.length = cap - (padL ([] : List UInt8)).length ∧ (padL ([] : List UInt8)).length ≤ cap ∧ cap ≤ maxLen)) := by
 have hnz := nzP_lt 0
 have hnd := nzP_def 0
 refine enter w [] 31 [] [.slice none 0 0] Tryd.func26 rfl rfl (by simp) (Hp.start (by simp) (by simp) (by simp)) ?_
 show JC _ _ _ [(0, .slice none 0 0)] _
 refine JC_seq ?_
 refine JC_region ?_
 refine JL_val _ (Ev_assign rfl) rfl ?_
 refine JL_nil ?_
 refine JQ_then ?_
 refine JC_seq ?_
 refine JC_region ?_
 refine JL_val _ (Ev_move rfl) rfl ?_
 refine JL_step (Step_callP 84 [.slice none 0 0] (.slice none 0 0) (Cl_func [.slice none 0 0] Tryd.call84 rfl) (fun w1 hw1 => scloneNil_c w1)) rfl ?_
 rintro v1 L1 ⟨rfl, rfl⟩
 show JL _ _ _ _ ((6, .slice none 0 0) :: _) []
 refine JL_step (Step_buildSlice 5 1 _ [(0, U8 (128:UInt8))] (cu8 ([(128:UInt8)])) Tryd.underlying22 Tryd.sizeOf5 Tryd.zeroValue5 rfl rfl rfl (by kernel_rfl)) rfl ?_
 rintro v1 L1 ⟨nb1, hnb1, rfl, rfl⟩
 show JL _ _ _ _ ((7, Slc nb1 0 1 1) :: _) [⟨nb1, cu8 ([(128:UInt8)]), 5, (0, 0)⟩]
 refine JL_step (Step_appM8 22 5 [false] (.slice none 0 0) 0 ([] : List UInt8) ([(128:UInt8)]) (some ⟨nb1, 0, none⟩) 1 1 1 Tryd.underlying22 Tryd.info5 rfl (.inl ⟨rfl, rfl, rfl, rfl, by omega⟩) rfl (by simp) (SrcAt.mem (MemAt.ent 0 rfl (Seg.whole _))) (by omega) (by unfold maxLen; omega) (by omega)) rfl ?_
 rintro v1 L1 ⟨nb2, sp1, cp1, hg1, rfl, rfl, ha1, ha2, ha3, ha4⟩
 show JL _ _ _ _ ((8, Slc nb2 0 1 cp1) :: _) [⟨nb1, cu8 ([(128:UInt8)]), 5, (0, 0)⟩, ⟨nb2, cu8 (([] : List UInt8) ++ ([(128:UInt8)])) ++ sp1, 5, (0, 0)⟩]
 refine JL_val _ (Ev_assign rfl) rfl ?_
 refine JL_nil ?_
 refine JQ_then ?_
 refine JC_seq ?_
 refine JC_block ?_
 refine K_mask [false, true] ?_
 show JC _ _ _ _ [⟨nb2, cu8 (([] : List UInt8) ++ ([(128:UInt8)])) ++ sp1, 5, (0, 0)⟩]
 refine JC_loop (ι := Nat × List UInt8 × Nat × List Value × Nat) (fun ⟨j, o, g1, sp1, cp1⟩ => [(0, .slice none 0 0), (2, .slice none 0 0), (3, Slc g1 0 (j + 1) cp1)]) (fun ⟨j, o, g1, sp1, cp1⟩ => [⟨g1, cu8 o ++ sp1, 5, (0, 0)⟩]) (fun ⟨j, o, g1, sp1, cp1⟩ => j ≤ nzP 0 ∧ o = (([] : List UInt8) ++ [(128:UInt8)]) ++ zr8 j ∧ o.length = (j + 1) ∧ sp1.length = cp1 - (j + 1) ∧ (j + 1) ≤ cp1 ∧ cp1 ≤ maxLen) (fun ⟨j, o, g1, sp1, cp1⟩ => nzP 0 - j) (0, ([] : List UInt8) ++ ([(128:UInt8)]), nb2, sp1, cp1) ⟨by omega, by simp [zr8], by simp, by have := ha2; omega, by omega, ha4⟩ (Sub.cons rfl (Sub.cons rfl (Sub.cons (some_slc (by omega)) (Sub.nil)))) rfl ?_
 rintro ⟨j, o, g1, sp1, cp1⟩ ⟨hx1, hx2, ho, hx4, hx5, hx6⟩
 show JC _ _ _ [(0, .slice none 0 0), (2, .slice none 0 0), (3, Slc g1 0 (j + 1) cp1)] [⟨g1, cu8 o ++ sp1, 5, (0, 0)⟩]
 refine JC_seq ?_
 refine JC_seq ?_
 refine JC_region ?_
 refine JL_val _ (Ev_move rfl) rfl ?_
 refine JL_val (I64 ((j:Int) + 1)) (Ev_lenX Tryd.underlying22 rfl (by omega)) rfl ?_
 obtain ⟨dq1, hdq1, hdq1a, hdq1b⟩ : ∃ q : Nat, q = (j + 1) % 64 ∧ (q : Int) = ((j:Int) + 1) % 64 ∧ (q < 64) := ⟨_, rfl, by first | rfl | omega, by omega⟩
 refine JL_val (I64 ((dq1:Int))) (Ev_bini rfl rfl fun _ => bin_rem_i _ _ ((dq1:Int)) (by omega) (by omega) (by omega)) rfl ?_
 refine JL_val (.bool (decide (((dq1:Int)) ≠ (56:Int)))) (Ev_bini rfl rfl fun _ => bin_neq_i _ _) rfl ?_
 refine JL_nil ?_
 refine JQ_then ?_
 refine JC_cond (decide (((dq1:Int)) ≠ (56:Int))) rfl (fun hb1 => ?_) (fun hb1 => ?_)
 ·
  have hp1 : ((dq1:Int)) ≠ (56:Int) := of_decide_eq_true hb1
  refine JC_skip ?_
  refine JQ_then ?_
  refine JC_block ?_
  refine JC_region ?_
  refine JL_val _ (Ev_move rfl) rfl ?_
  refine JL_step (Step_buildSlice 5 1 _ [(0, U8 (0:UInt8))] (cu8 ([(0:UInt8)])) Tryd.underlying22 Tryd.sizeOf5 Tryd.zeroValue5 rfl rfl rfl (by kernel_rfl)) rfl ?_
  rintro v1 L1 ⟨nb3, hnb3, rfl, rfl⟩
  show JL _ _ _ _ ((14, Slc nb3 0 1 1) :: _) [⟨g1, cu8 o ++ sp1, 5, (0, 0)⟩, ⟨nb3, cu8 ([(0:UInt8)]), 5, (0, 0)⟩]
  refine JL_step (Step_appM8 22 5 [true, false] (Slc g1 0 (j + 1) cp1) (j + 1) o ([(0:UInt8)]) (some ⟨nb3, 0, none⟩) 1 1 (j + 2) Tryd.underlying22 Tryd.info5 rfl (.inr ⟨g1, sp1, cp1, rfl, rfl, (by first | exact ho | simp [ho]), hx4, (by omega), (by omega)⟩) rfl (by simp) (SrcAt.mem (MemAt.ent 1 rfl (Seg.whole _))) (by omega) (by unfold maxLen; omega) (by omega)) rfl ?_
  rintro v1 L1 ⟨nb4, sp2, cp2, hg2, rfl, rfl, ha5, ha6, ha7, ha8⟩
  show JL _ _ _ _ ((15, Slc nb4 0 (j + 2) cp2) :: _) [⟨nb3, cu8 ([(0:UInt8)]), 5, (0, 0)⟩, ⟨nb4, cu8 (o ++ ([(0:UInt8)])) ++ sp2, 5, (0, 0)⟩]
  refine JL_val _ (Ev_assign rfl) rfl ?_
  refine JL_nil ?_
  refine JQ_in_normal ?_
  refine JQ_thenK ?_
  refine K_mask [false, true] ?_
  show K _ _ [⟨nb4, cu8 (o ++ ([(0:UInt8)])) ++ sp2, 5, (0, 0)⟩] _
  refine K_next (j + 1, o ++ ([(0:UInt8)]), nb4, sp2, cp2) ⟨by omega, by rw [hx2, zr8_succ, List.append_assoc], (ha5).trans (by first | rfl | simp +arith), (ha6).trans (by first | rfl | simp +arith), by omega, ha8⟩ (by first | (simp; omega) | simp) (Sub.cons rfl (Sub.cons rfl (Sub.cons (some_slc (by omega)) (Sub.nil)))) rfl
 ·
  have hp1 : ¬ (((dq1:Int)) ≠ (56:Int)) := of_decide_eq_false hb1
  refine JC_exit ?_
  refine JQ_then_exit ?_
  refine JQ_then_exit ?_
  refine JQ_in_same ?_
  refine JQ_then ?_
  refine JC_seq ?_
  refine JC_seq ?_
  refine JC_region ?_
  refine JL_val _ (Ev_assign rfl) rfl ?_
  refine JL_nil ?_
  refine JQ_then ?_
  refine JC_block ?_
  have ej : j = nzP 0 := by omega
  have ejb : nzP 0 < 64 := by omega
  refine JC_loop (ι := Nat × List UInt8 × Nat × List Value × Nat) (fun ⟨i, o2, g2, sp2, cp2⟩ => [(0, .slice none 0 0), (2, .slice none 0 0), (3, Slc g2 0 (i + j + 1) cp2), (4, I64 (-8*(i:Int) + 56))]) (fun ⟨i, o2, g2, sp2, cp2⟩ => [⟨g2, cu8 o2 ++ sp2, 5, (0, 0)⟩]) (fun ⟨i, o2, g2, sp2, cp2⟩ => i ≤ 8 ∧ o2 = o ++ lenN 0 i ∧ o2.length = (i + j + 1) ∧ sp2.length = cp2 - (i + j + 1) ∧ (i + j + 1) ≤ cp2 ∧ cp2 ≤ maxLen) (fun ⟨i, o2, g2, sp2, cp2⟩ => 8 - i) (0, o, g1, sp1, cp1) ⟨by omega, by simp [lenN], by omega, by omega, by omega, hx6⟩ (Sub.cons rfl (Sub.cons rfl (Sub.cons (some_slc (by omega)) (Sub.cons (some_i64 (by omega)) (Sub.nil))))) rfl ?_
  rintro ⟨i, o2, g2, sp2, cp2⟩ ⟨hy1, hy2, ho2, hy4, hy5, hy6⟩
  show JC _ _ _ [(0, .slice none 0 0), (2, .slice none 0 0), (3, Slc g2 0 (i + j + 1) cp2), (4, I64 (-8*(i:Int) + 56))] [⟨g2, cu8 o2 ++ sp2, 5, (0, 0)⟩]
  refine JC_seq ?_
  refine JC_seq ?_
  refine JC_region ?_
  refine JL_val _ (Ev_move rfl) rfl ?_
  refine JL_val (.bool (decide ((0:Int) ≤ (-8*(i:Int) + 56)))) (Ev_bini rfl rfl fun _ => bin_geq_i _ _) rfl ?_
  refine JL_nil ?_
  refine JQ_then ?_
  refine JC_cond (decide ((0:Int) ≤ (-8*(i:Int) + 56))) rfl (fun hb2 => ?_) (fun hb2 => ?_)
  ·
   have hp2 : (0:Int) ≤ (-8*(i:Int) + 56) := of_decide_eq_true hb2
   refine JC_skip ?_
   refine JQ_then ?_
   refine JC_seq ?_
   refine JC_block ?_
   refine JC_region ?_
   refine JL_val _ (Ev_move rfl) rfl ?_
   refine JL_val _ (Ev_move rfl) rfl ?_
   refine JL_val (I64 (0:Int)) (Ev_len Tryd.underlying22 rfl) rfl ?_
   refine JL_val (U64 (0:UInt64)) (Ev_conv _ _ rfl fun _ => conv_lit (by rw [Tryd.underlying3]; rfl) Tryd.underlying58 rfl) rfl ?_
   refine JL_val (U64 ((8:UInt64) * (0:UInt64))) (Ev_bini rfl rfl fun _ => bin_mul_u64 (8:UInt64) (0:UInt64)) rfl ?_
   refine JL_val _ (Ev_move rfl) rfl ?_
   refine JL_val (U64 (((8:UInt64) * (0:UInt64)) >>> UInt64.ofNat (56 - 8*i))) (Ev_bini rfl rfl fun _ => bin_shr_u64 ((8:UInt64) * (0:UInt64)) _ _ (56 - 8*i) (by omega) (by omega)) rfl ?_
   refine JL_val (U8 ((((8:UInt64) * (0:UInt64)) >>> UInt64.ofNat (56 - 8*i)).toUInt8)) (Ev_conv _ _ rfl fun _ => conv_u64_u8 (by rw [Tryd.underlying58]; rfl) Tryd.underlying5 _) rfl ?_
   refine JL_step (Step_buildSlice 5 1 _ [(0, U8 ((((8:UInt64) * (0:UInt64)) >>> UInt64.ofNat (56 - 8*i)).toUInt8))] (cu8 ([(((8:UInt64) * (0:UInt64)) >>> UInt64.ofNat (56 - 8*i)).toUInt8])) Tryd.underlying22 Tryd.sizeOf5 Tryd.zeroValue5 rfl rfl rfl (by kernel_rfl)) rfl ?_
   rintro v1 L1 ⟨nb5, hnb5, rfl, rfl⟩
   show JL _ _ _ _ ((28, Slc nb5 0 1 1) :: _) [⟨g2, cu8 o2 ++ sp2, 5, (0, 0)⟩, ⟨nb5, cu8 ([(((8:UInt64) * (0:UInt64)) >>> UInt64.ofNat (56 - 8*i)).toUInt8]), 5, (0, 0)⟩]
   refine JL_step (Step_appM8 22 5 [true, false] (Slc g2 0 (i + j + 1) cp2) (i + j + 1) o2 ([(((8:UInt64) * (0:UInt64)) >>> UInt64.ofNat (56 - 8*i)).toUInt8]) (some ⟨nb5, 0, none⟩) 1 1 (i + j + 2) Tryd.underlying22 Tryd.info5 rfl (.inr ⟨g2, sp2, cp2, rfl, rfl, (by first | exact ho2 | simp [ho2]), hy4, (by omega), (by omega)⟩) rfl (by simp) (SrcAt.mem (MemAt.ent 1 rfl (Seg.whole _))) (by omega) (by unfold maxLen; omega) (by omega)) rfl ?_
   rintro v1 L1 ⟨nb6, sp3, cp3, hg3, rfl, rfl, ha9, ha10, ha11, ha12⟩
   show JL _ _ _ _ ((29, Slc nb6 0 (i + j + 2) cp3) :: _) [⟨nb5, cu8 ([(((8:UInt64) * (0:UInt64)) >>> UInt64.ofNat (56 - 8*i)).toUInt8]), 5, (0, 0)⟩, ⟨nb6, cu8 (o2 ++ ([(((8:UInt64) * (0:UInt64)) >>> UInt64.ofNat (56 - 8*i)).toUInt8])) ++ sp3, 5, (0, 0)⟩]
   refine JL_val _ (Ev_assign rfl) rfl ?_
   refine JL_nil ?_
   refine JQ_in_normal ?_
   refine JQ_then ?_
   refine JC_region ?_
   refine JL_val _ (Ev_move rfl) rfl ?_
   refine JL_val (I64 (-8*(i:Int) + 48)) (Ev_bini rfl rfl fun _ => bin_sub_i _ _ (-8*(i:Int) + 48) (by omega) (by omega)) rfl ?_
   refine JL_val _ (Ev_assign rfl) rfl ?_
   refine JL_nil ?_
   refine JQ_thenK ?_
   refine K_mask [false, true] ?_
   show K _ _ [⟨nb6, cu8 (o2 ++ ([(((8:UInt64) * (0:UInt64)) >>> UInt64.ofNat (56 - 8*i)).toUInt8])) ++ sp3, 5, (0, 0)⟩] _
   refine K_next (i + 1, o2 ++ ([(((8:UInt64) * (0:UInt64)) >>> UInt64.ofNat (56 - 8*i)).toUInt8]), nb6, sp3, cp3) ⟨by omega, by rw [hy2, lenN, List.append_assoc]; rfl, (ha9).trans (by first | rfl | simp +arith), (ha10).trans (by first | rfl | simp +arith), by omega, ha12⟩ (by first | (simp; omega) | simp) (Sub.cons rfl (Sub.cons rfl (Sub.cons (some_slc (by omega)) (Sub.cons (some_i64 (by omega)) (Sub.nil))))) rfl
  ·
   have hp2 : ¬ ((0:Int) ≤ (-8*(i:Int) + 56)) := of_decide_eq_false hb2
   refine JC_exit ?_
   refine JQ_then_exit ?_
   refine JQ_then_exit ?_
   refine JQ_in_same ?_
   refine JQ_then ?_
   refine JC_seq ?_
   refine JC_region ?_
   refine JL_val _ (Ev_move rfl) rfl ?_
   refine JL_val _ (Ev_assign rfl) rfl ?_
   refine JL_nil ?_
   refine JQ_then ?_
   refine JC_ret ?_
   refine JQ_ret (Slc g2 0 (i + j + 1) cp2) (res1 Tryd.results26 (RV_tmp rfl)) fun w1 hw1 => ?_
   have e1 : i = 8 := by omega
   subst e1
   have e2 : o2 = padL ([] : List UInt8) := by rw [hy2, hx2, padL, List.length_nil, ej]
   rw [e2] at hw1
   exact ⟨_, _, rfl, ⟨g2, sp2, cp2, slc_len (by rw [padL_len, List.length_nil, ← ej]; simp +arith), rfl, by rw [hy4]; rw [padL_len, List.length_nil, ← ej]; simp +arith, by refine Nat.le_trans (Nat.le_of_eq ?_) hy5; rw [padL_len, List.length_nil, ← ej]; simp +arith, hy6⟩, hw1.sub (by simp) (by simp)⟩
theorem pad_c (ao : Option Addr) (n cb : Nat) (b : List UInt8) (w : World) (ha : ao.isNone = false) (hb : b.length = n) (hn : n ≤ 17592186044416) (hr : RdB w [] ao b) : Calls Tryd.prog 26 #[.slice ao n cb] w (Post w [] (fun v L => ∃ g sp cap, v = Slc g 0 (padL b).length cap ∧ L = [⟨g, cu8 (padL b) ++ sp, 5, (0, 0)⟩] ∧ sp.length = cap - (padL b).length ∧ (padL b).length ≤ cap ∧ cap ≤ maxLen)) := by
 have hnz := nzP_lt n
 have hnd := nzP_def n
 refine enter w [] 31 [] [.slice ao n cb] Tryd.func26 rfl rfl (by simp) (Hp.start (by simp) (by simp) (by simp)) ?_
 show JC _ _ _ [(0, .slice ao n cb)] _
 refine JC_seq ?_
 refine JC_region ?_
 refine JL_val _ (Ev_assign rfl) rfl ?_
 refine JL_nil ?_
 refine JQ_then ?_
 refine JC_seq ?_
 refine JC_region ?_
 refine JL_val _ (Ev_move rfl) rfl ?_
 refine JL_step (Step_callN 84 [.slice ao n cb] _ (Cl_func [.slice ao n cb] Tryd.call84 rfl) (fun w1 hw1 => sclone_c ao n cb b w1 ha hb (by omega) (hr.at (M' := []) hw1 (by simp)))) rfl ?_
 rintro v1 L1 ⟨_, ⟨nb1, sp1, cp1, rfl, rfl, hc1, hc2, hc3⟩, rfl⟩
 show JL _ _ _ _ ((6, Slc nb1 0 n cp1) :: _) [⟨nb1, cu8 b ++ sp1, 5, (0, 0)⟩]
 refine JL_step (Step_buildSlice 5 1 _ [(0, U8 (128:UInt8))] (cu8 ([(128:UInt8)])) Tryd.underlying22 Tryd.sizeOf5 Tryd.zeroValue5 rfl rfl rfl (by kernel_rfl)) rfl ?_
 rintro v1 L1 ⟨nb2, hnb2, rfl, rfl⟩
 show JL _ _ _ _ ((7, Slc nb2 0 1 1) :: _) [⟨nb1, cu8 b ++ sp1, 5, (0, 0)⟩, ⟨nb2, cu8 ([(128:UInt8)]), 5, (0, 0)⟩]
 refine JL_step (Step_appM8 22 5 [true, false] (Slc nb1 0 n cp1) n b ([(128:UInt8)]) (some ⟨nb2, 0, none⟩) 1 1 (n + 1) Tryd.underlying22 Tryd.info5 rfl (.inr ⟨nb1, sp1, cp1, rfl, rfl, (by first | exact hb | simp [hb]), hc1, (by omega), (by omega)⟩) rfl (by simp) (SrcAt.mem (MemAt.ent 1 rfl (Seg.whole _))) (by omega) (by unfold maxLen; omega) (by omega)) rfl ?_
 rintro v1 L1 ⟨nb3, sp2, cp2, hg1, rfl, rfl, ha1, ha2, ha3, ha4⟩
 show JL _ _ _ _ ((8, Slc nb3 0 (n + 1) cp2) :: _) [⟨nb2, cu8 ([(128:UInt8)]), 5, (0, 0)⟩, ⟨nb3, cu8 (b ++ ([(128:UInt8)])) ++ sp2, 5, (0, 0)⟩]
 refine JL_val _ (Ev_assign rfl) rfl ?_
 refine JL_nil ?_
 refine JQ_then ?_
 refine JC_seq ?_
 refine JC_block ?_
 refine K_mask [false, true] ?_
 show JC _ _ _ _ [⟨nb3, cu8 (b ++ ([(128:UInt8)])) ++ sp2, 5, (0, 0)⟩]
 refine JC_loop (ι := Nat × List UInt8 × Nat × List Value × Nat) (fun ⟨j, o, g1, sp1, cp1⟩ => [(0, .slice ao n cb), (2, .slice none 0 0), (3, Slc g1 0 (j + n + 1) cp1)]) (fun ⟨j, o, g1, sp1, cp1⟩ => [⟨g1, cu8 o ++ sp1, 5, (0, 0)⟩]) (fun ⟨j, o, g1, sp1, cp1⟩ => j ≤ nzP n ∧ o = (b ++ [(128:UInt8)]) ++ zr8 j ∧ o.length = (j + n + 1) ∧ sp1.length = cp1 - (j + n + 1) ∧ (j + n + 1) ≤ cp1 ∧ cp1 ≤ maxLen) (fun ⟨j, o, g1, sp1, cp1⟩ => nzP n - j) (0, b ++ ([(128:UInt8)]), nb3, sp2, cp2) ⟨by omega, by simp [zr8], by simp [hb], by have := ha2; omega, by omega, ha4⟩ (Sub.cons rfl (Sub.cons rfl (Sub.cons (some_slc (by omega)) (Sub.nil)))) rfl ?_
 rintro ⟨j, o, g1, sp1, cp1⟩ ⟨hx1, hx2, ho, hx4, hx5, hx6⟩
 show JC _ _ _ [(0, .slice ao n cb), (2, .slice none 0 0), (3, Slc g1 0 (j + n + 1) cp1)] [⟨g1, cu8 o ++ sp1, 5, (0, 0)⟩]
 refine JC_seq ?_
 refine JC_seq ?_
 refine JC_region ?_
 refine JL_val _ (Ev_move rfl) rfl ?_
 refine JL_val (I64 ((j:Int) + (n:Int) + 1)) (Ev_lenX Tryd.underlying22 rfl (by omega)) rfl ?_
 obtain ⟨dq1, hdq1, hdq1a, hdq1b⟩ : ∃ q : Nat, q = (j + n + 1) % 64 ∧ (q : Int) = ((j:Int) + (n:Int) + 1) % 64 ∧ (q < 64) := ⟨_, rfl, by first | rfl | omega, by omega⟩
 refine JL_val (I64 ((dq1:Int))) (Ev_bini rfl rfl fun _ => bin_rem_i _ _ ((dq1:Int)) (by omega) (by omega) (by omega)) rfl ?_
 refine JL_val (.bool (decide (((dq1:Int)) ≠ (56:Int)))) (Ev_bini rfl rfl fun _ => bin_neq_i _ _) rfl ?_
 refine JL_nil ?_
 refine JQ_then ?_
 refine JC_cond (decide (((dq1:Int)) ≠ (56:Int))) rfl (fun hb1 => ?_) (fun hb1 => ?_)
 ·
  have hp1 : ((dq1:Int)) ≠ (56:Int) := of_decide_eq_true hb1
  refine JC_skip ?_
  refine JQ_then ?_
  refine JC_block ?_
  refine JC_region ?_
  refine JL_val _ (Ev_move rfl) rfl ?_
  refine JL_step (Step_buildSlice 5 1 _ [(0, U8 (0:UInt8))] (cu8 ([(0:UInt8)])) Tryd.underlying22 Tryd.sizeOf5 Tryd.zeroValue5 rfl rfl rfl (by kernel_rfl)) rfl ?_
  rintro v1 L1 ⟨nb4, hnb4, rfl, rfl⟩
  show JL _ _ _ _ ((14, Slc nb4 0 1 1) :: _) [⟨g1, cu8 o ++ sp1, 5, (0, 0)⟩, ⟨nb4, cu8 ([(0:UInt8)]), 5, (0, 0)⟩]
  refine JL_step (Step_appM8 22 5 [true, false] (Slc g1 0 (j + n + 1) cp1) (j + n + 1) o ([(0:UInt8)]) (some ⟨nb4, 0, none⟩) 1 1 (j + n + 2) Tryd.underlying22 Tryd.info5 rfl (.inr ⟨g1, sp1, cp1, rfl, rfl, (by first | exact ho | simp [ho]), hx4, (by omega), (by omega)⟩) rfl (by simp) (SrcAt.mem (MemAt.ent 1 rfl (Seg.whole _))) (by omega) (by unfold maxLen; omega) (by omega)) rfl ?_
  rintro v1 L1 ⟨nb5, sp3, cp3, hg2, rfl, rfl, ha5, ha6, ha7, ha8⟩
  show JL _ _ _ _ ((15, Slc nb5 0 (j + n + 2) cp3) :: _) [⟨nb4, cu8 ([(0:UInt8)]), 5, (0, 0)⟩, ⟨nb5, cu8 (o ++ ([(0:UInt8)])) ++ sp3, 5, (0, 0)⟩]
  refine JL_val _ (Ev_assign rfl) rfl ?_
  refine JL_nil ?_
  refine JQ_in_normal ?_
  refine JQ_thenK ?_
  refine K_mask [false, true] ?_
  show K _ _ [⟨nb5, cu8 (o ++ ([(0:UInt8)])) ++ sp3, 5, (0, 0)⟩] _
  refine K_next (j + 1, o ++ ([(0:UInt8)]), nb5, sp3, cp3) ⟨by omega, by rw [hx2, zr8_succ, List.append_assoc], (ha5).trans (by first | rfl | simp +arith), (ha6).trans (by first | rfl | simp +arith), by omega, ha8⟩ (by first | (simp; omega) | simp) (Sub.cons rfl (Sub.cons rfl (Sub.cons (some_slc (by omega)) (Sub.nil)))) rfl
 ·
  have hp1 : ¬ (((dq1:Int)) ≠ (56:Int)) := of_decide_eq_false hb1
  refine JC_exit ?_
  refine JQ_then_exit ?_
  refine JQ_then_exit ?_
  refine JQ_in_same ?_
  refine JQ_then ?_
  refine JC_seq ?_
  refine JC_seq ?_
  refine JC_region ?_
  refine JL_val _ (Ev_assign rfl) rfl ?_
  refine JL_nil ?_
  refine JQ_then ?_
  refine JC_block ?_
  have ej : j = nzP n := by omega
  have ejb : nzP n < 64 := by omega
  refine JC_loop (ι := Nat × List UInt8 × Nat × List Value × Nat) (fun ⟨i, o2, g2, sp2, cp2⟩ => [(0, .slice ao n cb), (2, .slice none 0 0), (3, Slc g2 0 (i + j + n + 1) cp2), (4, I64 (-8*(i:Int) + 56))]) (fun ⟨i, o2, g2, sp2, cp2⟩ => [⟨g2, cu8 o2 ++ sp2, 5, (0, 0)⟩]) (fun ⟨i, o2, g2, sp2, cp2⟩ => i ≤ 8 ∧ o2 = o ++ lenN n i ∧ o2.length = (i + j + n + 1) ∧ sp2.length = cp2 - (i + j + n + 1) ∧ (i + j + n + 1) ≤ cp2 ∧ cp2 ≤ maxLen) (fun ⟨i, o2, g2, sp2, cp2⟩ => 8 - i) (0, o, g1, sp1, cp1) ⟨by omega, by simp [lenN], by omega, by omega, by omega, hx6⟩ (Sub.cons rfl (Sub.cons rfl (Sub.cons (some_slc (by omega)) (Sub.cons (some_i64 (by omega)) (Sub.nil))))) rfl ?_
  rintro ⟨i, o2, g2, sp2, cp2⟩ ⟨hy1, hy2, ho2, hy4, hy5, hy6⟩
  show JC _ _ _ [(0, .slice ao n cb), (2, .slice none 0 0), (3, Slc g2 0 (i + j + n + 1) cp2), (4, I64 (-8*(i:Int) + 56))] [⟨g2, cu8 o2 ++ sp2, 5, (0, 0)⟩]
  refine JC_seq ?_
  refine JC_seq ?_
  refine JC_region ?_
  refine JL_val _ (Ev_move rfl) rfl ?_
  refine JL_val (.bool (decide ((0:Int) ≤ (-8*(i:Int) + 56)))) (Ev_bini rfl rfl fun _ => bin_geq_i _ _) rfl ?_
  refine JL_nil ?_
  refine JQ_then ?_
  refine JC_cond (decide ((0:Int) ≤ (-8*(i:Int) + 56))) rfl (fun hb2 => ?_) (fun hb2 => ?_)
  ·
   have hp2 : (0:Int) ≤ (-8*(i:Int) + 56) := of_decide_eq_true hb2
   refine JC_skip ?_
   refine JQ_then ?_
   refine JC_seq ?_
   refine JC_block ?_
   refine JC_region ?_
   refine JL_val _ (Ev_move rfl) rfl ?_
   refine JL_val _ (Ev_move rfl) rfl ?_
   refine JL_val (I64 ((n:Int))) (Ev_len Tryd.underlying22 rfl) rfl ?_
   refine JL_val (U64 (UInt64.ofNat n)) (Ev_conv _ _ rfl fun _ => conv_i64_u64 (by rw [Tryd.underlying3]; rfl) Tryd.underlying58 n _ (by omega)) rfl ?_
   refine JL_val (U64 ((8:UInt64) * (UInt64.ofNat n))) (Ev_bini rfl rfl fun _ => bin_mul_u64 (8:UInt64) (UInt64.ofNat n)) rfl ?_
   refine JL_val _ (Ev_move rfl) rfl ?_
   refine JL_val (U64 (((8:UInt64) * (UInt64.ofNat n)) >>> UInt64.ofNat (56 - 8*i))) (Ev_bini rfl rfl fun _ => bin_shr_u64 ((8:UInt64) * (UInt64.ofNat n)) _ _ (56 - 8*i) (by omega) (by omega)) rfl ?_
   refine JL_val (U8 ((((8:UInt64) * (UInt64.ofNat n)) >>> UInt64.ofNat (56 - 8*i)).toUInt8)) (Ev_conv _ _ rfl fun _ => conv_u64_u8 (by rw [Tryd.underlying58]; rfl) Tryd.underlying5 _) rfl ?_
   refine JL_step (Step_buildSlice 5 1 _ [(0, U8 ((((8:UInt64) * (UInt64.ofNat n)) >>> UInt64.ofNat (56 - 8*i)).toUInt8))] (cu8 ([(((8:UInt64) * (UInt64.ofNat n)) >>> UInt64.ofNat (56 - 8*i)).toUInt8])) Tryd.underlying22 Tryd.sizeOf5 Tryd.zeroValue5 rfl rfl rfl (by kernel_rfl)) rfl ?_
   rintro v1 L1 ⟨nb6, hnb6, rfl, rfl⟩
   show JL _ _ _ _ ((28, Slc nb6 0 1 1) :: _) [⟨g2, cu8 o2 ++ sp2, 5, (0, 0)⟩, ⟨nb6, cu8 ([(((8:UInt64) * (UInt64.ofNat n)) >>> UInt64.ofNat (56 - 8*i)).toUInt8]), 5, (0, 0)⟩]
   refine JL_step (Step_appM8 22 5 [true, false] (Slc g2 0 (i + j + n + 1) cp2) (i + j + n + 1) o2 ([(((8:UInt64) * (UInt64.ofNat n)) >>> UInt64.ofNat (56 - 8*i)).toUInt8]) (some ⟨nb6, 0, none⟩) 1 1 (i + j + n + 2) Tryd.underlying22 Tryd.info5 rfl (.inr ⟨g2, sp2, cp2, rfl, rfl, (by first | exact ho2 | simp [ho2]), hy4, (by omega), (by omega)⟩) rfl (by simp) (SrcAt.mem (MemAt.ent 1 rfl (Seg.whole _))) (by omega) (by unfold maxLen; omega) (by omega)) rfl ?_
   rintro v1 L1 ⟨nb7, sp4, cp4, hg3, rfl, rfl, ha9, ha10, ha11, ha12⟩
   show JL _ _ _ _ ((29, Slc nb7 0 (i + j + n + 2) cp4) :: _) [⟨nb6, cu8 ([(((8:UInt64) * (UInt64.ofNat n)) >>> UInt64.ofNat (56 - 8*i)).toUInt8]), 5, (0, 0)⟩, ⟨nb7, cu8 (o2 ++ ([(((8:UInt64) * (UInt64.ofNat n)) >>> UInt64.ofNat (56 - 8*i)).toUInt8])) ++ sp4, 5, (0, 0)⟩]
   refine JL_val _ (Ev_assign rfl) rfl ?_
   refine JL_nil ?_
   refine JQ_in_normal ?_
   refine JQ_then ?_
   refine JC_region ?_
   refine JL_val _ (Ev_move rfl) rfl ?_
   refine JL_val (I64 (-8*(i:Int) + 48)) (Ev_bini rfl rfl fun _ => bin_sub_i _ _ (-8*(i:Int) + 48) (by omega) (by omega)) rfl ?_
   refine JL_val _ (Ev_assign rfl) rfl ?_
   refine JL_nil ?_
   refine JQ_thenK ?_
   refine K_mask [false, true] ?_
   show K _ _ [⟨nb7, cu8 (o2 ++ ([(((8:UInt64) * (UInt64.ofNat n)) >>> UInt64.ofNat (56 - 8*i)).toUInt8])) ++ sp4, 5, (0, 0)⟩] _
   refine K_next (i + 1, o2 ++ ([(((8:UInt64) * (UInt64.ofNat n)) >>> UInt64.ofNat (56 - 8*i)).toUInt8]), nb7, sp4, cp4) ⟨by omega, by rw [hy2, lenN, List.append_assoc], (ha9).trans (by first | rfl | simp +arith), (ha10).trans (by first | rfl | simp +arith), by omega, ha12⟩ (by first | (simp; omega) | simp) (Sub.cons rfl (Sub.cons rfl (Sub.cons (some_slc (by omega)) (Sub.cons (some_i64 (by omega)) (Sub.nil))))) rfl
  ·
   have hp2 : ¬ ((0:Int) ≤ (-8*(i:Int) + 56)) := of_decide_eq_false hb2
   refine JC_exit ?_
   refine JQ_then_exit ?_
   refine JQ_then_exit ?_
   refine JQ_in_same ?_
   refine JQ_then ?_
   refine JC_seq ?_
   refine JC_region ?_
   refine JL_val _ (Ev_move rfl) rfl ?_
   refine JL_val _ (Ev_assign rfl) rfl ?_
   refine JL_nil ?_
   refine JQ_then ?_
   refine JC_ret ?_
   refine JQ_ret (Slc g2 0 (i + j + n + 1) cp2) (res1 Tryd.results26 (RV_tmp rfl)) fun w1 hw1 => ?_
   have e1 : i = 8 := by omega
   subst e1
   have e2 : o2 = padL b := by rw [hy2, hx2, padL, hb, ej]
   rw [e2] at hw1
   exact ⟨_, _, rfl, ⟨g2, sp2, cp2, slc_len (by rw [padL_len, hb, ← ej]; simp +arith), rfl, by rw [hy4]; rw [padL_len, hb, ← ej]; simp +arith, by refine Nat.le_trans (Nat.le_of_eq ?_) hy5; rw [padL_len, hb, ← ej]; simp +arith, hy6⟩, hw1.sub (by simp) (by simp)⟩
theorem rpad_c (ao : Option Addr) (n cb : Nat) (b : List UInt8) (w : World) (hb : b.length = n) (hn : n ≤ 17592186044416) (hr : RdB w [] ao b) : Calls Tryd.prog 27 #[.slice ao n cb] w (Post w [] (fun v L => ∃ g sp cap, v = Slc g 0 (padL b).length cap ∧ L = [⟨g, cu8 (padL b) ++ sp, 5, (0, 0)⟩] ∧ sp.length = cap - (padL b).length ∧ (padL b).length ≤ cap ∧ cap ≤ maxLen)) := by
 have hnz := nzP_lt n
 have hnd := nzP_def n
 refine enter w [] 45 [] [.slice ao n cb] Tryd.func27 rfl rfl (by simp) (Hp.start (by simp) (by simp) (by simp)) ?_
 show JC _ _ _ [(0, .slice ao n cb)] _
 refine JC_seq ?_
 refine JC_region ?_
 refine JL_val _ (Ev_assign rfl) rfl ?_
 refine JL_nil ?_
 refine JQ_then ?_
 refine JC_seq ?_
 refine JC_region ?_
 refine JL_val _ (Ev_move rfl) rfl ?_
 refine JL_val (I64 ((n:Int))) (Ev_len Tryd.underlying22 rfl) rfl ?_
 refine JL_val (I64 ((n % 64:Int))) (Ev_bini rfl rfl fun _ => bin_rem_i _ _ ((n % 64:Int)) (by omega) (by omega) (by omega)) rfl ?_
 refine JL_val (I64 (-(n % 64:Int) + 119)) (Ev_bini rfl rfl fun _ => bin_sub_i _ _ (-(n % 64:Int) + 119) (by omega) (by omega)) rfl ?_
 refine JL_val (I64 (((-(n % 64:Int) + 119) % 64))) (Ev_bini rfl rfl fun _ => bin_rem_i _ _ (((-(n % 64:Int) + 119) % 64)) (by omega) (by omega) (by omega)) rfl ?_
 refine JL_val _ (Ev_assign rfl) rfl ?_
 refine JL_nil ?_
 refine JQ_then ?_
 refine JC_seq ?_
 refine JC_region ?_
 refine JL_step (Step_buildSlice0 5 1 Tryd.underlying22 Tryd.sizeOf5) rfl ?_
 rintro v1 L1 ⟨nb1, hnb1, rfl, rfl⟩
 show JL _ _ _ _ ((13, Slc nb1 0 0 0) :: _) [⟨nb1, [], 5, (0, 0)⟩]
 refine JL_val _ (Ev_move rfl) rfl ?_
 refine JL_step (Step_appM8 22 5 [true] (Slc nb1 0 0 0) 0 ([] : List UInt8) b ao n cb n Tryd.underlying22 Tryd.info5 rfl (.inr ⟨nb1, [], 0, rfl, (by simp [take?, cu8, cu32, cu64]), rfl, (by simp), (by omega), (by unfold maxLen; omega)⟩) rfl (by simp [hb]; try omega) (hr.src) (by omega) (by unfold maxLen; omega) (by omega)) rfl ?_
 rintro v1 L1 ⟨nb2, sp1, cp1, hg1, rfl, rfl, ha1, ha2, ha3, ha4⟩
 show JL _ _ _ _ ((15, Slc nb2 0 n cp1) :: _) [⟨nb2, cu8 (([] : List UInt8) ++ b) ++ sp1, 5, (0, 0)⟩]
 refine JL_val _ (Ev_assign rfl) rfl ?_
 refine JL_nil ?_
 refine JQ_then ?_
 refine JC_seq ?_
 refine JC_region ?_
 refine JL_val _ (Ev_move rfl) rfl ?_
 refine JL_step (Step_buildSlice 5 1 _ [(0, U8 (128:UInt8))] (cu8 ([(128:UInt8)])) Tryd.underlying22 Tryd.sizeOf5 Tryd.zeroValue5 rfl rfl rfl (by kernel_rfl)) rfl ?_
 rintro v1 L1 ⟨nb3, hnb3, rfl, rfl⟩
 show JL _ _ _ _ ((17, Slc nb3 0 1 1) :: _) [⟨nb2, cu8 (([] : List UInt8) ++ b) ++ sp1, 5, (0, 0)⟩, ⟨nb3, cu8 ([(128:UInt8)]), 5, (0, 0)⟩]
 refine JL_step (Step_appM8 22 5 [true, false] (Slc nb2 0 n cp1) n (([] : List UInt8) ++ b) ([(128:UInt8)]) (some ⟨nb3, 0, none⟩) 1 1 (n + 1) Tryd.underlying22 Tryd.info5 rfl (.inr ⟨nb2, sp1, cp1, rfl, rfl, (by first | exact ha1 | simp [ha1]), ha2, (by omega), (by omega)⟩) rfl (by simp) (SrcAt.mem (MemAt.ent 1 rfl (Seg.whole _))) (by omega) (by unfold maxLen; omega) (by omega)) rfl ?_
 rintro v1 L1 ⟨nb4, sp2, cp2, hg2, rfl, rfl, ha5, ha6, ha7, ha8⟩
 show JL _ _ _ _ ((18, Slc nb4 0 (n + 1) cp2) :: _) [⟨nb3, cu8 ([(128:UInt8)]), 5, (0, 0)⟩, ⟨nb4, cu8 ((([] : List UInt8) ++ b) ++ ([(128:UInt8)])) ++ sp2, 5, (0, 0)⟩]
 refine JL_val _ (Ev_assign rfl) rfl ?_
 refine JL_nil ?_
 refine JQ_then ?_
 refine JC_seq ?_
 refine JC_seq ?_
 refine JC_region ?_
 refine JL_val _ (Ev_assign rfl) rfl ?_
 refine JL_nil ?_
 refine JQ_then ?_
 refine JC_block ?_
 refine K_mask [false, true] ?_
 show JC _ _ _ _ [⟨nb4, cu8 ((([] : List UInt8) ++ b) ++ ([(128:UInt8)])) ++ sp2, 5, (0, 0)⟩]
 refine JC_loop (ι := Nat × List UInt8 × Nat × List Value × Nat) (fun ⟨j, o, g1, sp1, cp1⟩ => [(0, .slice ao n cb), (2, .slice none 0 0), (3, I64 (((-(n % 64:Int) + 119) % 64))), (4, Slc g1 0 (j + n + 1) cp1), (5, I64 ((j:Int)))]) (fun ⟨j, o, g1, sp1, cp1⟩ => [⟨g1, cu8 o ++ sp1, 5, (0, 0)⟩]) (fun ⟨j, o, g1, sp1, cp1⟩ => j ≤ nzP n ∧ o = (b ++ [(128:UInt8)]) ++ zr8 j ∧ o.length = (j + n + 1) ∧ sp1.length = cp1 - (j + n + 1) ∧ (j + n + 1) ≤ cp1 ∧ cp1 ≤ maxLen) (fun ⟨j, o, g1, sp1, cp1⟩ => nzP n - j) (0, (([] : List UInt8) ++ b) ++ ([(128:UInt8)]), nb4, sp2, cp2) ⟨by omega, by simp [zr8], by simp [hb], by have := ha6; omega, by omega, ha8⟩ (Sub.cons rfl (Sub.cons rfl (Sub.cons rfl (Sub.cons (some_slc (by omega)) (Sub.cons rfl (Sub.nil)))))) rfl ?_
 rintro ⟨j, o, g1, sp1, cp1⟩ ⟨hx1, hx2, ho, hx4, hx5, hx6⟩
 show JC _ _ _ [(0, .slice ao n cb), (2, .slice none 0 0), (3, I64 (((-(n % 64:Int) + 119) % 64))), (4, Slc g1 0 (j + n + 1) cp1), (5, I64 ((j:Int)))] [⟨g1, cu8 o ++ sp1, 5, (0, 0)⟩]
 refine JC_seq ?_
 refine JC_seq ?_
 refine JC_region ?_
 refine JL_val _ (Ev_move rfl) rfl ?_
 refine JL_val _ (Ev_move rfl) rfl ?_
 refine JL_val (.bool (decide (((j:Int)) < (((-(n % 64:Int) + 119) % 64))))) (Ev_bini rfl rfl fun _ => bin_lss_i _ _) rfl ?_
 refine JL_nil ?_
 refine JQ_then ?_
 refine JC_cond (decide (((j:Int)) < (((-(n % 64:Int) + 119) % 64)))) rfl (fun hb1 => ?_) (fun hb1 => ?_)
 ·
  have hp1 : ((j:Int)) < (((-(n % 64:Int) + 119) % 64)) := of_decide_eq_true hb1
  refine JC_skip ?_
  refine JQ_then ?_
  refine JC_seq ?_
  refine JC_block ?_
  refine JC_region ?_
  refine JL_val _ (Ev_move rfl) rfl ?_
  refine JL_step (Step_buildSlice 5 1 _ [(0, U8 (0:UInt8))] (cu8 ([(0:UInt8)])) Tryd.underlying22 Tryd.sizeOf5 Tryd.zeroValue5 rfl rfl rfl (by kernel_rfl)) rfl ?_
  rintro v1 L1 ⟨nb5, hnb5, rfl, rfl⟩
  show JL _ _ _ _ ((25, Slc nb5 0 1 1) :: _) [⟨g1, cu8 o ++ sp1, 5, (0, 0)⟩, ⟨nb5, cu8 ([(0:UInt8)]), 5, (0, 0)⟩]
  refine JL_step (Step_appM8 22 5 [true, false] (Slc g1 0 (j + n + 1) cp1) (j + n + 1) o ([(0:UInt8)]) (some ⟨nb5, 0, none⟩) 1 1 (j + n + 2) Tryd.underlying22 Tryd.info5 rfl (.inr ⟨g1, sp1, cp1, rfl, rfl, (by first | exact ho | simp [ho]), hx4, (by omega), (by omega)⟩) rfl (by simp) (SrcAt.mem (MemAt.ent 1 rfl (Seg.whole _))) (by omega) (by unfold maxLen; omega) (by omega)) rfl ?_
  rintro v1 L1 ⟨nb6, sp3, cp3, hg3, rfl, rfl, ha9, ha10, ha11, ha12⟩
  show JL _ _ _ _ ((26, Slc nb6 0 (j + n + 2) cp3) :: _) [⟨nb5, cu8 ([(0:UInt8)]), 5, (0, 0)⟩, ⟨nb6, cu8 (o ++ ([(0:UInt8)])) ++ sp3, 5, (0, 0)⟩]
  refine JL_val _ (Ev_assign rfl) rfl ?_
  refine JL_nil ?_
  refine JQ_in_normal ?_
  refine JQ_then ?_
  refine JC_region ?_
  refine JL_val _ (Ev_move rfl) rfl ?_
  refine JL_val (I64 ((j:Int) + 1)) (Ev_bini rfl rfl fun _ => bin_add_i _ _ ((j:Int) + 1) (by omega) (by omega)) rfl ?_
  refine JL_val _ (Ev_assign rfl) rfl ?_
  refine JL_nil ?_
  refine JQ_thenK ?_
  refine K_mask [false, true] ?_
  show K _ _ [⟨nb6, cu8 (o ++ ([(0:UInt8)])) ++ sp3, 5, (0, 0)⟩] _
  refine K_next (j + 1, o ++ ([(0:UInt8)]), nb6, sp3, cp3) ⟨by omega, by rw [hx2, zr8_succ, List.append_assoc], (ha9).trans (by first | rfl | simp +arith), (ha10).trans (by first | rfl | simp +arith), by omega, ha12⟩ (by first | (simp; omega) | simp) (Sub.cons rfl (Sub.cons rfl (Sub.cons rfl (Sub.cons (some_slc (by omega)) (Sub.cons rfl (Sub.nil)))))) rfl
 ·
  have hp1 : ¬ (((j:Int)) < (((-(n % 64:Int) + 119) % 64))) := of_decide_eq_false hb1
  refine JC_exit ?_
  refine JQ_then_exit ?_
  refine JQ_then_exit ?_
  refine JQ_in_same ?_
  refine JQ_then ?_
  refine JC_seq ?_
  refine JC_region ?_
  refine JL_val _ (Ev_move rfl) rfl ?_
  refine JL_val (I64 ((n:Int))) (Ev_len Tryd.underlying22 rfl) rfl ?_
  refine JL_val (U64 (UInt64.ofNat n)) (Ev_conv _ _ rfl fun _ => conv_i64_u64 (by rw [Tryd.underlying3]; rfl) Tryd.underlying58 n _ (by omega)) rfl ?_
  refine JL_val (U64 ((UInt64.ofNat n) * (8:UInt64))) (Ev_bini rfl rfl fun _ => bin_mul_u64 (UInt64.ofNat n) (8:UInt64)) rfl ?_
  refine JL_val _ (Ev_assign rfl) rfl ?_
  refine JL_nil ?_
  refine JQ_then ?_
  refine JC_seq ?_
  refine JC_seq ?_
  refine JC_region ?_
  refine JL_val _ (Ev_assign rfl) rfl ?_
  refine JL_nil ?_
  refine JQ_then ?_
  refine JC_block ?_
  have ej : j = nzP n := by omega
  have ejb : nzP n < 64 := by omega
  refine JC_loop (ι := Nat × List UInt8 × Nat × List Value × Nat) (fun ⟨i, o2, g2, sp2, cp2⟩ => [(2, .slice none 0 0), (6, U64 ((UInt64.ofNat n) * (8:UInt64))), (4, Slc g2 0 (i + j + n + 1) cp2), (7, I64 (-(i:Int) + 7))]) (fun ⟨i, o2, g2, sp2, cp2⟩ => [⟨g2, cu8 o2 ++ sp2, 5, (0, 0)⟩]) (fun ⟨i, o2, g2, sp2, cp2⟩ => i ≤ 8 ∧ o2 = o ++ lenN n i ∧ o2.length = (i + j + n + 1) ∧ sp2.length = cp2 - (i + j + n + 1) ∧ (i + j + n + 1) ≤ cp2 ∧ cp2 ≤ maxLen) (fun ⟨i, o2, g2, sp2, cp2⟩ => 8 - i) (0, o, g1, sp1, cp1) ⟨by omega, by simp [lenN], by omega, by omega, by omega, hx6⟩ (Sub.cons rfl (Sub.cons rfl (Sub.cons (some_slc (by omega)) (Sub.cons (some_i64 (by omega)) (Sub.nil))))) rfl ?_
  rintro ⟨i, o2, g2, sp2, cp2⟩ ⟨hy1, hy2, ho2, hy4, hy5, hy6⟩
  show JC _ _ _ [(2, .slice none 0 0), (6, U64 ((UInt64.ofNat n) * (8:UInt64))), (4, Slc g2 0 (i + j + n + 1) cp2), (7, I64 (-(i:Int) + 7))] [⟨g2, cu8 o2 ++ sp2, 5, (0, 0)⟩]
  refine JC_seq ?_
  refine JC_seq ?_
  refine JC_region ?_
  refine JL_val _ (Ev_move rfl) rfl ?_
  refine JL_val (.bool (decide ((0:Int) ≤ (-(i:Int) + 7)))) (Ev_bini rfl rfl fun _ => bin_geq_i _ _) rfl ?_
  refine JL_nil ?_
  refine JQ_then ?_
  refine JC_cond (decide ((0:Int) ≤ (-(i:Int) + 7))) rfl (fun hb2 => ?_) (fun hb2 => ?_)
  ·
   have hp2 : (0:Int) ≤ (-(i:Int) + 7) := of_decide_eq_true hb2
   refine JC_skip ?_
   refine JQ_then ?_
   refine JC_seq ?_
   refine JC_block ?_
   refine JC_region ?_
   refine JL_val _ (Ev_move rfl) rfl ?_
   refine JL_val _ (Ev_move rfl) rfl ?_
   refine JL_val _ (Ev_move rfl) rfl ?_
   refine JL_val (I64 (-8*(i:Int) + 56)) (Ev_bini rfl rfl fun _ => bin_mul_i _ _ (-8*(i:Int) + 56) (by omega) (by omega)) rfl ?_
   refine JL_val (U64 (UInt64.ofNat (56 - 8*i))) (Ev_conv _ _ rfl fun _ => conv_i64_u64 (by rw [Tryd.underlying3]; rfl) Tryd.underlying52 (56 - 8*i) _ (by omega)) rfl ?_
   refine JL_val (U64 (((UInt64.ofNat n) * (8:UInt64)) >>> UInt64.ofNat (56 - 8*i))) (Ev_bini rfl rfl fun _ => bin_shr_u64 ((UInt64.ofNat n) * (8:UInt64)) _ _ (56 - 8*i) (by omega) (ofN_i (by omega))) rfl ?_
   refine JL_val (U8 ((((UInt64.ofNat n) * (8:UInt64)) >>> UInt64.ofNat (56 - 8*i)).toUInt8)) (Ev_conv _ _ rfl fun _ => conv_u64_u8 (by rw [Tryd.underlying58]; rfl) Tryd.underlying5 _) rfl ?_
   refine JL_step (Step_buildSlice 5 1 _ [(0, U8 ((((UInt64.ofNat n) * (8:UInt64)) >>> UInt64.ofNat (56 - 8*i)).toUInt8))] (cu8 ([(((UInt64.ofNat n) * (8:UInt64)) >>> UInt64.ofNat (56 - 8*i)).toUInt8])) Tryd.underlying22 Tryd.sizeOf5 Tryd.zeroValue5 rfl rfl rfl (by kernel_rfl)) rfl ?_
   rintro v1 L1 ⟨nb7, hnb7, rfl, rfl⟩
   show JL _ _ _ _ ((42, Slc nb7 0 1 1) :: _) [⟨g2, cu8 o2 ++ sp2, 5, (0, 0)⟩, ⟨nb7, cu8 ([(((UInt64.ofNat n) * (8:UInt64)) >>> UInt64.ofNat (56 - 8*i)).toUInt8]), 5, (0, 0)⟩]
   refine JL_step (Step_appM8 22 5 [true, false] (Slc g2 0 (i + j + n + 1) cp2) (i + j + n + 1) o2 ([(((UInt64.ofNat n) * (8:UInt64)) >>> UInt64.ofNat (56 - 8*i)).toUInt8]) (some ⟨nb7, 0, none⟩) 1 1 (i + j + n + 2) Tryd.underlying22 Tryd.info5 rfl (.inr ⟨g2, sp2, cp2, rfl, rfl, (by first | exact ho2 | simp [ho2]), hy4, (by omega), (by omega)⟩) rfl (by simp) (SrcAt.mem (MemAt.ent 1 rfl (Seg.whole _))) (by omega) (by unfold maxLen; omega) (by omega)) rfl ?_
   rintro v1 L1 ⟨nb8, sp4, cp4, hg4, rfl, rfl, ha13, ha14, ha15, ha16⟩
   show JL _ _ _ _ ((43, Slc nb8 0 (i + j + n + 2) cp4) :: _) [⟨nb7, cu8 ([(((UInt64.ofNat n) * (8:UInt64)) >>> UInt64.ofNat (56 - 8*i)).toUInt8]), 5, (0, 0)⟩, ⟨nb8, cu8 (o2 ++ ([(((UInt64.ofNat n) * (8:UInt64)) >>> UInt64.ofNat (56 - 8*i)).toUInt8])) ++ sp4, 5, (0, 0)⟩]
   refine JL_val _ (Ev_assign rfl) rfl ?_
   refine JL_nil ?_
   refine JQ_in_normal ?_
   refine JQ_then ?_
   refine JC_region ?_
   refine JL_val _ (Ev_move rfl) rfl ?_
   refine JL_val (I64 (-(i:Int) + 6)) (Ev_bini rfl rfl fun _ => bin_sub_i _ _ (-(i:Int) + 6) (by omega) (by omega)) rfl ?_
   refine JL_val _ (Ev_assign rfl) rfl ?_
   refine JL_nil ?_
   refine JQ_thenK ?_
   refine K_mask [false, true] ?_
   show K _ _ [⟨nb8, cu8 (o2 ++ ([(((UInt64.ofNat n) * (8:UInt64)) >>> UInt64.ofNat (56 - 8*i)).toUInt8])) ++ sp4, 5, (0, 0)⟩] _
   refine K_next (i + 1, o2 ++ ([(((UInt64.ofNat n) * (8:UInt64)) >>> UInt64.ofNat (56 - 8*i)).toUInt8]), nb8, sp4, cp4) ⟨by omega, by rw [hy2, lenN, UInt64.mul_comm, List.append_assoc], (ha13).trans (by first | rfl | simp +arith), (ha14).trans (by first | rfl | simp +arith), by omega, ha16⟩ (by first | (simp; omega) | simp) (Sub.cons rfl (Sub.cons rfl (Sub.cons (some_slc (by omega)) (Sub.cons (some_i64 (by omega)) (Sub.nil))))) rfl
  ·
   have hp2 : ¬ ((0:Int) ≤ (-(i:Int) + 7)) := of_decide_eq_false hb2
   refine JC_exit ?_
   refine JQ_then_exit ?_
   refine JQ_then_exit ?_
   refine JQ_in_same ?_
   refine JQ_then ?_
   refine JC_seq ?_
   refine JC_region ?_
   refine JL_val _ (Ev_move rfl) rfl ?_
   refine JL_val _ (Ev_assign rfl) rfl ?_
   refine JL_nil ?_
   refine JQ_then ?_
   refine JC_ret ?_
   refine JQ_ret (Slc g2 0 (i + j + n + 1) cp2) (res1 Tryd.results27 (RV_tmp rfl)) fun w1 hw1 => ?_
   have e1 : i = 8 := by omega
   subst e1
   have e2 : o2 = padL b := by rw [hy2, hx2, padL, hb, ej]
   rw [e2] at hw1
   exact ⟨_, _, rfl, ⟨g2, sp2, cp2, slc_len (by rw [padL_len, hb, ← ej]; simp +arith), rfl, by rw [hy4]; rw [padL_len, hb, ← ej]; simp +arith, by refine Nat.le_trans (Nat.le_of_eq ?_) hy5; rw [padL_len, hb, ← ej]; simp +arith, hy6⟩, hw1.sub (by simp) (by simp)⟩
end Go.Proofs.YtncoifiafklkjaaDoor
namespace Go.Proofs.YtncoifiafklkjaaDoor
open Go Go.Sx
set_option linter.unusedVariables false
set_option linter.unusedSimpArgs false
set_option maxRecDepth 100000
attribute [local irreducible] mid zr8 zr32 rotr wordL spreadL comprL cpN adN spN wrdN constL initL padL stN outN routN hashL
theorem pad_w (ao : Option Addr) (n cb : Nat) (b : List UInt8) (w : World) (hb : b.length = n) (hcb : ao = none → cb = 0) (hn : n ≤ 17592186044416) (hr : RdB w [] ao b) : Calls Tryd.prog 26 #[.slice ao n cb] w (Post w [] (fun v L => ∃ g sp cap, v = Slc g 0 (padL b).length cap ∧ L = [⟨g, cu8 (padL b) ++ sp, 5, (0, 0)⟩] ∧ sp.length = cap - (padL b).length ∧ (padL b).length ≤ cap ∧ cap ≤ maxLen)) := by
  cases ao with
  | none =>
    obtain rfl : b = [] := by
      rcases hr with h | ⟨_, _, h, _⟩
      · exact h
      · cases h
    obtain rfl : n = 0 := hb.symm
    obtain rfl := hcb rfl
    exact padNil_c w
  | some a => exact pad_c (some a) n cb b w rfl hb hn hr

theorem chunk_c (gs N cap : Nat) (w : World) : Calls Tryd.prog 83 #[Slc gs 0 N cap, I64 (64:Int)] w (Post w [] (fun v L => ∃ b1 b2, v = .func (.func 113) #[] #[Ptr b1 0, Ptr b2 0] ∧ L = [⟨b1, [Slc gs 0 N cap], 22, (0, 0)⟩, ⟨b2, [I64 64], 3, (0, 0)⟩])) := by
 refine enter w [] 9 [] [Slc gs 0 N cap, I64 (64:Int)] Tryd.func83 rfl rfl (by simp) (Hp.start (by simp) (by simp) (by simp)) ?_
 show JC _ _ _ [(0, Slc gs 0 N cap), (1, I64 (64:Int))] _
 refine JC_seq ?_
 refine JC_region ?_
 refine JL_step (Step_box (Slc gs 0 N cap) ([Slc gs 0 N cap]) rfl rfl) rfl ?_
 rintro v1 L1 ⟨nb1, hnb1, rfl, rfl⟩
 show JL _ _ _ _ ((2, Ptr nb1 0) :: _) [⟨nb1, [Slc gs 0 N cap], 22, (0, 0)⟩]
 refine JL_step (Step_box (I64 (64:Int)) ([I64 (64:Int)]) rfl rfl) rfl ?_
 rintro v1 L1 ⟨nb2, hnb2, rfl, rfl⟩
 show JL _ _ _ _ ((3, Ptr nb2 0) :: _) [⟨nb1, [Slc gs 0 N cap], 22, (0, 0)⟩, ⟨nb2, [I64 (64:Int)], 3, (0, 0)⟩]
 refine JL_val _ (Ev_assign rfl) rfl ?_
 refine JL_nil ?_
 refine JQ_then ?_
 refine JC_seq ?_
 refine JC_seq ?_
 refine JC_region ?_
 refine JL_val (I64 (64:Int)) (Ev_load rfl (Ld_one Tryd.isAgg3 (MemAt.ent 1 rfl (Seg.head)))) rfl ?_
 refine JL_val (.bool (decide ((64:Int) < (1:Int)))) (Ev_bini rfl rfl fun _ => bin_lss_i _ _) rfl ?_
 refine JL_nil ?_
 refine JQ_then ?_
 refine JC_condF _ rfl (by decide) ?_
 refine JC_skip ?_
 refine JQ_then ?_
 refine JC_seq ?_
 refine JC_region ?_
 refine JL_val (.func (.func 113) #[] #[Ptr nb1 0, Ptr nb2 0]) (Ev_makeFunc (vs := [Ptr nb1 0, Ptr nb2 0]) rfl (fun _ _ => rfl)) rfl ?_
 refine JL_val _ (Ev_assign rfl) rfl ?_
 refine JL_nil ?_
 refine JQ_then ?_
 refine JC_ret ?_
 refine JQ_ret (.func (.func 113) #[] #[Ptr nb1 0, Ptr nb2 0]) (res1 Tryd.results83 (RV_tmp rfl)) fun w1 hw1 => ?_
 exact ⟨_, _, rfl, ⟨nb1, nb2, rfl, rfl⟩, hw1⟩
theorem chunk_it (b1 b2 gs N cap : Nat) (w0 : World) (hN : N % 64 = 0) (hc : N ≤ cap) (hm : cap ≤ maxLen) : Iter Tryd.prog 113 #[Ptr b1 0, Ptr b2 0] [⟨b1, [Slc gs 0 N cap], 22, (0, 0)⟩, ⟨b2, [I64 (64:Int)], 3, (0, 0)⟩] [] w0 (fun k => 64*k < N) (fun k => 64*k = N) (fun k => Slc gs (64*k) 64 64) := by
 intro l B W S X S0 hS0 hW hl0 hlM hRb hY
 refine enterI W ((([⟨b1, [Slc gs 0 N cap], 22, (0, 0)⟩, ⟨b2, [I64 (64:Int)], 3, (0, 0)⟩] : List Ent) ++ S0).map Ent.b) 31 ([⟨b1, [Slc gs 0 N cap], 22, (0, 0)⟩, ⟨b2, [I64 (64:Int)], 3, (0, 0)⟩] ++ S0) [.func (.yield l) #[] #[], Ptr b1 0, Ptr b2 0] Tryd.func113 rfl rfl (by simp) hW ?_
 have hm2 : cap ≤ 9223372036854775807 := by unfold maxLen at hm; omega
 show JC _ _ _ [(0, .func (.yield l) #[] #[]), (1, Ptr b1 0), (2, Ptr b2 0)] ([⟨b1, [Slc gs 0 N cap], 22, (0, 0)⟩, ⟨b2, [I64 (64:Int)], 3, (0, 0)⟩] ++ S0)
 refine JC_seq ?_
 refine JC_region ?_
 refine JL_val _ (Ev_assign rfl) rfl ?_
 refine JL_nil ?_
 refine JQ_then ?_
 refine JC_block ?_
 refine JC_loop (ι := Nat × List Ent) (fun ⟨k, Sk⟩ => [(0, .func (.yield l) #[] #[]), (1, Ptr b1 0), (2, Ptr b2 0), (4, I64 (64*(k:Int)))]) (fun ⟨k, Sk⟩ => [⟨b1, [Slc gs 0 N cap], 22, (0, 0)⟩, ⟨b2, [I64 (64:Int)], 3, (0, 0)⟩] ++ Sk) (fun ⟨k, Sk⟩ => k ≤ B ∧ S k Sk ∧ 64*k ≤ N) (fun ⟨k, Sk⟩ => B - k) (0, S0) ⟨by omega, hS0, by omega⟩ (Sub.cons rfl (Sub.cons rfl (Sub.cons rfl (Sub.cons rfl (Sub.nil))))) rfl ?_
 rintro ⟨k, Sk⟩ ⟨hx1, hx2, hx3⟩
 show JC _ _ _ [(0, .func (.yield l) #[] #[]), (1, Ptr b1 0), (2, Ptr b2 0), (4, I64 (64*(k:Int)))] ([⟨b1, [Slc gs 0 N cap], 22, (0, 0)⟩, ⟨b2, [I64 (64:Int)], 3, (0, 0)⟩] ++ Sk)
 refine JC_seq ?_
 refine JC_seq ?_
 refine JC_region ?_
 refine JL_val _ (Ev_move rfl) rfl ?_
 refine JL_val (Slc gs 0 N cap) (Ev_load rfl (Ld_one Tryd.isAgg22 (MemAt.ent 0 rfl (Seg.head)))) rfl ?_
 refine JL_val (I64 ((N:Int))) (Ev_len Tryd.underlying22 rfl) rfl ?_
 refine JL_val (.bool (decide ((64*(k:Int)) < ((N:Int))))) (Ev_bini rfl rfl fun _ => bin_lss_i _ _) rfl ?_
 refine JL_nil ?_
 refine JQ_then ?_
 refine JC_cond (decide ((64*(k:Int)) < ((N:Int)))) rfl (fun hb1 => ?_) (fun hb1 => ?_)
 ·
  have hp1 : (64*(k:Int)) < ((N:Int)) := of_decide_eq_true hb1
  refine JC_skip ?_
  refine JQ_then ?_
  refine JC_seq ?_
  refine JC_block ?_
  refine JC_seq ?_
  refine JC_draw 31 1 [(0, I64 (64:Int)), (1, Slc gs 0 N cap), (2, I64 (64*(k:Int))), (3, Slc gs (64*k) (N - 64*k) (cap - 64*k)), (4, I64 ((N:Int) - 64*(k:Int))), (5, I64 (64:Int)), (6, I64 (64:Int))] Tryd.mixed rfl (by decide +kernel) ?_
  refine DP_end ⟨[], [0, 1, 2, 3, 4, 5, 6], [], [0, 1, 2, 3, 4, 5, 6], []⟩ rfl rfl (by decide +kernel) rfl ⟨⟨_, rfl, Qok_val rfl (Ev_load rfl (Ld_one Tryd.isAgg3 (MemAt.ent 1 rfl (Seg.head))))⟩, ⟨_, rfl, Qok_val rfl (Ev_load rfl (Ld_one Tryd.isAgg22 (MemAt.ent 0 rfl (Seg.head))))⟩, ⟨_, rfl, Qok_val rfl (Ev_move rfl)⟩, ⟨_, rfl, Qok_val rfl (Ev_slice 5 1 (64*k) N (64*k) (cap - 64*k) Tryd.underlying22 Tryd.sizeOf5 rfl (some_i64 (by omega)) rfl (by omega) (by omega) (by omega) (by omega) (by omega) (N - 64*k) (by omega))⟩, ⟨_, rfl, Qok_val rfl (Ev_lenX Tryd.underlying22 rfl (by omega))⟩, ⟨_, rfl, Qok_val rfl (Ev_min rfl rfl (by have := of_decide_eq_true (decide_eq_true (by omega)); omega))⟩, ⟨_, rfl, Qok_val rfl (Ev_assign rfl)⟩, trivial⟩ ?_
  refine K_sub (F' := [(13, I64 (64:Int)), (14, Slc gs 0 N cap), (15, I64 (64*(k:Int))), (16, Slc gs (64*k) (N - 64*k) (cap - 64*k)), (17, I64 ((N:Int) - 64*(k:Int))), (18, I64 (64:Int)), (5, I64 (64:Int)), (0, .func (.yield l) #[] #[]), (1, Ptr b1 0), (2, Ptr b2 0), (4, I64 (64*(k:Int))), (6, I64 (64*(k:Int))), (7, Slc gs 0 N cap), (8, I64 ((N:Int))), (9, .bool (decide ((64*(k:Int)) < ((N:Int)))))]) (Sub.cons (by kernel_rfl) (Sub.cons (by kernel_rfl) (Sub.cons (by kernel_rfl) (Sub.cons (by kernel_rfl) (Sub.cons (by kernel_rfl) (Sub.cons (by kernel_rfl) (Sub.cons (by kernel_rfl) (Sub.cons (by kernel_rfl) (Sub.cons (by kernel_rfl) (Sub.cons (by kernel_rfl) (Sub.cons (by kernel_rfl) (Sub.cons (by kernel_rfl) (Sub.cons (by kernel_rfl) (Sub.cons (by kernel_rfl) (Sub.cons (by kernel_rfl) (Sub.nil)))))))))))))))) ?_
  show JQ _ _ _ [(13, I64 (64:Int)), (14, Slc gs 0 N cap), (15, I64 (64*(k:Int))), (16, Slc gs (64*k) (N - 64*k) (cap - 64*k)), (17, I64 ((N:Int) - 64*(k:Int))), (18, I64 (64:Int)), (5, I64 (64:Int)), (0, .func (.yield l) #[] #[]), (1, Ptr b1 0), (2, Ptr b2 0), (4, I64 (64*(k:Int))), (6, I64 (64*(k:Int))), (7, Slc gs 0 N cap), (8, I64 ((N:Int))), (9, .bool (decide ((64*(k:Int)) < ((N:Int)))))] _
  refine JQ_then ?_
  refine JC_seq ?_
  refine JC_region ?_
  refine JL_val _ (Ev_move rfl) rfl ?_
  refine JL_val (Slc gs 0 N cap) (Ev_load rfl (Ld_one Tryd.isAgg22 (MemAt.ent 0 rfl (Seg.head)))) rfl ?_
  refine JL_val _ (Ev_move rfl) rfl ?_
  refine JL_val _ (Ev_move rfl) rfl ?_
  refine JL_val _ (Ev_move rfl) rfl ?_
  refine JL_val (I64 (64*(k:Int) + 64)) (Ev_bini rfl rfl fun _ => bin_add_i _ _ (64*(k:Int) + 64) (by omega) (by omega)) rfl ?_
  refine JL_val _ (Ev_move rfl) rfl ?_
  refine JL_val _ (Ev_move rfl) rfl ?_
  refine JL_val (I64 (64*(k:Int) + 64)) (Ev_bini rfl rfl fun _ => bin_add_i _ _ (64*(k:Int) + 64) (by omega) (by omega)) rfl ?_
  refine JL_val (Slc gs (64*k) 64 64) (Ev_slice3 5 1 (64*k) (64*k + 64) (64*k + 64) (64*k) 64 64 Tryd.underlying22 Tryd.sizeOf5 rfl (some_i64 (by omega)) (some_i64 (by omega)) (some_i64 (by omega)) (by omega) (by omega) (by omega) (by omega) (by omega) (by omega) (by omega)) rfl ?_
  refine JL_yield l [Slc gs (64*k) 64 64] [⟨b1, [Slc gs 0 N cap], 22, (0, 0)⟩, ⟨b2, [I64 (64:Int)], 3, (0, 0)⟩] Sk (fun L' => k + 1 ≤ B ∧ S (k + 1) L') (X k) rfl rfl rfl hl0 hlM rfl (fun w1 hw1 => hY k Sk w1 (show 64*k < N by omega) hx1 hx2 (hw1.right)) ?_ ?_
  ·
   intro L1 ⟨hn1, hn2⟩
   show JL _ _ _ _ ((29, .bool true) :: _) ([⟨b1, [Slc gs 0 N cap], 22, (0, 0)⟩, ⟨b2, [I64 (64:Int)], 3, (0, 0)⟩] ++ L1)
   refine JL_val (.bool (!true)) (Ev_not rfl) rfl ?_
   refine JL_nil ?_
   refine JQ_then ?_
   refine JC_condF _ rfl rfl ?_
   refine JC_skip ?_
   refine JQ_in_normal ?_
   refine JQ_then ?_
   refine JC_region ?_
   refine JL_val _ (Ev_move rfl) rfl ?_
   refine JL_val (I64 (64:Int)) (Ev_load rfl (Ld_one Tryd.isAgg3 (MemAt.ent 1 rfl (Seg.head)))) rfl ?_
   refine JL_val (I64 (64*(k:Int) + 64)) (Ev_bini rfl rfl fun _ => bin_add_i _ _ (64*(k:Int) + 64) (by omega) (by omega)) rfl ?_
   refine JL_val _ (Ev_assign rfl) rfl ?_
   refine JL_nil ?_
   refine JQ_thenK ?_
   refine K_next (k + 1, L1) ⟨hn1, hn2, by omega⟩ (by first | (simp; omega) | simp) (Sub.cons rfl (Sub.cons rfl (Sub.cons rfl (Sub.cons (some_i64 (by omega)) (Sub.nil))))) rfl
  ·
   intro L1 o1 hx9
   show JL _ _ _ _ ((29, .bool false) :: _) ([⟨b1, [Slc gs 0 N cap], 22, (0, 0)⟩, ⟨b2, [I64 (64:Int)], 3, (0, 0)⟩] ++ L1)
   refine JL_val (.bool (!false)) (Ev_not rfl) rfl ?_
   refine JL_nil ?_
   refine JQ_then ?_
   refine JC_condT _ rfl rfl ?_
   refine JC_ret ?_
   refine JQ_in_ret ?_
   refine JQ_then_ret ?_
   refine JQ_then_ret ?_
   refine JQ_in_ret ?_
   refine JQ_retM0 (.tuple #[]) (res0 Tryd.results113 ) (fun w1 hw1 => ?_)
   exact ⟨⟨_, rfl⟩, .inr ⟨k, L1, o1, (show 64*k < N by omega), hx9, hw1.right⟩⟩
 ·
  have hp1 : ¬ ((64*(k:Int)) < ((N:Int))) := of_decide_eq_false hb1
  refine JC_exit ?_
  refine JQ_then_exit ?_
  refine JQ_then_exit ?_
  refine JQ_in_same ?_
  refine JQ_endM0 (.tuple #[]) (res0 Tryd.results113 ) (fun w1 hw1 => ?_)
  exact ⟨⟨_, rfl⟩, .inl ⟨k, Sk, (show 64*k = N by omega), hx2, hw1.right⟩⟩
theorem GLs.round {w W : World} {M S : List Nat} {l : Nat} {o : Obj} (h : GLs w) (hB : ∀ b, b < w.heap.size → b ∉ M → W.heap[b]? = w.heap[b]? ∧ b ∉ S ∧ b ≠ l) (h1 : 3 ∉ M := by simp) (h2 : 2 ∉ M := by simp) : GLs (W.putObj l o) ∧ 3 ∉ S ∧ 2 ∉ S := by
  have key : ∀ b vs, b ∉ M → RdA w b 0 vs → RdA (W.putObj l o) b 0 vs ∧ b ∉ S := by
    intro b vs hM hr
    obtain ⟨e1, e2, e3⟩ := hB b hr.1 hM
    have e4 : (W.putObj l o).heap[b]? = w.heap[b]? := (World.putObj_heap_other e3).trans e1
    refine ⟨⟨?_, fun j v hj => ?_⟩, e2⟩
    · have : w.heap[b]? ≠ none := by simp; exact hr.1
      rw [← e4] at this
      simp at this
      simpa using this
    · have := hr.2 j v hj
      simp only [World.cell?, e4] at this ⊢
      exact this
  exact ⟨⟨(key _ _ h1 h.1).1, (key _ _ h2 h.2).1⟩, (key _ _ h1 h.1).2, (key _ _ h2 h.2).2⟩

theorem sum_c (ao : Option Addr) (n cb : Nat) (b : List UInt8) (w : World) (hb : b.length = n) (hcb : ao = none → cb = 0) (hn : n ≤ 17592186044416) (hr : RdB w [] ao b) (hG : GLs w) : Calls Tryd.prog 23 #[.slice ao n cb] w (Post w [] (fun v L => v = .agg (cu8 (sumG constL initL b)).toArray ∧ L = [])) := by
 have hpm := pad_mod b
 refine enterM w [] 41 [] [.slice ao n cb] Tryd.func23 rfl rfl (by simp) (Hp.start (by simp) (by simp) (by simp)) ?_
 show JC _ _ _ [(0, .slice ao n cb)] _
 refine JC_seq ?_
 refine JC_region ?_
 refine JL_step (Step_alloc _ (cu8 (zr8 32)) Tryd.zeroValue25 (by kernel_rfl)) rfl ?_
 rintro v1 L1 ⟨nb1, hnb1, rfl, rfl⟩
 show JL _ _ _ _ ((2, Ptr nb1 0) :: _) [⟨nb1, cu8 (zr8 32), 25, (0, 0)⟩]
 refine JL_nil ?_
 refine JQ_then ?_
 refine JC_seq ?_
 refine JC_region ?_
 refine JL_val (.agg (cu32 initL).toArray) (Ev_load rfl (Ld_agg Tryd.isAgg31 Tryd.sizeOf31 (len_cu32 initL_len) (MemAt.seg (hG.2.mem (by simp)) (Seg.whole _) (by omega)))) rfl ?_
 refine JL_step (Step_alloc _ (cu32 (zr32 8)) Tryd.zeroValue31 (by kernel_rfl)) rfl ?_
 rintro v1 L1 ⟨nb2, hnb2, rfl, rfl⟩
 show JL _ _ _ _ ((3, Ptr nb2 0) :: _) [⟨nb1, cu8 (zr8 32), 25, (0, 0)⟩, ⟨nb2, cu32 (zr32 8), 31, (0, 0)⟩]
 refine JL_step (Step_store 1 nb2 0 8 (cu32 (zr32 8)) 31 (.agg (cu32 initL).toArray) (cu32 initL) (cu32 initL) rfl rfl rfl (by first | rfl | simp) Tryd.sizeOf31 (len_cu32 initL_len) (by first | exact one_u8 | exact one_u32 | exact one_u64 | (simp [cu8, cu32, cu64, Value.oneCell']; done)) (by simp [(zr32_len 8)]) (lay_whole (by simp [(zr32_len 8), initL_len]))) rfl ?_
 rintro v1 L1 ⟨rfl, rfl⟩
 show JL _ _ _ _ _ [⟨nb1, cu8 (zr8 32), 25, (0, 0)⟩, ⟨nb2, cu32 initL, 31, (0, 0)⟩]
 refine JL_nil ?_
 refine JQ_then ?_
 refine JC_seq ?_
 refine JC_seq ?_
 refine JC_region ?_
 refine JL_val _ (Ev_move rfl) rfl ?_
 refine JL_step (Step_callN 26 [.slice ao n cb] _ (Cl_func [.slice ao n cb] Tryd.call26 rfl) (fun w1 hw1 => pad_w ao n cb b w1 hb hcb (by omega) (hr.at (M' := []) hw1 (by simp)))) rfl ?_
 rintro v1 L1 ⟨_, ⟨nb3, sp1, cp1, rfl, rfl, hc1, hc2, hc3⟩, rfl⟩
 show JL _ _ _ _ ((10, Slc nb3 0 ((padL b).length) cp1) :: _) [⟨nb1, cu8 (zr8 32), 25, (0, 0)⟩, ⟨nb2, cu32 initL, 31, (0, 0)⟩, ⟨nb3, cu8 (padL b) ++ sp1, 5, (0, 0)⟩]
 refine JL_step (Step_callN 83 [Slc nb3 0 ((padL b).length) cp1, I64 (64:Int)] _ (Cl_func [Slc nb3 0 ((padL b).length) cp1, I64 (64:Int)] Tryd.call83 rfl) (fun w1 hw1 => chunk_c nb3 ((padL b).length) cp1 w1)) rfl ?_
 rintro v1 L1 ⟨_, ⟨nb4, nb5, rfl, rfl⟩, rfl⟩
 show JL _ _ _ _ ((11, .func (.func 113) #[] #[Ptr nb4 0, Ptr nb5 0]) :: _) [⟨nb1, cu8 (zr8 32), 25, (0, 0)⟩, ⟨nb2, cu32 initL, 31, (0, 0)⟩, ⟨nb3, cu8 (padL b) ++ sp1, 5, (0, 0)⟩, ⟨nb4, [Slc nb3 0 ((padL b).length) cp1], 22, (0, 0)⟩, ⟨nb5, [I64 (64:Int)], 3, (0, 0)⟩]
 refine JL_nil ?_
 refine JQ_then ?_
 refine JC_block ?_
 refine K_sub (F' := [(2, Ptr nb1 0), (3, Ptr nb2 0), (11, .func (.func 113) #[] #[Ptr nb4 0, Ptr nb5 0])]) (Sub.cons rfl (Sub.cons rfl (Sub.cons rfl (Sub.nil)))) ?_
 refine K_pick [0, 2, 3, 4, 1] (by decide) ?_
 show JC _ _ _ _ [⟨nb1, cu8 (zr8 32), 25, (0, 0)⟩, ⟨nb3, cu8 (padL b) ++ sp1, 5, (0, 0)⟩, ⟨nb4, [Slc nb3 0 ((padL b).length) cp1], 22, (0, 0)⟩, ⟨nb5, [I64 (64:Int)], 3, (0, 0)⟩, ⟨nb2, cu32 initL, 31, (0, 0)⟩]
 refine JC_range [⟨nb1, cu8 (zr8 32), 25, (0, 0)⟩, ⟨nb3, cu8 (padL b) ++ sp1, 5, (0, 0)⟩] [⟨nb4, [Slc nb3 0 ((padL b).length) cp1], 22, (0, 0)⟩, ⟨nb5, [I64 (64:Int)], 3, (0, 0)⟩] [⟨nb2, cu32 initL, 31, (0, 0)⟩] [] (fun k => 64*k < (padL b).length) (fun k => 64*k = (padL b).length) (fun k => Slc nb3 (64*k) 64 64) ((padL b).length / 64) (fun k L => k ≤ (padL b).length / 64 ∧ L = [⟨nb2, cu32 (stN constL initL (padL b) k), 31, (0, 0)⟩]) (fun k c L => False) rfl rfl rfl Tryd.call113 (List.Perm.refl _) rfl ⟨by omega, by rw [stN]⟩ (by simp) (fun w1 hw1 => chunk_it nb4 nb5 _ _ _ w1 (pad_mod b) hc2 hc3) ?_ ?_ ?_
 ·
  intro l rb k Sk W1 hgo hkB hSk hl0 hlM hA hB hle
  have hA0 := hA _ (List.mem_of_getElem? (i := 0) rfl)
  have hA1 := hA _ (List.mem_of_getElem? (i := 1) rfl)
  obtain ⟨hx1, rfl⟩ := hSk
  have hG2 := hG.round (o := rb) hB
  show JC _ _ _ _ [⟨nb2, cu32 (stN constL initL (padL b) k), 31, (0, 0)⟩]
  refine JC_region ?_
  refine JL_val _ (Ev_assign rfl) rfl ?_
  refine JL_nil ?_
  refine JQ_begin hl0 hlM ?_
  show JC _ _ _ _ [⟨nb2, cu32 (stN constL initL (padL b) k), 31, (0, 0)⟩]
  refine JC_block ?_
  have hl1 : (mid (padL b) (64*k) 64).length = 64 := mid_len (by rw [(rfl : (padL b).length = _)]; omega)
  refine JC_draw 41 3 [(0, .agg (cu32 (stN constL initL (padL b) k)).toArray), (1, Slc nb3 (64*k) 64 64), (2, Ptr nb3 (64*k)), (3, .agg (cu8 (mid (padL b) (64*k) 64)).toArray)] Tryd.mixed rfl (by decide +kernel) ?_
  have hl2 : (mid (padL b) (64*k) 64).length = 64 := mid_len (by rw [(rfl : (padL b).length = _)]; omega)
  refine DP_one ⟨[], [0, 1, 2, 3], [], [0, 1, 2, 3], [4]⟩ 4 _ rfl rfl (by decide +kernel) rfl ⟨⟨_, rfl, Qok_val rfl (Ev_load rfl (Ld_agg Tryd.isAgg31 Tryd.sizeOf31 (len_cu32 (stN_len initL_len k)) (MemAt.ent 0 rfl (Seg.whole _))))⟩, ⟨_, rfl, Qok_val rfl (Ev_move rfl)⟩, ⟨_, rfl, Qok_val rfl (Ev_s2ap 64 Tryd.underlying32 rfl (by omega))⟩, ⟨_, rfl, Qok_val rfl (Ev_load rfl (Ld_agg Tryd.isAgg32 Tryd.sizeOf32 (len_cu8 hl2) (MemAt.seg (MemAt.heap ((World.putObj_heap_other hA1.2.2).trans hA1.1) hA1.2.1) (Seg.left (segm_u8 (64*k) 64 (by rw [(rfl : (padL b).length = _)]; omega))) (by omega))))⟩, trivial⟩ rfl (Cok_step rfl (Step_callP 28 [.agg (cu32 (stN constL initL (padL b) k)).toArray, .agg (cu8 (mid (padL b) (64*k) 64)).toArray] (.agg (cu32 (comprL constL (stN constL initL (padL b) k) (mid (padL b) (64*k) 64))).toArray) (Cl_func [.agg (cu32 (stN constL initL (padL b) k)).toArray, .agg (cu8 (mid (padL b) (64*k) 64)).toArray] Tryd.call28 rfl) (fun w1 hw1 => compress_c (stN constL initL (padL b) k) (mid (padL b) (64*k) 64) w1 (stN_len initL_len k) hl1 (hG2.1.at hw1 hG2.2.1 hG2.2.2)))) ?_
  rintro v1 L1 ⟨rfl, rfl⟩
  refine ⟨[], ?_⟩
  show DP _ _ _ _ _ _ _ _ [⟨nb2, cu32 (stN constL initL (padL b) k), 31, (0, 0)⟩]
  refine DP_one ⟨[4], [0, 1, 2, 3], [0, 1, 2, 3], [], [5]⟩ 5 _ rfl rfl (by decide +kernel) rfl trivial rfl (Cok_step rfl (Step_store 0 nb2 0 8 (cu32 (stN constL initL (padL b) k)) 31 (.agg (cu32 (comprL constL (stN constL initL (padL b) k) (mid (padL b) (64*k) 64))).toArray) (cu32 (comprL constL (stN constL initL (padL b) k) (mid (padL b) (64*k) 64))) (cu32 (comprL constL (stN constL initL (padL b) k) (mid (padL b) (64*k) 64))) rfl rfl rfl (by first | rfl | simp) Tryd.sizeOf31 (len_cu32 (comprL_len (stN_len initL_len k))) (by first | exact one_u8 | exact one_u32 | exact one_u64 | (simp [cu8, cu32, cu64, Value.oneCell']; done)) (by simp [(stN_len initL_len k)]) (lay_whole (by simp [(stN_len initL_len k), (comprL_len (stN_len initL_len k))])))) ?_
  rintro v1 L1 ⟨rfl, rfl⟩
  refine ⟨[], ?_⟩
  show DP _ _ _ _ _ _ _ _ [⟨nb2, cu32 (comprL constL (stN constL initL (padL b) k) (mid (padL b) (64*k) 64)), 31, (0, 0)⟩]
  refine DP_end ⟨[4, 5], [0, 1, 2, 3], [0, 1, 2, 3], [], []⟩ rfl rfl (by decide +kernel) rfl trivial ?_
  refine K_sub (F' := [(2, Ptr nb1 0)]) (Sub.cons (by kernel_rfl) (Sub.nil)) ?_
  show JQ _ _ _ [(2, Ptr nb1 0)] _
  refine JQ_in_normal ?_
  refine JQ_bodyN ⟨by omega, by omega, by rw [stN]⟩
 ·
  intro D k L' W' hf hX hw' hD hDle
  obtain ⟨hx1, rfl⟩ := hX
  show JQ _ _ _ _ [⟨nb1, cu8 (zr8 32), 25, (0, 0)⟩, ⟨nb3, cu8 (padL b) ++ sp1, 5, (0, 0)⟩, ⟨nb2, cu32 (stN constL initL (padL b) k), 31, (0, 0)⟩]
  refine JQ_in_normal ?_
  refine JQ_then ?_
  refine JC_seq ?_
  refine JC_region ?_
  refine JL_step (Step_alloc _ (cu8 (zr8 32)) Tryd.zeroValue25 (by kernel_rfl)) rfl ?_
  rintro v1 L1 ⟨nb6, hnb6, rfl, rfl⟩
  show JL _ _ _ _ ((5, Ptr nb6 0) :: _) [⟨nb1, cu8 (zr8 32), 25, (0, 0)⟩, ⟨nb3, cu8 (padL b) ++ sp1, 5, (0, 0)⟩, ⟨nb2, cu32 (stN constL initL (padL b) k), 31, (0, 0)⟩, ⟨nb6, cu8 (zr8 32), 25, (0, 0)⟩]
  refine JL_nil ?_
  refine JQ_then ?_
  refine JC_seq ?_
  refine JC_seq ?_
  refine JC_region ?_
  refine JL_val (.agg (cu32 (stN constL initL (padL b) k)).toArray) (Ev_load rfl (Ld_agg Tryd.isAgg31 Tryd.sizeOf31 (len_cu32 (stN_len initL_len k)) (MemAt.ent 2 rfl (Seg.whole _)))) rfl ?_
  refine JL_val _ (Ev_move rfl) rfl ?_
  refine JL_nil ?_
  refine JQ_then ?_
  refine JC_block ?_
  refine K_mask [true, false, false, true] ?_
  show JC _ _ _ _ [⟨nb1, cu8 (zr8 32), 25, (0, 0)⟩, ⟨nb6, cu8 (zr8 32), 25, (0, 0)⟩]
  refine JC_loop (ι := Nat × List UInt8) (fun ⟨i, o⟩ => [(2, Ptr nb1 0), (5, Ptr nb6 0), (18, .agg (cu32 (stN constL initL (padL b) k)).toArray), (19, I64 ((i:Int)))]) (fun ⟨i, o⟩ => [⟨nb1, cu8 (zr8 32), 25, (0, 0)⟩, ⟨nb6, cu8 o, 25, (0, 0)⟩]) (fun ⟨i, o⟩ => i ≤ 8 ∧ o = outN (stN constL initL (padL b) k) i ∧ o.length = 32) (fun ⟨i, o⟩ => 8 - i) (0, zr8 32) ⟨by omega, by rw [outN], zr8_len 32⟩ (Sub.cons rfl (Sub.cons rfl (Sub.cons rfl (Sub.cons rfl (Sub.nil))))) rfl ?_
  rintro ⟨i, o⟩ ⟨hz1, hz2, ho⟩
  show JC _ _ _ [(2, Ptr nb1 0), (5, Ptr nb6 0), (18, .agg (cu32 (stN constL initL (padL b) k)).toArray), (19, I64 ((i:Int)))] [⟨nb1, cu8 (zr8 32), 25, (0, 0)⟩, ⟨nb6, cu8 o, 25, (0, 0)⟩]
  refine JC_seq ?_
  refine JC_region ?_
  refine JL_val (.bool (decide (((i:Int)) < (8:Int)))) (Ev_bini rfl rfl fun _ => bin_lss_i _ _) rfl ?_
  refine JL_nil ?_
  refine JQ_then ?_
  refine JC_seq ?_
  refine JC_cond (decide (((i:Int)) < (8:Int))) rfl (fun hb1 => ?_) (fun hb1 => ?_)
  ·
   have hp1 : ((i:Int)) < (8:Int) := of_decide_eq_true hb1
   refine JC_skip ?_
   refine JQ_then ?_
   refine JC_seq ?_
   refine JC_block ?_
   refine JC_seq ?_
   refine JC_region ?_
   refine JL_val _ (Ev_move rfl) rfl ?_
   refine JL_val (U32 (g32 (stN constL initL (padL b) k) i)) (Ev_index1 8 30 _ Tryd.underlying31 Tryd.isAgg30 Tryd.sizeOf30 rfl rfl (by omega) (by omega) (Seg.get1 (Seg.get (g32_get (i := i) (by rw [(stN_len initL_len k)]; omega))) (by omega))) rfl ?_
   refine JL_val _ (Ev_assign rfl) rfl ?_
   refine JL_val _ (Ev_assign rfl) rfl ?_
   refine JL_nil ?_
   refine JQ_then ?_
   refine JC_region ?_
   refine JL_val _ (Ev_move rfl) rfl ?_
   refine JL_val (I64 (4*(i:Int))) (Ev_bini rfl rfl fun _ => bin_mul_i _ _ (4*(i:Int)) (by omega) (by omega)) rfl ?_
   refine JL_val (Slc nb6 (4*i) (32 - 4*i) (32 - 4*i)) (Ev_sliceA 32 5 1 (4*i) 32 (4*i) (32 - 4*i) Tryd.underlying25 Tryd.sizeOf5 rfl (some_i64 (by omega)) rfl (by omega) (by omega) (by omega) (by omega) (by omega) (32 - 4*i) (by omega)) rfl ?_
   refine JL_val _ (Ev_move rfl) rfl ?_
   refine JL_val (U32 ((g32 (stN constL initL (padL b) k) i) >>> (24:UInt32))) (Ev_bini rfl rfl fun _ => bin_shr_u32 (g32 (stN constL initL (padL b) k) i) _ _ 24 (by decide) rfl) rfl ?_
   refine JL_val (U8 (((g32 (stN constL initL (padL b) k) i) >>> (24:UInt32)).toUInt8)) (Ev_conv _ _ rfl fun _ => conv_u32_u8 (by rw [Tryd.underlying30]; rfl) Tryd.underlying5 _) rfl ?_
   refine JL_val _ (Ev_move rfl) rfl ?_
   refine JL_val (U32 ((g32 (stN constL initL (padL b) k) i) >>> (16:UInt32))) (Ev_bini rfl rfl fun _ => bin_shr_u32 (g32 (stN constL initL (padL b) k) i) _ _ 16 (by decide) rfl) rfl ?_
   refine JL_val (U8 (((g32 (stN constL initL (padL b) k) i) >>> (16:UInt32)).toUInt8)) (Ev_conv _ _ rfl fun _ => conv_u32_u8 (by rw [Tryd.underlying30]; rfl) Tryd.underlying5 _) rfl ?_
   refine JL_val _ (Ev_move rfl) rfl ?_
   refine JL_val (U32 ((g32 (stN constL initL (padL b) k) i) >>> (8:UInt32))) (Ev_bini rfl rfl fun _ => bin_shr_u32 (g32 (stN constL initL (padL b) k) i) _ _ 8 (by decide) rfl) rfl ?_
   refine JL_val (U8 (((g32 (stN constL initL (padL b) k) i) >>> (8:UInt32)).toUInt8)) (Ev_conv _ _ rfl fun _ => conv_u32_u8 (by rw [Tryd.underlying30]; rfl) Tryd.underlying5 _) rfl ?_
   refine JL_val _ (Ev_move rfl) rfl ?_
   refine JL_val (U8 ((g32 (stN constL initL (padL b) k) i).toUInt8)) (Ev_conv _ _ rfl fun _ => conv_u32_u8 (by rw [Tryd.underlying30]; rfl) Tryd.underlying5 _) rfl ?_
   refine JL_step (Step_buildSlice 5 1 _ [(0, U8 (((g32 (stN constL initL (padL b) k) i) >>> (24:UInt32)).toUInt8)), (1, U8 (((g32 (stN constL initL (padL b) k) i) >>> (16:UInt32)).toUInt8)), (2, U8 (((g32 (stN constL initL (padL b) k) i) >>> (8:UInt32)).toUInt8)), (3, U8 ((g32 (stN constL initL (padL b) k) i).toUInt8))] (cu8 ([((g32 (stN constL initL (padL b) k) i) >>> (24:UInt32)).toUInt8, ((g32 (stN constL initL (padL b) k) i) >>> (16:UInt32)).toUInt8, ((g32 (stN constL initL (padL b) k) i) >>> (8:UInt32)).toUInt8, (g32 (stN constL initL (padL b) k) i).toUInt8])) Tryd.underlying22 Tryd.sizeOf5 Tryd.zeroValue5 rfl rfl rfl (by kernel_rfl)) rfl ?_
   rintro v1 L1 ⟨nb7, hnb7, rfl, rfl⟩
   show JL _ _ _ _ ((37, Slc nb7 0 4 4) :: _) [⟨nb1, cu8 (zr8 32), 25, (0, 0)⟩, ⟨nb6, cu8 o, 25, (0, 0)⟩, ⟨nb7, cu8 ([((g32 (stN constL initL (padL b) k) i) >>> (24:UInt32)).toUInt8, ((g32 (stN constL initL (padL b) k) i) >>> (16:UInt32)).toUInt8, ((g32 (stN constL initL (padL b) k) i) >>> (8:UInt32)).toUInt8, (g32 (stN constL initL (padL b) k) i).toUInt8]), 5, (0, 0)⟩]
   have hl3 : (spl o (4*i) ([((g32 (stN constL initL (padL b) k) i) >>> (24:UInt32)).toUInt8, ((g32 (stN constL initL (padL b) k) i) >>> (16:UInt32)).toUInt8, ((g32 (stN constL initL (padL b) k) i) >>> (8:UInt32)).toUInt8, (g32 (stN constL initL (padL b) k) i).toUInt8])).length = 32 := by rw [spl_len (by simp [ho]; omega)]; simp [ho]
   refine JL_step (Step_copy 22 22 5 1 nb6 (4*i) (32 - 4*i) (32 - 4*i) (cu8 o) 25 (some ⟨nb7, 0, none⟩) 4 4 4 (cu8 ([((g32 (stN constL initL (padL b) k) i) >>> (24:UInt32)).toUInt8, ((g32 (stN constL initL (padL b) k) i) >>> (16:UInt32)).toUInt8, ((g32 (stN constL initL (padL b) k) i) >>> (8:UInt32)).toUInt8, (g32 (stN constL initL (padL b) k) i).toUInt8])) (cu8 (spl o (4*i) ([((g32 (stN constL initL (padL b) k) i) >>> (24:UInt32)).toUInt8, ((g32 (stN constL initL (padL b) k) i) >>> (16:UInt32)).toUInt8, ((g32 (stN constL initL (padL b) k) i) >>> (8:UInt32)).toUInt8, (g32 (stN constL initL (padL b) k) i).toUInt8]))) Tryd.underlying22 Tryd.size1_5 rfl rfl rfl (Nat.min_eq_left (by omega)) (by simp) (SrcAt.mem (MemAt.ent 2 rfl (Seg.whole _))) (by simp [ho]; try omega) (by first | exact one_u8 | exact one_u32 | exact one_u64 | (simp [cu8, cu32, cu64, Value.oneCell']; done)) (laySpl8 _ _ _ (by simp [ho]; omega))) rfl ?_
   rintro v1 L1 ⟨rfl, rfl⟩
   show JL _ _ _ _ ((38, I64 (4:Int)) :: _) [⟨nb1, cu8 (zr8 32), 25, (0, 0)⟩, ⟨nb6, cu8 (spl o (4*i) ([((g32 (stN constL initL (padL b) k) i) >>> (24:UInt32)).toUInt8, ((g32 (stN constL initL (padL b) k) i) >>> (16:UInt32)).toUInt8, ((g32 (stN constL initL (padL b) k) i) >>> (8:UInt32)).toUInt8, (g32 (stN constL initL (padL b) k) i).toUInt8])), 25, (0, 0)⟩, ⟨nb7, cu8 ([((g32 (stN constL initL (padL b) k) i) >>> (24:UInt32)).toUInt8, ((g32 (stN constL initL (padL b) k) i) >>> (16:UInt32)).toUInt8, ((g32 (stN constL initL (padL b) k) i) >>> (8:UInt32)).toUInt8, (g32 (stN constL initL (padL b) k) i).toUInt8]), 5, (0, 0)⟩]
   refine JL_nil ?_
   refine JQ_in_normal ?_
   refine JQ_then ?_
   refine JC_region ?_
   refine JL_val (I64 ((i:Int) + 1)) (Ev_bini rfl rfl fun _ => bin_add_i _ _ ((i:Int) + 1) (by omega) (by omega)) rfl ?_
   refine JL_val _ (Ev_move rfl) rfl ?_
   refine JL_nil ?_
   refine JQ_thenK ?_
   refine K_mask [true, true, false] ?_
   show K _ _ [⟨nb1, cu8 (zr8 32), 25, (0, 0)⟩, ⟨nb6, cu8 (spl o (4*i) ([((g32 (stN constL initL (padL b) k) i) >>> (24:UInt32)).toUInt8, ((g32 (stN constL initL (padL b) k) i) >>> (16:UInt32)).toUInt8, ((g32 (stN constL initL (padL b) k) i) >>> (8:UInt32)).toUInt8, (g32 (stN constL initL (padL b) k) i).toUInt8])), 25, (0, 0)⟩] _
   refine K_next (i + 1, spl o (4*i) ([((g32 (stN constL initL (padL b) k) i) >>> (24:UInt32)).toUInt8, ((g32 (stN constL initL (padL b) k) i) >>> (16:UInt32)).toUInt8, ((g32 (stN constL initL (padL b) k) i) >>> (8:UInt32)).toUInt8, (g32 (stN constL initL (padL b) k) i).toUInt8])) ⟨by omega, by rw [outN, ← hz2], hl3⟩ (by first | (simp; omega) | simp) (Sub.cons rfl (Sub.cons rfl (Sub.cons rfl (Sub.cons rfl (Sub.nil))))) rfl
  ·
   have hp1 : ¬ (((i:Int)) < (8:Int)) := of_decide_eq_false hb1
   refine JC_exit ?_
   refine JQ_then_exit ?_
   refine JQ_then_exit ?_
   refine JQ_in_same ?_
   refine JQ_then ?_
   refine JC_seq ?_
   refine JC_region ?_
   refine JL_val (.agg (cu8 o).toArray) (Ev_load rfl (Ld_agg Tryd.isAgg25 Tryd.sizeOf25 (len_cu8 ho) (MemAt.ent 1 rfl (Seg.whole _)))) rfl ?_
   refine JL_step (Step_store 0 nb1 0 32 (cu8 (zr8 32)) 25 (.agg (cu8 o).toArray) (cu8 o) (cu8 o) rfl rfl rfl (by first | rfl | simp) Tryd.sizeOf25 (len_cu8 ho) (by first | exact one_u8 | exact one_u32 | exact one_u64 | (simp [cu8, cu32, cu64, Value.oneCell']; done)) (by simp [(zr8_len 32)]) (lay_whole (by simp [(zr8_len 32), ho]))) rfl ?_
   rintro v1 L1 ⟨rfl, rfl⟩
   show JL _ _ _ _ _ [⟨nb1, cu8 o, 25, (0, 0)⟩, ⟨nb6, cu8 o, 25, (0, 0)⟩]
   refine JL_nil ?_
   refine JQ_then ?_
   refine JC_ret ?_
   refine JQ_retM D (.agg (cu8 o).toArray) rfl hD rfl hw'.here (fun _ => (res1 Tryd.results23 (RV_cell rfl (Ld_agg Tryd.isAgg25 Tryd.sizeOf25 (len_cu8 ho) (MemAt.ent 0 rfl (Seg.whole _)))))) (fun w1 hw1 => ?_)
   have hw1 := hw'.fin hD hDle hw1 (.deferred none)
   have e1 : i = 8 := by omega
   subst e1
   have e2 : k = (padL b).length / 64 := by have : 64*k = (padL b).length := hf; omega
   refine ⟨_, [], rfl, ⟨?_, rfl⟩, hw1.sub (by simp) (by simp)⟩
   rw [sumG, ← outN_hash, hz2, e2]
 ·
  intro D k c L' W' hgo hX
  exact hX.elim
end Go.Proofs.YtncoifiafklkjaaDoor
namespace Go.Proofs.YtncoifiafklkjaaDoor
open Go Go.Sx
set_option linter.unusedVariables false
set_option linter.unusedSimpArgs false
set_option maxRecDepth 100000
attribute [local irreducible] mid zr8 zr32 rotr wordL spreadL comprL cpN adN spN wrdN constL initL padL stN outN routN hashL sumG
theorem rsum_c (ao : Option Addr) (n cb : Nat) (b : List UInt8) (w : World) (hb : b.length = n) (hn : n ≤ 17592186044416) (hr : RdB w [] ao b) (hGr : GLr w) (hGi : GLi w) : Calls Tryd.prog 24 #[.slice ao n cb] w (Post w [] (fun v L => v = .agg (cu8 (sumG constL initL b)).toArray ∧ L = [])) := by
 have hpm := pad_mod b
 have hmx : maxLen ≤ 9223372036854775807 := by unfold maxLen; omega
 refine enter w [] 42 [] [.slice ao n cb] Tryd.func24 rfl rfl (by simp) (Hp.start (by simp) (by simp) (by simp)) ?_
 show JC _ _ _ [(0, .slice ao n cb)] _
 refine JC_seq ?_
 refine JC_region ?_
 refine JL_step (Step_alloc _ (cu8 (zr8 32)) Tryd.zeroValue25 (by kernel_rfl)) rfl ?_
 rintro v1 L1 ⟨nb1, hnb1, rfl, rfl⟩
 show JL _ _ _ _ ((2, Ptr nb1 0) :: _) [⟨nb1, cu8 (zr8 32), 25, (0, 0)⟩]
 refine JL_nil ?_
 refine JQ_then ?_
 refine JC_seq ?_
 refine JC_region ?_
 refine JL_val _ (Ev_move rfl) rfl ?_
 refine JL_step (Step_callN 27 [.slice ao n cb] _ (Cl_func [.slice ao n cb] Tryd.call27 rfl) (fun w1 hw1 => rpad_c ao n cb b w1 hb (by omega) (hr.at (M' := []) hw1 (by simp)))) rfl ?_
 rintro v1 L1 ⟨_, ⟨nb2, sp1, cp1, rfl, rfl, hc1, hc2, hc3⟩, rfl⟩
 show JL _ _ _ _ ((9, Slc nb2 0 ((padL b).length) cp1) :: _) [⟨nb1, cu8 (zr8 32), 25, (0, 0)⟩, ⟨nb2, cu8 (padL b) ++ sp1, 5, (0, 0)⟩]
 refine JL_val _ (Ev_assign rfl) rfl ?_
 refine JL_nil ?_
 refine JQ_then ?_
 refine JC_seq ?_
 refine JC_region ?_
 refine JL_val (.agg (cu32 initL).toArray) (Ev_load rfl (Ld_agg Tryd.isAgg31 Tryd.sizeOf31 (len_cu32 initL_len) (MemAt.seg ((id hGi : RdA w 1 0 (cu32 initL)).mem (by simp)) (Seg.whole _) (by omega)))) rfl ?_
 refine JL_step (Step_alloc _ (cu32 (zr32 8)) Tryd.zeroValue31 (by kernel_rfl)) rfl ?_
 rintro v1 L1 ⟨nb3, hnb3, rfl, rfl⟩
 show JL _ _ _ _ ((4, Ptr nb3 0) :: _) [⟨nb1, cu8 (zr8 32), 25, (0, 0)⟩, ⟨nb2, cu8 (padL b) ++ sp1, 5, (0, 0)⟩, ⟨nb3, cu32 (zr32 8), 31, (0, 0)⟩]
 refine JL_step (Step_store 2 nb3 0 8 (cu32 (zr32 8)) 31 (.agg (cu32 initL).toArray) (cu32 initL) (cu32 initL) rfl rfl rfl (by first | rfl | simp) Tryd.sizeOf31 (len_cu32 initL_len) (by first | exact one_u8 | exact one_u32 | exact one_u64 | (simp [cu8, cu32, cu64, Value.oneCell']; done)) (by simp [(zr32_len 8)]) (lay_whole (by simp [(zr32_len 8), initL_len]))) rfl ?_
 rintro v1 L1 ⟨rfl, rfl⟩
 show JL _ _ _ _ _ [⟨nb1, cu8 (zr8 32), 25, (0, 0)⟩, ⟨nb2, cu8 (padL b) ++ sp1, 5, (0, 0)⟩, ⟨nb3, cu32 initL, 31, (0, 0)⟩]
 refine JL_nil ?_
 refine JQ_then ?_
 refine JC_seq ?_
 refine JC_seq ?_
 refine JC_region ?_
 refine JL_val _ (Ev_assign rfl) rfl ?_
 refine JL_nil ?_
 refine JQ_then ?_
 refine JC_block ?_
 refine JC_loop (ι := Nat × List UInt32) (fun ⟨k, s⟩ => [(2, Ptr nb1 0), (3, Slc nb2 0 ((padL b).length) cp1), (4, Ptr nb3 0), (5, I64 (64*(k:Int)))]) (fun ⟨k, s⟩ => [⟨nb1, cu8 (zr8 32), 25, (0, 0)⟩, ⟨nb2, cu8 (padL b) ++ sp1, 5, (0, 0)⟩, ⟨nb3, cu32 s, 31, (0, 0)⟩]) (fun ⟨k, s⟩ => 64*k ≤ (padL b).length ∧ s = stN constL initL (padL b) k ∧ s.length = 8) (fun ⟨k, s⟩ => (padL b).length - k) (0, initL) ⟨by omega, by rw [stN], initL_len⟩ (Sub.cons rfl (Sub.cons rfl (Sub.cons rfl (Sub.cons rfl (Sub.nil))))) rfl ?_
 rintro ⟨k, s⟩ ⟨hx1, hx2, hs⟩
 show JC _ _ _ [(2, Ptr nb1 0), (3, Slc nb2 0 ((padL b).length) cp1), (4, Ptr nb3 0), (5, I64 (64*(k:Int)))] [⟨nb1, cu8 (zr8 32), 25, (0, 0)⟩, ⟨nb2, cu8 (padL b) ++ sp1, 5, (0, 0)⟩, ⟨nb3, cu32 s, 31, (0, 0)⟩]
 refine JC_seq ?_
 refine JC_seq ?_
 refine JC_region ?_
 refine JL_val _ (Ev_move rfl) rfl ?_
 refine JL_val _ (Ev_move rfl) rfl ?_
 refine JL_val (I64 (((padL b).length:Int))) (Ev_len Tryd.underlying22 rfl) rfl ?_
 refine JL_val (.bool (decide ((64*(k:Int)) < (((padL b).length:Int))))) (Ev_bini rfl rfl fun _ => bin_lss_i _ _) rfl ?_
 refine JL_nil ?_
 refine JQ_then ?_
 refine JC_cond (decide ((64*(k:Int)) < (((padL b).length:Int)))) rfl (fun hb1 => ?_) (fun hb1 => ?_)
 ·
  have hp1 : (64*(k:Int)) < (((padL b).length:Int)) := of_decide_eq_true hb1
  refine JC_skip ?_
  refine JQ_then ?_
  refine JC_seq ?_
  refine JC_block ?_
  refine JC_draw 42 3 [(0, .agg (cu32 s).toArray), (1, Slc nb2 0 ((padL b).length) cp1), (2, I64 (64*(k:Int))), (3, I64 (64*(k:Int))), (4, I64 (64*(k:Int) + 64)), (5, Slc nb2 (64*k) 64 (cp1 - 64*k))] Tryd.mixed rfl (by decide +kernel) ?_
  have hl1 : (mid (padL b) (64*k) 64).length = 64 := mid_len (by rw [(rfl : (padL b).length = _)]; omega)
  refine DP_one ⟨[], [0, 1, 2, 3, 4, 5], [], [0, 1, 2, 3, 4, 5], [6]⟩ 6 _ rfl rfl (by decide +kernel) rfl ⟨⟨_, rfl, Qok_val rfl (Ev_load rfl (Ld_agg Tryd.isAgg31 Tryd.sizeOf31 (len_cu32 hs) (MemAt.ent 2 rfl (Seg.whole _))))⟩, ⟨_, rfl, Qok_val rfl (Ev_move rfl)⟩, ⟨_, rfl, Qok_val rfl (Ev_move rfl)⟩, ⟨_, rfl, Qok_val rfl (Ev_move rfl)⟩, ⟨_, rfl, Qok_val rfl (Ev_bini rfl rfl fun _ => bin_add_i _ _ (64*(k:Int) + 64) (by omega) (by omega))⟩, ⟨_, rfl, Qok_val rfl (Ev_slice 5 1 (64*k) (64*k + 64) (64*k) (cp1 - 64*k) Tryd.underlying22 Tryd.sizeOf5 rfl (some_i64 (by omega)) (some_i64 (by omega)) (by omega) (by omega) (by omega) (by omega) (by omega) 64 (by omega))⟩, trivial⟩ rfl (Cok_step rfl (Step_callP 29 [.agg (cu32 s).toArray, Slc nb2 (64*k) 64 (cp1 - 64*k)] (.agg (cu32 (comprL constL s (mid (padL b) (64*k) 64))).toArray) (Cl_func [.agg (cu32 s).toArray, Slc nb2 (64*k) 64 (cp1 - 64*k)] Tryd.call29 rfl) (fun w1 hw1 => rcompress_c s (some ⟨nb2, (64*k), none⟩) (cp1 - 64*k) (mid (padL b) (64*k) 64) w1 hs hl1 (RdB.of hw1 (MemAt.ent 1 rfl (Seg.left (segm_u8 (64*k) 64 (by rw [(rfl : (padL b).length = _)]; omega)))) (by simp)) (GLr.at hw1 hGr)))) ?_
  rintro v1 L1 ⟨rfl, rfl⟩
  refine ⟨[], ?_⟩
  show DP _ _ _ _ _ _ _ _ [⟨nb1, cu8 (zr8 32), 25, (0, 0)⟩, ⟨nb2, cu8 (padL b) ++ sp1, 5, (0, 0)⟩, ⟨nb3, cu32 s, 31, (0, 0)⟩]
  refine DP_one ⟨[6], [0, 1, 2, 3, 4, 5], [0, 1, 2, 3, 4, 5], [], [7]⟩ 7 _ rfl rfl (by decide +kernel) rfl trivial rfl (Cok_step rfl (Step_store 2 nb3 0 8 (cu32 s) 31 (.agg (cu32 (comprL constL s (mid (padL b) (64*k) 64))).toArray) (cu32 (comprL constL s (mid (padL b) (64*k) 64))) (cu32 (comprL constL s (mid (padL b) (64*k) 64))) rfl rfl rfl (by first | rfl | simp) Tryd.sizeOf31 (len_cu32 (comprL_len hs)) (by first | exact one_u8 | exact one_u32 | exact one_u64 | (simp [cu8, cu32, cu64, Value.oneCell']; done)) (by simp [hs]) (lay_whole (by simp [hs, (comprL_len hs)])))) ?_
  rintro v1 L1 ⟨rfl, rfl⟩
  refine ⟨[], ?_⟩
  show DP _ _ _ _ _ _ _ _ [⟨nb1, cu8 (zr8 32), 25, (0, 0)⟩, ⟨nb2, cu8 (padL b) ++ sp1, 5, (0, 0)⟩, ⟨nb3, cu32 (comprL constL s (mid (padL b) (64*k) 64)), 31, (0, 0)⟩]
  refine DP_end ⟨[6, 7], [0, 1, 2, 3, 4, 5], [0, 1, 2, 3, 4, 5], [], []⟩ rfl rfl (by decide +kernel) rfl trivial ?_
  refine K_sub (F' := [(17, .agg (cu32 s).toArray), (18, Slc nb2 0 ((padL b).length) cp1), (19, I64 (64*(k:Int))), (20, I64 (64*(k:Int))), (21, I64 (64*(k:Int) + 64)), (22, Slc nb2 (64*k) 64 (cp1 - 64*k)), (23, .agg (cu32 (comprL constL s (mid (padL b) (64*k) 64))).toArray), (2, Ptr nb1 0), (3, Slc nb2 0 ((padL b).length) cp1), (4, Ptr nb3 0), (5, I64 (64*(k:Int))), (11, I64 (64*(k:Int))), (12, Slc nb2 0 ((padL b).length) cp1), (13, I64 (((padL b).length:Int))), (14, .bool (decide ((64*(k:Int)) < (((padL b).length:Int)))))]) (Sub.cons (by kernel_rfl) (Sub.cons (by kernel_rfl) (Sub.cons (by kernel_rfl) (Sub.cons (by kernel_rfl) (Sub.cons (by kernel_rfl) (Sub.cons (by kernel_rfl) (Sub.cons (by kernel_rfl) (Sub.cons (by kernel_rfl) (Sub.cons (by kernel_rfl) (Sub.cons (by kernel_rfl) (Sub.cons (by kernel_rfl) (Sub.cons (by kernel_rfl) (Sub.cons (by kernel_rfl) (Sub.cons (by kernel_rfl) (Sub.cons (by kernel_rfl) (Sub.nil)))))))))))))))) ?_
  show JQ _ _ _ [(17, .agg (cu32 s).toArray), (18, Slc nb2 0 ((padL b).length) cp1), (19, I64 (64*(k:Int))), (20, I64 (64*(k:Int))), (21, I64 (64*(k:Int) + 64)), (22, Slc nb2 (64*k) 64 (cp1 - 64*k)), (23, .agg (cu32 (comprL constL s (mid (padL b) (64*k) 64))).toArray), (2, Ptr nb1 0), (3, Slc nb2 0 ((padL b).length) cp1), (4, Ptr nb3 0), (5, I64 (64*(k:Int))), (11, I64 (64*(k:Int))), (12, Slc nb2 0 ((padL b).length) cp1), (13, I64 (((padL b).length:Int))), (14, .bool (decide ((64*(k:Int)) < (((padL b).length:Int)))))] _
  refine JQ_in_normal ?_
  refine JQ_then ?_
  refine JC_region ?_
  refine JL_val _ (Ev_move rfl) rfl ?_
  refine JL_val (I64 (64*(k:Int) + 64)) (Ev_bini rfl rfl fun _ => bin_add_i _ _ (64*(k:Int) + 64) (by omega) (by omega)) rfl ?_
  refine JL_val _ (Ev_assign rfl) rfl ?_
  refine JL_nil ?_
  refine JQ_thenK ?_
  refine K_next (k + 1, comprL constL s (mid (padL b) (64*k) 64)) ⟨by omega, by rw [stN, ← hx2], (comprL_len hs)⟩ (by first | (simp; omega) | simp) (Sub.cons rfl (Sub.cons rfl (Sub.cons rfl (Sub.cons rfl (Sub.nil))))) rfl
 ·
  have hp1 : ¬ ((64*(k:Int)) < (((padL b).length:Int))) := of_decide_eq_false hb1
  refine JC_exit ?_
  refine JQ_then_exit ?_
  refine JQ_then_exit ?_
  refine JQ_in_same ?_
  refine JQ_then ?_
  refine JC_seq ?_
  refine JC_region ?_
  refine JL_step (Step_alloc _ (cu8 (zr8 32)) Tryd.zeroValue25 (by kernel_rfl)) rfl ?_
  rintro v1 L1 ⟨nb4, hnb4, rfl, rfl⟩
  show JL _ _ _ _ ((6, Ptr nb4 0) :: _) [⟨nb1, cu8 (zr8 32), 25, (0, 0)⟩, ⟨nb2, cu8 (padL b) ++ sp1, 5, (0, 0)⟩, ⟨nb3, cu32 s, 31, (0, 0)⟩, ⟨nb4, cu8 (zr8 32), 25, (0, 0)⟩]
  refine JL_nil ?_
  refine JQ_then ?_
  refine JC_seq ?_
  refine JC_seq ?_
  refine JC_region ?_
  refine JL_val _ (Ev_assign rfl) rfl ?_
  refine JL_nil ?_
  refine JQ_then ?_
  refine JC_block ?_
  refine K_mask [true, false, true, true] ?_
  show JC _ _ _ _ [⟨nb1, cu8 (zr8 32), 25, (0, 0)⟩, ⟨nb3, cu32 s, 31, (0, 0)⟩, ⟨nb4, cu8 (zr8 32), 25, (0, 0)⟩]
  refine JC_loop (ι := Nat × List UInt8) (fun ⟨i, o⟩ => [(2, Ptr nb1 0), (4, Ptr nb3 0), (6, Ptr nb4 0), (7, I64 ((i:Int)))]) (fun ⟨i, o⟩ => [⟨nb1, cu8 (zr8 32), 25, (0, 0)⟩, ⟨nb3, cu32 s, 31, (0, 0)⟩, ⟨nb4, cu8 o, 25, (0, 0)⟩]) (fun ⟨i, o⟩ => i ≤ 32 ∧ o = routN s i ∧ o.length = 32) (fun ⟨i, o⟩ => 32 - i) (0, zr8 32) ⟨by omega, by rw [routN], zr8_len 32⟩ (Sub.cons rfl (Sub.cons rfl (Sub.cons rfl (Sub.cons rfl (Sub.nil))))) rfl ?_
  rintro ⟨i, o⟩ ⟨hz1, hz2, ho⟩
  show JC _ _ _ [(2, Ptr nb1 0), (4, Ptr nb3 0), (6, Ptr nb4 0), (7, I64 ((i:Int)))] [⟨nb1, cu8 (zr8 32), 25, (0, 0)⟩, ⟨nb3, cu32 s, 31, (0, 0)⟩, ⟨nb4, cu8 o, 25, (0, 0)⟩]
  refine JC_seq ?_
  refine JC_seq ?_
  refine JC_region ?_
  refine JL_val _ (Ev_move rfl) rfl ?_
  refine JL_val (.bool (decide (((i:Int)) < (32:Int)))) (Ev_bini rfl rfl fun _ => bin_lss_i _ _) rfl ?_
  refine JL_nil ?_
  refine JQ_then ?_
  refine JC_cond (decide (((i:Int)) < (32:Int))) rfl (fun hb2 => ?_) (fun hb2 => ?_)
  ·
   have hp2 : ((i:Int)) < (32:Int) := of_decide_eq_true hb2
   refine JC_skip ?_
   refine JQ_then ?_
   refine JC_seq ?_
   refine JC_block ?_
   refine JC_region ?_
   refine JL_val _ (Ev_move rfl) rfl ?_
   refine JL_val _ (Ev_move rfl) rfl ?_
   refine JL_val (I64 ((i / 4:Int))) (Ev_bini rfl rfl fun _ => bin_quo_i _ _ ((i / 4:Int)) (by omega) (by omega) (by omega)) rfl ?_
   refine JL_val (Ptr nb3 (i / 4)) (Ev_indexArr 8 30 1 (i / 4) Tryd.underlying31 Tryd.sizeOf30 rfl rfl (by omega) (by omega) (by omega)) rfl ?_
   refine JL_val (U32 (g32 s (i / 4))) (Ev_load rfl (Ld_one Tryd.isAgg30 (MemAt.ent 1 rfl (Seg.get (g32_get (i := (i / 4)) (by rw [hs]; omega)))))) rfl ?_
   refine JL_val _ (Ev_move rfl) rfl ?_
   refine JL_val (I64 ((i % 4:Int))) (Ev_bini rfl rfl fun _ => bin_rem_i _ _ ((i % 4:Int)) (by omega) (by omega) (by omega)) rfl ?_
   refine JL_val (I64 (8*(i % 4:Int))) (Ev_bini rfl rfl fun _ => bin_mul_i _ _ (8*(i % 4:Int)) (by omega) (by omega)) rfl ?_
   refine JL_val (I64 (-8*(i % 4:Int) + 24)) (Ev_bini rfl rfl fun _ => bin_sub_i _ _ (-8*(i % 4:Int) + 24) (by omega) (by omega)) rfl ?_
   refine JL_val (U64 (UInt64.ofNat (24 - 8*(i % 4)))) (Ev_conv _ _ rfl fun _ => conv_i64_u64 (by rw [Tryd.underlying3]; rfl) Tryd.underlying52 (24 - 8*(i % 4)) _ (by omega)) rfl ?_
   refine JL_val (U32 ((g32 s (i / 4)) >>> UInt32.ofNat (24 - 8*(i % 4)))) (Ev_bini rfl rfl fun _ => bin_shr_u32 (g32 s (i / 4)) _ _ (24 - 8*(i % 4)) (by omega) (ofN_i (by omega))) rfl ?_
   refine JL_val (U8 (((g32 s (i / 4)) >>> UInt32.ofNat (24 - 8*(i % 4))).toUInt8)) (Ev_conv _ _ rfl fun _ => conv_u32_u8 (by rw [Tryd.underlying30]; rfl) Tryd.underlying5 _) rfl ?_
   refine JL_val (Ptr nb4 i) (Ev_indexArr 32 5 1 i Tryd.underlying25 Tryd.sizeOf5 rfl rfl (by omega) (by omega) (by omega)) rfl ?_
   have hl2 : (o.set i (((g32 s (i / 4)) >>> UInt32.ofNat (24 - 8*(i % 4))).toUInt8)).length = 32 := by simp [ho]
   refine JL_step (Step_store 2 nb4 i 1 (cu8 o) 25 (U8 (((g32 s (i / 4)) >>> UInt32.ofNat (24 - 8*(i % 4))).toUInt8)) ([U8 (((g32 s (i / 4)) >>> UInt32.ofNat (24 - 8*(i % 4))).toUInt8)]) (cu8 (o.set i (((g32 s (i / 4)) >>> UInt32.ofNat (24 - 8*(i % 4))).toUInt8))) rfl rfl rfl rfl Tryd.sizeOf5 rfl (by simp [Value.oneCell']) (by simp [ho]; try omega) (lay8 _ _ _ (by rw [ho]; omega))) rfl ?_
   rintro v1 L1 ⟨rfl, rfl⟩
   show JL _ _ _ _ _ [⟨nb1, cu8 (zr8 32), 25, (0, 0)⟩, ⟨nb3, cu32 s, 31, (0, 0)⟩, ⟨nb4, cu8 (o.set i (((g32 s (i / 4)) >>> UInt32.ofNat (24 - 8*(i % 4))).toUInt8)), 25, (0, 0)⟩]
   refine JL_nil ?_
   refine JQ_in_normal ?_
   refine JQ_then ?_
   refine JC_region ?_
   refine JL_val _ (Ev_move rfl) rfl ?_
   refine JL_val (I64 ((i:Int) + 1)) (Ev_bini rfl rfl fun _ => bin_add_i _ _ ((i:Int) + 1) (by omega) (by omega)) rfl ?_
   refine JL_val _ (Ev_assign rfl) rfl ?_
   refine JL_nil ?_
   refine JQ_thenK ?_
   refine K_next (i + 1, o.set i (((g32 s (i / 4)) >>> UInt32.ofNat (24 - 8*(i % 4))).toUInt8)) ⟨by omega, by rw [routN, byteAt, ← hz2], hl2⟩ (by first | (simp; omega) | simp) (Sub.cons rfl (Sub.cons rfl (Sub.cons rfl (Sub.cons rfl (Sub.nil))))) rfl
  ·
   have hp2 : ¬ (((i:Int)) < (32:Int)) := of_decide_eq_false hb2
   refine JC_exit ?_
   refine JQ_then_exit ?_
   refine JQ_then_exit ?_
   refine JQ_in_same ?_
   refine JQ_then ?_
   refine JC_seq ?_
   refine JC_region ?_
   refine JL_val (.agg (cu8 o).toArray) (Ev_load rfl (Ld_agg Tryd.isAgg25 Tryd.sizeOf25 (len_cu8 ho) (MemAt.ent 2 rfl (Seg.whole _)))) rfl ?_
   refine JL_step (Step_store 0 nb1 0 32 (cu8 (zr8 32)) 25 (.agg (cu8 o).toArray) (cu8 o) (cu8 o) rfl rfl rfl (by first | rfl | simp) Tryd.sizeOf25 (len_cu8 ho) (by first | exact one_u8 | exact one_u32 | exact one_u64 | (simp [cu8, cu32, cu64, Value.oneCell']; done)) (by simp [(zr8_len 32)]) (lay_whole (by simp [(zr8_len 32), ho]))) rfl ?_
   rintro v1 L1 ⟨rfl, rfl⟩
   show JL _ _ _ _ _ [⟨nb1, cu8 o, 25, (0, 0)⟩, ⟨nb3, cu32 s, 31, (0, 0)⟩, ⟨nb4, cu8 o, 25, (0, 0)⟩]
   refine JL_nil ?_
   refine JQ_then ?_
   refine JC_ret ?_
   refine JQ_ret (.agg (cu8 o).toArray) (res1 Tryd.results24 (RV_cell rfl (Ld_agg Tryd.isAgg25 Tryd.sizeOf25 (len_cu8 ho) (MemAt.ent 0 rfl (Seg.whole _))))) fun w1 hw1 => ?_
   have e1 : i = 32 := by omega
   have e2 : k = (padL b).length / 64 := by omega
   subst e1
   refine ⟨_, [], rfl, ⟨?_, rfl⟩, hw1.sub (by simp) (by simp)⟩
   rw [sumG, ← routN_hash, hz2, hx2, e2]
end Go.Proofs.YtncoifiafklkjaaDoor
namespace Go.Sx
open Go Go.RowKit
open Go.ChangeShapes Go.WideShapes
set_option linter.unusedVariables false
set_option linter.unusedSimpArgs false
theorem laidVars_mem {P : Program} {w : World} : ∀ {l : List (String × DataW Unit)} {ps : List MemPlace}, DataW.LaidVars P w l ps → ∀ {n : String} {d : DataW Unit}, (n, d) ∈ l →
    ∃ g t cs fuel p, P.globalNamed n = some g ∧ (P.globals[g]?).map (·.type) = some t ∧ w.var? P n = some cs ∧ DataW.trod (fun _ => ()) P w 0 (fun _ => true) false fuel t cs.toList = some (d, p)
  | (n', d') :: r, ps, h, n, d, hm => by
    obtain ⟨g, t, cs, fuel, p, q, h1, h2, h3, h4, h5, _⟩ := h
    rcases List.mem_cons.1 hm with hm | hm
    · cases hm; exact ⟨g, t, cs, fuel, p, h1, h2, h3, h4⟩
    · exact laidVars_mem h5 hm
theorem laid_rd {P : Program} {W : World} {laid : List (String × DataW Unit)} (h : laidMetH P laid W) (hp : (laid.all fun x => x.2.handleName?.isNone) = true) {name : String} {d : DataW Unit} (hm : (name, d) ∈ laid) (l : List UInt32)
  (hd : d = Lib.tabData .u32 (l.map fun u => (u.toNat : Int))) {g t e n : Nat}
  (hg : P.globalNamed name = some g) (hty : (P.globals[g]?).map (·.type) = some t) (ht : P.underlying t = some (.array n e)) (he : P.underlying e = some (.int .u32)) (hce : P.cellsOf e = 1) (hct : P.cellsOf t = n) (hl : 0 < l.length) : RdA W g 0 (cu32 l) := by
 rw [MakeChecks.laidMetH_plain _ _ _ hp] at h
 obtain ⟨ps, hv, _, _⟩ := h
 obtain ⟨g', t', cs, fuel, p, hg', ht', hvar, htr⟩ := laidVars_mem hv hm
 obtain rfl := Option.some.inj (hg.symm.trans hg')
 obtain rfl := Option.some.inj (hty.symm.trans ht')
 subst hd
 have hcs := Lib.cells_of_tab ht he hce hct htr
 have key : ∀ j v, (cu32 l)[j]? = some v → W.cell? ⟨g, 0 + j, none⟩ = some v := fun j v hj => by
  have := World.var?_cell hg hvar j
  rw [Nat.zero_add, this, ← Array.getElem?_toList, hcs]
  simpa [cu32] using hj
 have h0 : (cu32 l)[0]? = some (U32 (l[0]'hl)) := by simp [cu32, hl]
 exact ⟨lt_of_cell (key 0 _ h0), key⟩
end Go.Sx
namespace Go.Sx
open Go Go.RowKit Go.Proofs
set_option linter.unusedVariables false
set_option linter.unusedSimpArgs false
theorem RdB.holds {w : World} {ao : Option Addr} {n c : Nat} {z : List UInt8} (hr : RdB w [] ao z) (hn : z.length = n) : Lib.HoldsBytes w (.slice ao n c) z := by
  subst hn
  refine ⟨ao, c, rfl, ?_, ?_⟩
  · rintro rfl
    rcases hr with h | ⟨_, _, h, _⟩
    · exact h
    · cases h
  · intro a ha i x hx
    rcases hr with rfl | ⟨b, off, rfl, _, _, hc⟩
    · simp at hx
    · cases ha
      have := hc i (U8 x) (by simp [cu8, hx])
      rw [show (⟨b, off, none⟩ : Addr).add i = ⟨b, off + i, none⟩ from Lib.add_plain2 b off i]
      exact this
theorem fresh_ent {B : Nat} {w' : World} {v : Value} {l : List UInt8} (h : Lib.FreshBytes B w' v l) (hl : 0 < l.length) :
    ∃ g sp cap T fz, v = Slc g 0 l.length cap ∧ B ≤ g ∧ l.length ≤ cap ∧ cap ≤ maxLen ∧ w'.heap[g]? = some (.cells (cu8 l ++ sp).toArray T fz) := by
  obtain ⟨g, cap, zs, rfl, hB, hc, hm, hz, hr, hb, hcell, _⟩ := h
  have h0 := hcell 0 (by omega)
  have : ∃ cs T fz, w'.heap[g]? = some (.cells cs T fz) := by
    unfold World.cell? at h0
    split at h0
    · rename_i cs T fz he; exact ⟨cs, T, fz, he⟩
    · simp at h0
  obtain ⟨cs, T, fz, he⟩ := this
  have key : ∀ i, i < cap → cs[i]? = some (.int .u8 (zs.getD i 0)) := fun i hi => by
    have := hcell i hi
    simpa [World.cell?, he] using this
  refine ⟨g, cs.toList.drop l.length, cap, T, fz, rfl, hB, hc, hm, ?_⟩
  rw [he]
  have e1 : cs.toList.take l.length = cu8 l := by
    apply List.ext_getElem?
    intro i
    by_cases hi : i < l.length
    · rw [List.getElem?_take, if_pos hi]
      have k := key i (by omega)
      rw [← Array.getElem?_toList] at k
      rw [k]
      obtain ⟨x, hzi⟩ : ∃ x, zs[i]? = some x := ⟨_, List.getElem?_eq_getElem (show i < zs.length by omega)⟩
      have hrange := hr x (List.mem_of_getElem? hzi)
      have hli : l[i]? = some (UInt8.ofNat x.toNat) := by
        have := congrArg (fun q => q[i]?) hb
        simp only [Lib.bytesOf, List.getElem?_map, List.getElem?_take, if_pos hi, hzi, Option.map_some] at this
        exact this.symm
      have hx : ((UInt8.ofNat x.toNat).toNat : Int) = x := by
        rw [UInt8.toNat_ofNat']
        have : x.toNat < 256 := by omega
        rw [Nat.mod_eq_of_lt (by simpa using this)]
        omega
      simp only [cu8, List.getElem?_map, hli, Option.map_some, List.getD_eq_getElem?_getD, hzi, Option.getD_some]
      show _ = some (Value.int .u8 ((UInt8.ofNat x.toNat).toNat : Int))
      rw [hx]
    · rw [List.getElem?_eq_none (by simp; omega), List.getElem?_eq_none (by simp [cu8]; omega)]
  rw [← e1, List.take_append_drop]
def JoinR (l : List UInt8) (v : Value) (L : List Ent) : Prop :=
 (l = [] ∧ ∃ ao c, v = .slice ao 0 c ∧ L = [] ∧ (ao = none → c = 0)) ∨
 (0 < l.length ∧ ∃ g sp cap T fz, v = Slc g 0 l.length cap ∧ L = [⟨g, cu8 l ++ sp, T, fz⟩] ∧ l.length ≤ cap ∧ cap ≤ maxLen)
theorem join_post {w : World} {l : List UInt8} {v : Value} {w' : World} (h : Lib.FreshBytes w.heap.size w' v l) (hb : Below w.heap.size w w') : Post w [] (JoinR l) (.returned v) w' := by
  by_cases hl : 0 < l.length
  · obtain ⟨g, sp, cap, T, fz, hv, hB, hc, hm, he⟩ := fresh_ent h hl
    refine ⟨v, _, rfl, .inr ⟨hl, g, sp, cap, T, fz, hv, rfl, hc, hm⟩, ⟨hb.os, hb.tape, hb.output, hb.size, fun b hbl _ => hb.block b hbl, ?_, by simp, ?_⟩⟩
    · intro e he'; simp at he'; subst he'; exact he
    · intro e he'; simp at he'; subst he'; exact .inr hB
  · have hn : l = [] := by simpa using hl
    subst hn
    obtain ⟨g, cap, zs, rfl, _⟩ := h
    exact ⟨_, [], rfl, .inl ⟨rfl, _, _, rfl, rfl, fun h => by cases h⟩, ⟨hb.os, hb.tape, hb.output, hb.size, fun b hbl _ => hb.block b hbl, by simp, by simp, by simp⟩⟩
def PL (w : World) : List Value → List (List UInt8) → Prop
 | [], [] => True
 | v :: vs, l :: ls => (∃ ao c, v = .slice ao l.length c ∧ RdB w [] ao l) ∧ PL w vs ls
 | _, _ => False
theorem PL.len {w : World} : ∀ {vs : List Value} {ls : List (List UInt8)}, PL w vs ls → vs.length = ls.length
 | [], [], _ => rfl
 | _ :: _, _ :: _, h => by simp [PL.len h.2]
 | [], _ :: _, h => h.elim
 | _ :: _, [], h => h.elim
theorem PL.get {w : World} : ∀ {vs : List Value} {ls : List (List UInt8)}, PL w vs ls → ∀ (i : Nat) v l, vs[i]? = some v → ls[i]? = some l → ∃ ao c, v = .slice ao l.length c ∧ RdB w [] ao l
 | _ :: _, _ :: _, h, 0, v, l, hv, hl => by simp at hv hl; subst hv; subst hl; exact h.1
 | _ :: _, _ :: _, h, i + 1, v, l, hv, hl => PL.get h.2 i v l (by simpa using hv) (by simpa using hl)
 | [], [], _, i, v, l, hv, _ => by simp at hv
 | [], _ :: _, h, _, _, _, _, _ => h.elim
 | _ :: _, [], h, _, _, _, _, _ => h.elim
theorem PL.at {C : Cx} {L : List Ent} {w : World} (hw : Hp C.w0 C.M L w) (hM : C.M = []) : ∀ {vs : List Value} {ls : List (List UInt8)}, PL C.w0 vs ls → PL w vs ls
 | [], [], _ => trivial
 | v :: vs, l :: ls, ⟨⟨ao, c, hv, hr⟩, h⟩ => by
  rw [← hM] at hr
  exact ⟨⟨ao, c, hv, hr.at (M' := []) hw (by simp)⟩, PL.at hw hM h⟩
 | [], _ :: _, h => h.elim
 | _ :: _, [], h => h.elim
def Parts (w : World) (b : Nat) (vs : List Value) (ls : List (List UInt8)) : Prop := RdA w b 0 vs ∧ PL w vs ls
theorem Parts.at {C : Cx} {L : List Ent} {w : World} {b : Nat} {vs : List Value} {ls : List (List UInt8)} (hw : Hp C.w0 C.M L w) (hM : C.M = []) (h : Parts C.w0 b vs ls) (h0 : 0 < ls.length) : Parts w b vs ls :=
 ⟨RdA.of hw (h.1.mem (by simp [hM])) (by rw [h.2.len]; exact h0), h.2.at hw hM⟩
theorem lens_flat : ∀ ls : List (List UInt8), Lib.lens ls = ls.flatten.length
 | [] => rfl
 | l :: ls => by have := lens_flat ls; simp only [Lib.lens, List.map_cons, List.sum_cons, List.flatten_cons, List.length_append] at this ⊢; omega
theorem join_flat : ∀ ls : List (List UInt8), Lib.join ls [] = ls.flatten
 | [] => rfl
 | l :: ls => by rw [Lib.join_cons, Lib.joinTail]; simp
variable {P : Program} {ρ : Shelf.Ren}
theorem joinN (Lw : SlLaysJ.n14 P ρ) (b c : Nat) (vs : List Value) (ls : List (List UInt8)) (w : World) (hk : 1 ≤ ls.length) (hc : ls.length ≤ c) (hk2 : ls.length ≤ 1000) (hp : Parts w b vs ls) (hs : ls.flatten.length ≤ 17592186044416) :
    Calls P (ρ.f 14) #[.slice (some ⟨b, 0, none⟩) ls.length c, .slice none 0 0] w (Post w [] (JoinR ls.flatten)) := by
  obtain ⟨hA, hP⟩ := hp
  have hcell : ∀ j v, vs[j]? = some v → w.cell? ⟨b, j, none⟩ = some v := fun j v hj => by simpa using hA.2 j v hj
  by_cases h2 : 2 ≤ ls.length
  · refine (Any.bytes_Join_many Lw b 0 ls.length c vs ls (.slice none 0 0) [] w rfl h2 ⟨hP.len, fun i v hv => ?_, fun i v l hv hl => ?_⟩ hc ⟨none, 0, rfl, fun _ => rfl, fun a ha => by cases ha⟩ (by omega) (by rw [lens_flat, List.length_nil, Nat.zero_mul]; omega)).mono ?_
    · rw [Lib.add_plain2, Nat.zero_add]; exact hcell i v hv
    · obtain ⟨ao, c', rfl, hr⟩ := hP.get i v l hv hl
      exact hr.holds rfl
    · rintro e w' ⟨v', rfl, hf, hb⟩
      rw [join_flat] at hf
      exact join_post hf hb
  · match vs, ls, hP with
    | [v], [l], ⟨⟨ao, c0, hv, hr⟩, _⟩ =>
      subst hv
      have h0 := hcell 0 _ rfl
      by_cases hl : l.length = 0
      · have : l = [] := by simpa using hl
        subst this
        refine (Any.bytes_Join_one_empty Lw b 0 c ao c0 (.slice none 0 0) w h0).mono ?_
        rintro e w' ⟨rfl, rfl⟩
        exact ⟨_, [], rfl, .inl ⟨rfl, none, 0, rfl, rfl, fun _ => rfl⟩, Hp.start (by simp) (by simp) (by simp)⟩
      · rcases hr with rfl | ⟨b', off, rfl, _, _, hcc⟩
        · simp at hl
        · refine (Any.bytes_Join_one Lw b 0 c ⟨b', off, none⟩ c0 l (.slice none 0 0) w h0 (fun i x hx => ?_) (by omega) (by simp at hs; omega)).mono ?_
          · rw [Lib.add_plain2]
            exact hcc i (U8 x) (by simp [cu8, hx])
          · rintro e w' ⟨v', rfl, hf, hb⟩
            have := join_post hf hb
            simpa using this
    | [], [], _ => simp at hk
    | _ :: _ :: _, [_], h => exact absurd h.len (by simp)
    | [], [_], h => exact h.elim
    | _, _ :: _ :: _, _ => simp at h2
end Go.Sx
namespace Go.Proofs.YtncoifiafklkjaaDoor
open Go Go.Sx
set_option linter.unusedVariables false
set_option linter.unusedSimpArgs false
set_option maxRecDepth 100000
attribute [local irreducible] mid zr8 zr32 rotr wordL spreadL comprL cpN adN spN wrdN constL initL padL stN outN routN hashL sumG
def rhoJ : Shelf.Ren := ⟨fun x => if x = 14 then 88 else if x = 15 then 116 else x, fun x => if x = 0 then 0 else if x = 3 then 3 else if x = 4 then 4 else if x = 9 then 9 else if x = 20 then 20 else if x = 22 then 22 else if x = 26 then 125 else if x = 5 then 5 else x, fun x => x⟩
set_option maxRecDepth 1000000 in
theorem joinLays : SlLaysJ.n14 Tryd.prog rhoJ where
 mixed := Tryd.mixed
 f14 := by kernel_rfl
 f15 := by kernel_rfl
 t0 := by kernel_rfl
 a0 := fun _ => by kernel_rfl
 z0 := fun _ => by kernel_rfl
 v0 := fun _ => by kernel_rfl
 t3 := by kernel_rfl
 a3 := fun _ => by kernel_rfl
 z3 := fun _ => by kernel_rfl
 v3 := fun _ => by kernel_rfl
 t4 := by kernel_rfl
 a4 := fun _ => by kernel_rfl
 z4 := fun _ => by kernel_rfl
 v4 := fun _ => by kernel_rfl
 t9 := by kernel_rfl
 a9 := fun _ => by kernel_rfl
 z9 := fun _ => by kernel_rfl
 v9 := fun _ => by kernel_rfl
 t20 := by kernel_rfl
 a20 := fun _ => by kernel_rfl
 z20 := fun _ => by kernel_rfl
 v20 := fun _ => by kernel_rfl
 t22 := by kernel_rfl
 a22 := fun _ => by kernel_rfl
 z22 := fun _ => by kernel_rfl
 v22 := fun _ => by kernel_rfl
 t26 := by kernel_rfl
 a26 := fun _ => by kernel_rfl
 z26 := fun _ => by kernel_rfl
 v26 := fun _ => by kernel_rfl
 t5 := by kernel_rfl
 z5 := fun _ => by kernel_rfl
 i5 := by kernel_rfl
theorem join_c (b c : Nat) (vs : List Value) (ls : List (List UInt8)) (w : World) (hk : 1 ≤ ls.length) (hc : ls.length ≤ c) (hk2 : ls.length ≤ 1000) (hp : Parts w b vs ls) (hs : ls.flatten.length ≤ 17592186044416) : Calls Tryd.prog 88 #[.slice (some ⟨b, 0, none⟩) ls.length c, .slice none 0 0] w (Post w [] (JoinR ls.flatten)) :=
 joinN joinLays b c vs ls w hk hc hk2 hp hs
theorem of_c (b c : Nat) (vs : List Value) (ls : List (List UInt8)) (w : World) (hk : 1 ≤ ls.length) (hc : ls.length ≤ c) (hk2 : ls.length ≤ 1000) (hp : Parts w b vs ls) (hs : ls.flatten.length ≤ 1000000000) (hG : GLs w) : Calls Tryd.prog 30 #[.slice (some ⟨b, 0, none⟩) ls.length c] w (Post w [] (fun v L => v = .agg (cu8 (sumG constL initL ls.flatten)).toArray ∧ L = [])) := by
 refine enter w [] 6 [] [.slice (some ⟨b, 0, none⟩) ls.length c] Tryd.func30 rfl rfl (by simp) (Hp.start (by simp) (by simp) (by simp)) ?_
 show JC _ _ _ [(0, .slice (some ⟨b, 0, none⟩) ls.length c)] _
 refine JC_seq ?_
 refine JC_region ?_
 refine JL_step (Step_alloc _ (cu8 (zr8 32)) Tryd.zeroValue25 (by kernel_rfl)) rfl ?_
 rintro v1 L1 ⟨nb1, hnb1, rfl, rfl⟩
 show JL _ _ _ _ ((2, Ptr nb1 0) :: _) [⟨nb1, cu8 (zr8 32), 25, (0, 0)⟩]
 refine JL_nil ?_
 refine JQ_then ?_
 refine JC_seq ?_
 refine JC_region ?_
 refine JL_val _ (Ev_move rfl) rfl ?_
 refine JL_step (Step_callN 88 [.slice (some ⟨b, 0, none⟩) ls.length c, .slice none 0 0] _ (Cl_func [.slice (some ⟨b, 0, none⟩) ls.length c, .slice none 0 0] Tryd.call88 rfl) (fun w1 hw1 => join_c b c vs ls w1 hk hc hk2 (hp.at hw1 rfl (by omega)) (by omega))) rfl ?_
 rintro v1 L1 ⟨_, (⟨he1, ao1, ca1, rfl, rfl, hn1⟩ | ⟨hp1, nb2, sp1, cp1, tj1, fj1, rfl, rfl, hl1, hm1⟩), rfl⟩
 ·
  show JL _ _ _ _ ((4, .slice ao1 0 ca1) :: _) [⟨nb1, cu8 (zr8 32), 25, (0, 0)⟩]
  refine JL_step (Step_callP 23 [.slice ao1 0 ca1] (.agg (cu8 (sumG constL initL ([] : List UInt8))).toArray) (Cl_func [.slice ao1 0 ca1] Tryd.call23 rfl) (fun w1 hw1 => sum_c ao1 0 ca1 ([] : List UInt8) w1 rfl hn1 (by omega) RdB.nil (hG.at hw1))) rfl ?_
  rintro v1 L1 ⟨rfl, rfl⟩
  show JL _ _ _ _ ((5, .agg (cu8 (sumG constL initL ([] : List UInt8))).toArray) :: _) [⟨nb1, cu8 (zr8 32), 25, (0, 0)⟩]
  refine JL_step (Step_store 0 nb1 0 32 (cu8 (zr8 32)) 25 (.agg (cu8 (sumG constL initL ([] : List UInt8))).toArray) (cu8 (sumG constL initL ([] : List UInt8))) (cu8 (sumG constL initL ([] : List UInt8))) rfl rfl rfl (by first | rfl | simp) Tryd.sizeOf25 (len_cu8 (sumG_len _ _ _)) (by first | exact one_u8 | exact one_u32 | exact one_u64 | (simp [cu8, cu32, cu64, Value.oneCell']; done)) (by simp [(zr8_len 32)]) (lay_whole (by simp [(zr8_len 32), (sumG_len _ _ _)]))) rfl ?_
  rintro v1 L1 ⟨rfl, rfl⟩
  show JL _ _ _ _ _ [⟨nb1, cu8 (sumG constL initL ([] : List UInt8)), 25, (0, 0)⟩]
  refine JL_nil ?_
  refine JQ_then ?_
  refine JC_ret ?_
  refine JQ_ret (.agg (cu8 (sumG constL initL ([] : List UInt8))).toArray) (res1 Tryd.results30 (RV_cell rfl (Ld_agg Tryd.isAgg25 Tryd.sizeOf25 (len_cu8 (sumG_len _ _ _)) (MemAt.ent 0 rfl (Seg.whole _))))) fun w1 hw1 => ?_
  refine ⟨_, [], rfl, ⟨?_, rfl⟩, hw1.sub (by simp) (by simp)⟩
  first | rfl | rw [he1]
 ·
  show JL _ _ _ _ ((4, Slc nb2 0 ls.flatten.length cp1) :: _) [⟨nb1, cu8 (zr8 32), 25, (0, 0)⟩, ⟨nb2, cu8 ls.flatten ++ sp1, tj1, fj1⟩]
  refine JL_step (Step_callP 23 [Slc nb2 0 ls.flatten.length cp1] (.agg (cu8 (sumG constL initL ls.flatten)).toArray) (Cl_func [Slc nb2 0 ls.flatten.length cp1] Tryd.call23 rfl) (fun w1 hw1 => sum_c (some ⟨nb2, 0, none⟩) ls.flatten.length cp1 ls.flatten w1 (rfl : ls.flatten.length = _) (fun h => by cases h) (by omega) (RdB.of hw1 (MemAt.ent 1 rfl (Seg.left (Seg.whole _))) (by simp)) (hG.at hw1))) rfl ?_
  rintro v1 L1 ⟨rfl, rfl⟩
  show JL _ _ _ _ ((5, .agg (cu8 (sumG constL initL ls.flatten)).toArray) :: _) [⟨nb1, cu8 (zr8 32), 25, (0, 0)⟩, ⟨nb2, cu8 ls.flatten ++ sp1, tj1, fj1⟩]
  refine JL_step (Step_store 0 nb1 0 32 (cu8 (zr8 32)) 25 (.agg (cu8 (sumG constL initL ls.flatten)).toArray) (cu8 (sumG constL initL ls.flatten)) (cu8 (sumG constL initL ls.flatten)) rfl rfl rfl (by first | rfl | simp) Tryd.sizeOf25 (len_cu8 (sumG_len _ _ _)) (by first | exact one_u8 | exact one_u32 | exact one_u64 | (simp [cu8, cu32, cu64, Value.oneCell']; done)) (by simp [(zr8_len 32)]) (lay_whole (by simp [(zr8_len 32), (sumG_len _ _ _)]))) rfl ?_
  rintro v1 L1 ⟨rfl, rfl⟩
  show JL _ _ _ _ _ [⟨nb1, cu8 (sumG constL initL ls.flatten), 25, (0, 0)⟩, ⟨nb2, cu8 ls.flatten ++ sp1, tj1, fj1⟩]
  refine JL_nil ?_
  refine JQ_then ?_
  refine JC_ret ?_
  refine JQ_ret (.agg (cu8 (sumG constL initL ls.flatten)).toArray) (res1 Tryd.results30 (RV_cell rfl (Ld_agg Tryd.isAgg25 Tryd.sizeOf25 (len_cu8 (sumG_len _ _ _)) (MemAt.ent 0 rfl (Seg.whole _))))) fun w1 hw1 => ?_
  refine ⟨_, [], rfl, ⟨?_, rfl⟩, hw1.sub (by simp) (by simp)⟩
  first | rfl | rw [he1]
end Go.Proofs.YtncoifiafklkjaaDoor
namespace Go.Sx
open Go Go.RowKit
set_option linter.unusedVariables false
set_option linter.unusedSimpArgs false
variable {C : Cx} {F : Frm} {L : List Ent}
theorem Step_appG8 {x y : Operand} {ty : TypeId} (t e : Nat) (a0 : Addr) (n cap : Nat) (l z : List UInt8) (ao : Option Addr) (k c tot : Nat)
    (hu : C.P.underlying t = some (.slice e)) (hi : (C.P.info? e).map (fun i => (i.zero, i.size, i.bytes)) = some (some (.int .u8 0), 1, 1))
    (hx : ev F x = some (.slice (some a0) n cap)) (hl : l.length = n) (hr : SrcAt C L (some a0) (cu8 l))
    (hy : ev F y = some (.slice ao k c)) (hk : z.length = k) (hm : SrcAt C L ao (cu8 z)) (hk0 : 0 < k) (hg : cap < n + k) (hmax : (n + k) * 1 ≤ 140737488355328) (hmax' : n + k ≤ maxLen) (htot : n + k = tot) :
    Step C F L (.call { callee := .builtin .append, args := #[x, y], argTypes := #[t, t] }) ty fun v' L' => ∃ g sp cap', C.w0.heap.size ≤ g ∧ v' = Slc g 0 tot cap' ∧ L' = L ++ [⟨g, cu8 (l ++ z) ++ sp, e, (0, 0)⟩] ∧ (l ++ z).length = tot ∧ sp.length = cap' - tot ∧ tot ≤ cap' ∧ cap' ≤ maxLen :=
  Step_run fun a w ha hw d pos aft g => by
  subst htot
  obtain ⟨i, hi1, hi2, hi3, hi4⟩ := info_of hi
  have he := ha.ev hx
  have he' := ha.ev hy
  cases ao with
  | none =>
    have := hm.1 rfl
    have hz : z = [] := by simpa [cu8] using this
    subst hz; simp at hk; omega
  | some ad =>
    have hsrc : ∀ j u, (cu8 z)[j]? = some u → w.cell? (ad.add j) = some u := fun j u hj => hm.2 ad rfl w hw j u hj
    have hold : ∀ j u, (cu8 l)[j]? = some u → w.cell? (a0.add j) = some u := fun j u hj => hr.2 a0 rfl w hw j u hj
    obtain ⟨v', w', hrun, hown, hgr⟩ := run_append_arg_grows (P := C.P) (w := w) t ty e i (.int .u8 0) 1 1 hu hi1 hi2 hi3 hi4 rfl (by decide) a0 n cap (cu8 l) (by simp [cu8, hl]) hold ad k c (cu8 z) (by simp [cu8, hk]) hsrc hg hmax' hmax
    obtain ⟨hlen, hcase⟩ := hown
    rcases hcase with ⟨_, h5⟩ | ⟨g', cap', cur, rfl, hb, hh, hcap, hmaxl, hsz, htk⟩
    · omega
    · have hcur : cur = (cu8 (l ++ z) ++ cur.toList.drop ((n + k) * 1)).toArray := by
        apply Array.toList_inj.1
        rw [cu8, List.map_append]
        show cur.toList = (cu8 l ++ cu8 z) ++ _
        rw [← htk]; simp
      refine ⟨_, L ++ [⟨g', cu8 (l ++ z) ++ cur.toList.drop ((n + k) * 1), e, (0, 0)⟩], w', ⟨g', cur.toList.drop ((n + k) * 1), cap', Nat.le_trans hw.le hb, rfl, rfl, by simp [hl, hk], ?_, hcap, hmaxl⟩, hw.grown (m := []) none hgr (fun b hb => by cases hb) (by rw [← hcur]; exact hh) (.inl hb), .inl ?_⟩
      · have := congrArg Array.size hcur
        rw [hsz] at this
        simp [cu8, hl, hk] at this
        simp; omega
      · simp [execOp, resolve, invoke, he, he', builtin, hrun]
end Go.Sx
namespace Go.Proofs.YtncoifiafklkjaaDoor
open Go Go.Sx
set_option linter.unusedVariables false
set_option linter.unusedSimpArgs false
def blkL (b : List UInt8) : List UInt8 := if 64 < b.length then spl (zr8 64) 0 (sumG constL initL b) else spl (zr8 64) 0 b
theorem blkL_len (b : List UInt8) : (blkL b).length = 64 := by
  unfold blkL
  split
  · rw [spl_len (by rw [sumG_len, zr8_len]; omega), zr8_len]
  · rw [spl_len (by rw [zr8_len]; omega), zr8_len]
theorem spl_zr (v : List UInt8) {n : Nat} (h : v.length = n) : spl (zr8 64) 0 v = v ++ zr8 (64 - n) := by
 subst h
 rw [spl, List.take_zero, List.nil_append, Nat.zero_add, zr8, zr8, List.drop_replicate]
theorem blkL_big {b : List UInt8} (h : 64 < b.length) : blkL b = sumG constL initL b ++ zr8 32 := by
 rw [blkL, if_pos h, spl_zr _ (sumG_len _ _ _)]
theorem blkL_small {b : List UInt8} (h : b.length ≤ 64) : blkL b = b ++ zr8 (64 - b.length) := by
 rw [blkL, if_neg (by omega), spl_zr _ rfl]
def xbN (b : List UInt8) (x : UInt8) : Nat → List UInt8
 | 0 => b
 | k + 1 => (xbN b x k).set k (g8 (xbN b x k) k ^^^ x)
theorem xbN_len (b : List UInt8) (x : UInt8) : ∀ k, (xbN b x k).length = b.length
 | 0 => rfl
 | k + 1 => by rw [xbN, List.length_set, xbN_len b x k]
theorem xbN_len64 {b : List UInt8} (x : UInt8) (k : Nat) (h : b.length = 64) : (xbN b x k).length = 64 := (xbN_len b x k).trans h
theorem xbN_get (b : List UInt8) (x : UInt8) : ∀ k, k ≤ b.length → ∀ j, g8 (xbN b x k) j = if j < k then g8 b j ^^^ x else g8 b j
  | 0, _, j => by simp [xbN]
  | k + 1, h, j => by
    rw [xbN, g8_set _ _ _ _ (by rw [xbN_len]; omega)]
    by_cases hj : k = j
    · subst hj; rw [if_pos rfl, if_pos (by omega), xbN_get b x k (by omega), if_neg (by omega)]
    · rw [if_neg hj, xbN_get b x k (by omega)]
      by_cases h2 : j < k
      · rw [if_pos h2, if_pos (by omega)]
      · rw [if_neg h2, if_neg (by omega)]
def raN (b : List UInt8) (x : UInt8) : Nat → List UInt8
 | 0 => []
 | k + 1 => raN b x k ++ [g8 b k ^^^ x]
theorem raN_len (b : List UInt8) (x : UInt8) : ∀ k, (raN b x k).length = k
 | 0 => rfl
 | k + 1 => by rw [raN, List.length_append, raN_len b x k]; rfl
theorem raN_get (b : List UInt8) (x : UInt8) : ∀ k j, j < k → g8 (raN b x k) j = g8 b j ^^^ x
  | 0, j, h => by omega
  | k + 1, j, h => by
    rw [raN]
    by_cases hj : j < k
    · rw [g8_app, raN_len, if_pos hj, raN_get b x k j hj]
    · obtain rfl : j = k := by omega
      rw [g8_app, raN_len, if_neg (by omega), Nat.sub_self]; rfl
theorem raN_xbN {b : List UInt8} (x : UInt8) (h : b.length = 64) : raN b x 64 = xbN b x 64 :=
 ext8 (by rw [raN_len, xbN_len, h]) fun j hj => by
  rw [raN_len] at hj
  rw [raN_get b x 64 j hj, xbN_get b x 64 (by omega), if_pos hj]
def macL (b t : List UInt8) : List UInt8 := sumG constL initL (xbN (blkL b) 92 64 ++ sumG constL initL (xbN (blkL b) 54 64 ++ t))
theorem macL_len (b t : List UInt8) : (macL b t).length = 32 := sumG_len _ _ _
def orN (x y : List UInt8) : Nat → UInt8
 | 0 => 0
 | i + 1 => orN x y i ||| (g8 x i ^^^ g8 y i)
theorem or_zero {a b : UInt8} : (a ||| b = 0) ↔ a = 0 ∧ b = 0 := by
  constructor
  · intro h
    have h2 : a.toBitVec ||| b.toBitVec = 0 := by
      have := congrArg UInt8.toBitVec h
      simpa using this
    have ha : a.toBitVec = 0 := by
      apply BitVec.eq_of_getElem_eq
      intro i hi
      have := congrArg (fun v => v[i]) h2
      simp at this
      simpa using this.1
    have hb : b.toBitVec = 0 := by
      apply BitVec.eq_of_getElem_eq
      intro i hi
      have := congrArg (fun v => v[i]) h2
      simp at this
      simpa using this.2
    exact ⟨UInt8.toBitVec_inj.1 ha, UInt8.toBitVec_inj.1 hb⟩
  · rintro ⟨rfl, rfl⟩; rfl
theorem xor_zero {a b : UInt8} : (a ^^^ b = 0) ↔ a = b := UInt8.xor_eq_zero_iff
theorem orN_zero (x y : List UInt8) : ∀ n, (orN x y n = 0) ↔ ∀ i, i < n → g8 x i = g8 y i
  | 0 => by simp [orN]
  | n + 1 => by
    rw [orN, or_zero, xor_zero, orN_zero x y n]
    constructor
    · rintro ⟨h1, h2⟩ i hi
      by_cases h : i = n
      · subst h; exact h2
      · exact h1 i (by omega)
    · intro h; exact ⟨fun i hi => h i (by omega), h n (by omega)⟩
theorem orN_same {x y : List UInt8} {n : Nat} (hx : x.length = n) (hy : y.length = n) : decide (orN x y n = 0) = decide (x = y) := by
  have : (orN x y n = 0) ↔ x = y := by
    rw [orN_zero]
    constructor
    · intro h; exact ext8 (by rw [hx, hy]) fun j hj => h j (by omega)
    · rintro rfl _ _; rfl
  by_cases h : x = y
  · rw [decide_eq_true h, decide_eq_true (this.2 h)]
  · rw [decide_eq_false h, decide_eq_false (fun h2 => h (this.1 h2))]
end Go.Proofs.YtncoifiafklkjaaDoor
namespace Go.Proofs.YtncoifiafklkjaaDoor
open Go Go.Sx
set_option linter.unusedVariables false
set_option linter.unusedSimpArgs false
set_option maxRecDepth 100000
attribute [local irreducible] mid zr8 zr32 rotr wordL spreadL comprL cpN adN spN wrdN constL initL padL stN outN routN hashL sumG blkL xbN raN macL orN
theorem block_c (ao : Option Addr) (n cb : Nat) (b : List UInt8) (w : World) (hb : b.length = n) (hcb : ao = none → cb = 0) (hn : n ≤ 17592186044416) (hr : RdB w [] ao b) (hG : GLs w) : Calls Tryd.prog 38 #[.slice ao n cb] w (Post w [] (fun v L => v = .agg (cu8 (blkL b)).toArray ∧ L = [])) := by
 refine enter w [] 15 [] [.slice ao n cb] Tryd.func38 rfl rfl (by simp) (Hp.start (by simp) (by simp) (by simp)) ?_
 show JC _ _ _ [(0, .slice ao n cb)] _
 refine JC_seq ?_
 refine JC_region ?_
 refine JL_step (Step_alloc _ (cu8 (zr8 64)) Tryd.zeroValue32 (by kernel_rfl)) rfl ?_
 rintro v1 L1 ⟨nb1, hnb1, rfl, rfl⟩
 show JL _ _ _ _ ((2, Ptr nb1 0) :: _) [⟨nb1, cu8 (zr8 64), 32, (0, 0)⟩]
 refine JL_nil ?_
 refine JQ_then ?_
 refine JC_seq ?_
 refine JC_region ?_
 refine JL_step (Step_alloc _ (cu8 (zr8 64)) Tryd.zeroValue32 (by kernel_rfl)) rfl ?_
 rintro v1 L1 ⟨nb2, hnb2, rfl, rfl⟩
 show JL _ _ _ _ ((3, Ptr nb2 0) :: _) [⟨nb1, cu8 (zr8 64), 32, (0, 0)⟩, ⟨nb2, cu8 (zr8 64), 32, (0, 0)⟩]
 refine JL_nil ?_
 refine JQ_then ?_
 refine JC_seq ?_
 refine JC_seq ?_
 refine JC_region ?_
 refine JL_val _ (Ev_move rfl) rfl ?_
 refine JL_val (I64 ((n:Int))) (Ev_len Tryd.underlying22 rfl) rfl ?_
 refine JL_val (.bool (decide ((64:Int) < ((n:Int))))) (Ev_bini rfl rfl fun _ => bin_gtr_i _ _) rfl ?_
 refine JL_nil ?_
 refine JQ_then ?_
 refine JC_cond (decide ((64:Int) < ((n:Int)))) rfl (fun hb1 => ?_) (fun hb1 => ?_)
 ·
  have hp1 : (64:Int) < ((n:Int)) := of_decide_eq_true hb1
  refine JC_seq ?_
  refine JC_region ?_
  refine JL_val _ (Ev_move rfl) rfl ?_
  refine JL_step (Step_callP 23 [.slice ao n cb] (.agg (cu8 (sumG constL initL b)).toArray) (Cl_func [.slice ao n cb] Tryd.call23 rfl) (fun w1 hw1 => sum_c ao n cb b w1 hb hcb (by omega) (hr.at (M' := []) hw1 (by simp)) (hG.at hw1))) rfl ?_
  rintro v1 L1 ⟨rfl, rfl⟩
  show JL _ _ _ _ ((9, .agg (cu8 (sumG constL initL b)).toArray) :: _) [⟨nb1, cu8 (zr8 64), 32, (0, 0)⟩, ⟨nb2, cu8 (zr8 64), 32, (0, 0)⟩]
  refine JL_step (Step_alloc _ (cu8 (zr8 32)) Tryd.zeroValue25 (by kernel_rfl)) rfl ?_
  rintro v1 L1 ⟨nb3, hnb3, rfl, rfl⟩
  show JL _ _ _ _ ((4, Ptr nb3 0) :: _) [⟨nb1, cu8 (zr8 64), 32, (0, 0)⟩, ⟨nb2, cu8 (zr8 64), 32, (0, 0)⟩, ⟨nb3, cu8 (zr8 32), 25, (0, 0)⟩]
  refine JL_step (Step_store 2 nb3 0 32 (cu8 (zr8 32)) 25 (.agg (cu8 (sumG constL initL b)).toArray) (cu8 (sumG constL initL b)) (cu8 (sumG constL initL b)) rfl rfl rfl (by first | rfl | simp) Tryd.sizeOf25 (len_cu8 (sumG_len _ _ _)) (by first | exact one_u8 | exact one_u32 | exact one_u64 | (simp [cu8, cu32, cu64, Value.oneCell']; done)) (by simp [(zr8_len 32)]) (lay_whole (by simp [(zr8_len 32), (sumG_len _ _ _)]))) rfl ?_
  rintro v1 L1 ⟨rfl, rfl⟩
  show JL _ _ _ _ _ [⟨nb1, cu8 (zr8 64), 32, (0, 0)⟩, ⟨nb2, cu8 (zr8 64), 32, (0, 0)⟩, ⟨nb3, cu8 (sumG constL initL b), 25, (0, 0)⟩]
  refine JL_nil ?_
  refine JQ_then ?_
  refine JC_region ?_
  refine JL_val (Slc nb3 0 32 32) (Ev_sliceA 32 5 1 0 32 0 32 Tryd.underlying25 Tryd.sizeOf5 rfl rfl rfl (by omega) (by omega) (by omega) (by omega) (by omega) 32 (by omega)) rfl ?_
  refine JL_val _ (Ev_assign rfl) rfl ?_
  refine JL_nil ?_
  refine JQ_then ?_
  refine JC_seq ?_
  refine JC_region ?_
  refine JL_val (Slc nb2 0 64 64) (Ev_sliceA 64 5 1 0 64 0 64 Tryd.underlying32 Tryd.sizeOf5 rfl rfl rfl (by omega) (by omega) (by omega) (by omega) (by omega) 64 (by omega)) rfl ?_
  refine JL_val _ (Ev_move rfl) rfl ?_
  have hl1 : (spl (zr8 64) 0 (sumG constL initL b)).length = 64 := by rw [spl_len (by simp [(zr8_len 64), (sumG_len _ _ _)])]; simp [(zr8_len 64), (sumG_len _ _ _)]
  refine JL_step (Step_copy 22 22 5 1 nb2 0 64 64 (cu8 (zr8 64)) 32 (some ⟨nb3, 0, none⟩) 32 32 32 (cu8 (sumG constL initL b)) (cu8 (spl (zr8 64) 0 (sumG constL initL b))) Tryd.underlying22 Tryd.size1_5 rfl rfl rfl (Nat.min_eq_left (by omega)) (by simp [(sumG_len _ _ _)]; try omega) (SrcAt.mem (MemAt.ent 2 rfl (Seg.whole _))) (by simp [(zr8_len 64)]; try omega) (by first | exact one_u8 | exact one_u32 | exact one_u64 | (simp [cu8, cu32, cu64, Value.oneCell']; done)) (laySpl8 _ _ _ (by simp [(zr8_len 64), (sumG_len _ _ _)]))) rfl ?_
  rintro v1 L1 ⟨rfl, rfl⟩
  show JL _ _ _ _ ((13, I64 (32:Int)) :: _) [⟨nb1, cu8 (zr8 64), 32, (0, 0)⟩, ⟨nb2, cu8 (spl (zr8 64) 0 (sumG constL initL b)), 32, (0, 0)⟩, ⟨nb3, cu8 (sumG constL initL b), 25, (0, 0)⟩]
  refine JL_nil ?_
  refine JQ_then ?_
  refine JC_seq ?_
  refine JC_region ?_
  refine JL_val (.agg (cu8 (spl (zr8 64) 0 (sumG constL initL b))).toArray) (Ev_load rfl (Ld_agg Tryd.isAgg32 Tryd.sizeOf32 (len_cu8 hl1) (MemAt.ent 1 rfl (Seg.whole _)))) rfl ?_
  refine JL_step (Step_store 0 nb1 0 64 (cu8 (zr8 64)) 32 (.agg (cu8 (spl (zr8 64) 0 (sumG constL initL b))).toArray) (cu8 (spl (zr8 64) 0 (sumG constL initL b))) (cu8 (spl (zr8 64) 0 (sumG constL initL b))) rfl rfl rfl (by first | rfl | simp) Tryd.sizeOf32 (len_cu8 hl1) (by first | exact one_u8 | exact one_u32 | exact one_u64 | (simp [cu8, cu32, cu64, Value.oneCell']; done)) (by simp [(zr8_len 64)]) (lay_whole (by simp [(zr8_len 64), hl1]))) rfl ?_
  rintro v1 L1 ⟨rfl, rfl⟩
  show JL _ _ _ _ _ [⟨nb1, cu8 (spl (zr8 64) 0 (sumG constL initL b)), 32, (0, 0)⟩, ⟨nb2, cu8 (spl (zr8 64) 0 (sumG constL initL b)), 32, (0, 0)⟩, ⟨nb3, cu8 (sumG constL initL b), 25, (0, 0)⟩]
  refine JL_nil ?_
  refine JQ_then ?_
  refine JC_ret ?_
  refine JQ_ret (.agg (cu8 (spl (zr8 64) 0 (sumG constL initL b))).toArray) (res1 Tryd.results38 (RV_cell rfl (Ld_agg Tryd.isAgg32 Tryd.sizeOf32 (len_cu8 hl1) (MemAt.ent 0 rfl (Seg.whole _))))) fun w1 hw1 => ?_
  refine ⟨_, [], rfl, ⟨?_, rfl⟩, hw1.sub (by simp) (by simp)⟩
  first | (rw [blkL, if_pos (by omega)]; done) | (rw [blkL, if_neg (by omega)]; done)
 ·
  have hp1 : ¬ ((64:Int) < ((n:Int))) := of_decide_eq_false hb1
  refine JC_skip ?_
  refine JQ_then ?_
  refine JC_seq ?_
  refine JC_region ?_
  refine JL_val (Slc nb2 0 64 64) (Ev_sliceA 64 5 1 0 64 0 64 Tryd.underlying32 Tryd.sizeOf5 rfl rfl rfl (by omega) (by omega) (by omega) (by omega) (by omega) 64 (by omega)) rfl ?_
  refine JL_val _ (Ev_move rfl) rfl ?_
  have hl2 : (spl (zr8 64) 0 b).length = 64 := (spl_len (by rw [hb, (zr8_len 64)]; omega)).trans (zr8_len 64)
  refine JL_step (Step_copy 22 22 5 1 nb2 0 64 64 (cu8 (zr8 64)) 32 ao n cb n (cu8 b) (cu8 (spl (zr8 64) 0 b)) Tryd.underlying22 Tryd.size1_5 rfl rfl rfl (Nat.min_eq_left (by omega)) (by simp [hb]; try omega) (hr.src) (by simp [(zr8_len 64)]; try omega) (by first | exact one_u8 | exact one_u32 | exact one_u64 | (simp [cu8, cu32, cu64, Value.oneCell']; done)) (laySpl8 _ _ _ (by rw [hb, (zr8_len 64)]; omega))) rfl ?_
  rintro v1 L1 ⟨rfl, rfl⟩
  show JL _ _ _ _ ((13, I64 ((n:Int))) :: _) [⟨nb1, cu8 (zr8 64), 32, (0, 0)⟩, ⟨nb2, cu8 (spl (zr8 64) 0 b), 32, (0, 0)⟩]
  refine JL_nil ?_
  refine JQ_then ?_
  refine JC_seq ?_
  refine JC_region ?_
  refine JL_val (.agg (cu8 (spl (zr8 64) 0 b)).toArray) (Ev_load rfl (Ld_agg Tryd.isAgg32 Tryd.sizeOf32 (len_cu8 hl2) (MemAt.ent 1 rfl (Seg.whole _)))) rfl ?_
  refine JL_step (Step_store 0 nb1 0 64 (cu8 (zr8 64)) 32 (.agg (cu8 (spl (zr8 64) 0 b)).toArray) (cu8 (spl (zr8 64) 0 b)) (cu8 (spl (zr8 64) 0 b)) rfl rfl rfl (by first | rfl | simp) Tryd.sizeOf32 (len_cu8 hl2) (by first | exact one_u8 | exact one_u32 | exact one_u64 | (simp [cu8, cu32, cu64, Value.oneCell']; done)) (by simp [(zr8_len 64)]) (lay_whole (by simp [(zr8_len 64), hl2]))) rfl ?_
  rintro v1 L1 ⟨rfl, rfl⟩
  show JL _ _ _ _ _ [⟨nb1, cu8 (spl (zr8 64) 0 b), 32, (0, 0)⟩, ⟨nb2, cu8 (spl (zr8 64) 0 b), 32, (0, 0)⟩]
  refine JL_nil ?_
  refine JQ_then ?_
  refine JC_ret ?_
  refine JQ_ret (.agg (cu8 (spl (zr8 64) 0 b)).toArray) (res1 Tryd.results38 (RV_cell rfl (Ld_agg Tryd.isAgg32 Tryd.sizeOf32 (len_cu8 hl2) (MemAt.ent 0 rfl (Seg.whole _))))) fun w1 hw1 => ?_
  refine ⟨_, [], rfl, ⟨?_, rfl⟩, hw1.sub (by simp) (by simp)⟩
  first | (rw [blkL, if_pos (by omega)]; done) | (rw [blkL, if_neg (by omega)]; done)
theorem with_c (b : List UInt8) (x : UInt8) (w : World) (hb : b.length = 64) : Calls Tryd.prog 95 #[.agg (cu8 b).toArray, U8 x] w (Post w [] (fun v L => ∃ g T, v = Slc g 0 64 64 ∧ L = [⟨g, cu8 (xbN b x 64), T, (0, 0)⟩])) := by
 refine enter w [] 17 [] [.agg (cu8 b).toArray, U8 x] Tryd.func95 rfl rfl (by simp) (Hp.start (by simp) (by simp) (by simp)) ?_
 show JC _ _ _ [(0, .agg (cu8 b).toArray), (1, U8 x)] _
 refine JC_seq ?_
 refine JC_region ?_
 refine JL_step (Step_box (.agg (cu8 b).toArray) (cu8 b) rfl (by first | rfl | simp)) rfl ?_
 rintro v1 L1 ⟨nb1, hnb1, rfl, rfl⟩
 show JL _ _ _ _ ((2, Ptr nb1 0) :: _) [⟨nb1, cu8 b, 32, (0, 0)⟩]
 refine JL_val _ (Ev_assign rfl) rfl ?_
 refine JL_nil ?_
 refine JQ_then ?_
 refine JC_seq ?_
 refine JC_seq ?_
 refine JC_region ?_
 refine JL_val _ (Ev_move rfl) rfl ?_
 refine JL_nil ?_
 refine JQ_then ?_
 refine JC_block ?_
 refine JC_loop (ι := Nat × List UInt8) (fun ⟨k, o⟩ => [(1, U8 x), (2, Ptr nb1 0), (4, .slice none 0 0), (6, I64 ((k:Int)))]) (fun ⟨k, o⟩ => [⟨nb1, cu8 o, 32, (0, 0)⟩]) (fun ⟨k, o⟩ => k ≤ 64 ∧ o = xbN b x k ∧ o.length = 64) (fun ⟨k, o⟩ => 64 - k) (0, b) ⟨by omega, by rw [xbN], hb⟩ (Sub.cons rfl (Sub.cons rfl (Sub.cons rfl (Sub.cons rfl (Sub.nil))))) rfl ?_
 rintro ⟨k, o⟩ ⟨hx1, hx2, ho⟩
 show JC _ _ _ [(1, U8 x), (2, Ptr nb1 0), (4, .slice none 0 0), (6, I64 ((k:Int)))] [⟨nb1, cu8 o, 32, (0, 0)⟩]
 refine JC_seq ?_
 refine JC_region ?_
 refine JL_val (.bool (decide (((k:Int)) < (64:Int)))) (Ev_bini rfl rfl fun _ => bin_lss_i _ _) rfl ?_
 refine JL_nil ?_
 refine JQ_then ?_
 refine JC_seq ?_
 refine JC_cond (decide (((k:Int)) < (64:Int))) rfl (fun hb1 => ?_) (fun hb1 => ?_)
 ·
  have hp1 : ((k:Int)) < (64:Int) := of_decide_eq_true hb1
  refine JC_skip ?_
  refine JQ_then ?_
  refine JC_seq ?_
  refine JC_block ?_
  refine JC_seq ?_
  refine JC_region ?_
  refine JL_val _ (Ev_move rfl) rfl ?_
  refine JL_val _ (Ev_assign rfl) rfl ?_
  refine JL_nil ?_
  refine JQ_then ?_
  refine JC_region ?_
  refine JL_val _ (Ev_move rfl) rfl ?_
  refine JL_val (Ptr nb1 k) (Ev_indexArr 64 5 1 k Tryd.underlying32 Tryd.sizeOf5 rfl rfl (by omega) (by omega) (by omega)) rfl ?_
  refine JL_val (U8 (g8 o k)) (Ev_load rfl (Ld_one Tryd.isAgg5 (MemAt.ent 0 rfl (Seg.get (g8_get (i := k) (by rw [ho]; omega)))))) rfl ?_
  refine JL_val _ (Ev_move rfl) rfl ?_
  refine JL_val (U8 ((g8 o k) ^^^ x)) (Ev_bini rfl rfl fun _ => bin_xor_u8 (g8 o k) x) rfl ?_
  refine JL_val (Ptr nb1 k) (Ev_indexArr 64 5 1 k Tryd.underlying32 Tryd.sizeOf5 rfl rfl (by omega) (by omega) (by omega)) rfl ?_
  have hl1 : (o.set k ((g8 o k) ^^^ x)).length = 64 := by simp [ho]
  refine JL_step (Step_store 0 nb1 k 1 (cu8 o) 32 (U8 ((g8 o k) ^^^ x)) ([U8 ((g8 o k) ^^^ x)]) (cu8 (o.set k ((g8 o k) ^^^ x))) rfl rfl rfl rfl Tryd.sizeOf5 rfl (by simp [Value.oneCell']) (by simp [ho]; try omega) (lay8 _ _ _ (by rw [ho]; omega))) rfl ?_
  rintro v1 L1 ⟨rfl, rfl⟩
  show JL _ _ _ _ _ [⟨nb1, cu8 (o.set k ((g8 o k) ^^^ x)), 32, (0, 0)⟩]
  refine JL_nil ?_
  refine JQ_in_normal ?_
  refine JQ_then ?_
  refine JC_region ?_
  refine JL_val (I64 ((k:Int) + 1)) (Ev_bini rfl rfl fun _ => bin_add_i _ _ ((k:Int) + 1) (by omega) (by omega)) rfl ?_
  refine JL_val _ (Ev_move rfl) rfl ?_
  refine JL_nil ?_
  refine JQ_thenK ?_
  refine K_next (k + 1, o.set k ((g8 o k) ^^^ x)) ⟨by omega, by rw [xbN, ← hx2], hl1⟩ (by first | (simp; omega) | simp) (Sub.cons rfl (Sub.cons rfl (Sub.cons rfl (Sub.cons rfl (Sub.nil))))) rfl
 ·
  have hp1 : ¬ (((k:Int)) < (64:Int)) := of_decide_eq_false hb1
  refine JC_exit ?_
  refine JQ_then_exit ?_
  refine JQ_then_exit ?_
  refine JQ_in_same ?_
  refine JQ_then ?_
  refine JC_seq ?_
  refine JC_region ?_
  refine JL_val (Slc nb1 0 64 64) (Ev_sliceA 64 5 1 0 64 0 64 Tryd.underlying32 Tryd.sizeOf5 rfl rfl rfl (by omega) (by omega) (by omega) (by omega) (by omega) 64 (by omega)) rfl ?_
  refine JL_val _ (Ev_assign rfl) rfl ?_
  refine JL_nil ?_
  refine JQ_then ?_
  refine JC_ret ?_
  refine JQ_ret (Slc nb1 0 64 64) (res1 Tryd.results95 (RV_tmp rfl)) fun w1 hw1 => ?_
  have e1 : k = 64 := by omega
  subst e1
  rw [hx2] at hw1
  exact ⟨_, _, rfl, ⟨nb1, 32, rfl, rfl⟩, hw1.sub (by simp) (by simp)⟩
theorem mac_c (ao : Option Addr) (n cb : Nat) (key : List UInt8) (b c : Nat) (vs : List Value) (ls : List (List UInt8)) (w : World) (hb : key.length = n) (hcb : ao = none → cb = 0) (hn : n ≤ 17592186044416) (hr : RdB w [] ao key) (hk : 1 ≤ ls.length) (hc : ls.length ≤ c) (hk2 : ls.length ≤ 1000) (hp : Parts w b vs ls) (hs : ls.flatten.length ≤ 100000000) (hG : GLs w) : Calls Tryd.prog 39 #[.slice ao n cb, .slice (some ⟨b, 0, none⟩) ls.length c] w (Post w [] (fun v L => v = .agg (cu8 (macL key ls.flatten)).toArray ∧ L = [])) := by
 refine enter w [] 20 [] [.slice ao n cb, .slice (some ⟨b, 0, none⟩) ls.length c] Tryd.func39 rfl rfl (by simp) (Hp.start (by simp) (by simp) (by simp)) ?_
 show JC _ _ _ [(0, .slice ao n cb), (1, .slice (some ⟨b, 0, none⟩) ls.length c)] _
 refine JC_seq ?_
 refine JC_region ?_
 refine JL_step (Step_alloc _ (cu8 (zr8 32)) Tryd.zeroValue25 (by kernel_rfl)) rfl ?_
 rintro v1 L1 ⟨nb1, hnb1, rfl, rfl⟩
 show JL _ _ _ _ ((4, Ptr nb1 0) :: _) [⟨nb1, cu8 (zr8 32), 25, (0, 0)⟩]
 refine JL_nil ?_
 refine JQ_then ?_
 refine JC_seq ?_
 refine JC_region ?_
 refine JL_val _ (Ev_move rfl) rfl ?_
 refine JL_step (Step_callP 38 [.slice ao n cb] (.agg (cu8 (blkL key)).toArray) (Cl_func [.slice ao n cb] Tryd.call38 rfl) (fun w1 hw1 => block_c ao n cb key w1 hb hcb (by omega) (hr.at (M' := []) hw1 (by simp)) (hG.at hw1))) rfl ?_
 rintro v1 L1 ⟨rfl, rfl⟩
 show JL _ _ _ _ ((8, .agg (cu8 (blkL key)).toArray) :: _) [⟨nb1, cu8 (zr8 32), 25, (0, 0)⟩]
 refine JL_step (Step_alloc _ (cu8 (zr8 64)) Tryd.zeroValue32 (by kernel_rfl)) rfl ?_
 rintro v1 L1 ⟨nb2, hnb2, rfl, rfl⟩
 show JL _ _ _ _ ((5, Ptr nb2 0) :: _) [⟨nb1, cu8 (zr8 32), 25, (0, 0)⟩, ⟨nb2, cu8 (zr8 64), 32, (0, 0)⟩]
 refine JL_step (Step_store 1 nb2 0 64 (cu8 (zr8 64)) 32 (.agg (cu8 (blkL key)).toArray) (cu8 (blkL key)) (cu8 (blkL key)) rfl rfl rfl (by first | rfl | simp) Tryd.sizeOf32 (len_cu8 (blkL_len _)) (by first | exact one_u8 | exact one_u32 | exact one_u64 | (simp [cu8, cu32, cu64, Value.oneCell']; done)) (by simp [(zr8_len 64)]) (lay_whole (by simp [(zr8_len 64), (blkL_len _)]))) rfl ?_
 rintro v1 L1 ⟨rfl, rfl⟩
 show JL _ _ _ _ _ [⟨nb1, cu8 (zr8 32), 25, (0, 0)⟩, ⟨nb2, cu8 (blkL key), 32, (0, 0)⟩]
 refine JL_nil ?_
 refine JQ_then ?_
 refine JC_seq ?_
 refine JC_region ?_
 refine JL_val (.agg (cu8 (blkL key)).toArray) (Ev_load rfl (Ld_agg Tryd.isAgg32 Tryd.sizeOf32 (len_cu8 (blkL_len _)) (MemAt.ent 1 rfl (Seg.whole _)))) rfl ?_
 refine JL_step (Step_callN 95 [.agg (cu8 (blkL key)).toArray, U8 (54:UInt8)] _ (Cl_func [.agg (cu8 (blkL key)).toArray, U8 (54:UInt8)] Tryd.call95 rfl) (fun w1 hw1 => with_c (blkL key) (54:UInt8) w1 (blkL_len _))) rfl ?_
 rintro v1 L1 ⟨_, ⟨nb3, tw1, rfl, rfl⟩, rfl⟩
 show JL _ _ _ _ ((10, Slc nb3 0 64 64) :: _) [⟨nb1, cu8 (zr8 32), 25, (0, 0)⟩, ⟨nb2, cu8 (blkL key), 32, (0, 0)⟩, ⟨nb3, cu8 (xbN (blkL key) (54:UInt8) 64), tw1, (0, 0)⟩]
 refine JL_val _ (Ev_move rfl) rfl ?_
 refine JL_step (Step_callN 88 [.slice (some ⟨b, 0, none⟩) ls.length c, .slice none 0 0] _ (Cl_func [.slice (some ⟨b, 0, none⟩) ls.length c, .slice none 0 0] Tryd.call88 rfl) (fun w1 hw1 => join_c b c vs ls w1 hk hc hk2 (hp.at hw1 rfl (by omega)) (by omega))) rfl ?_
 rintro v1 L1 ⟨_, (⟨he1, ao1, ca1, rfl, rfl, hn1⟩ | ⟨hp1, nb4, sp1, cp1, tj1, fj1, rfl, rfl, hl1, hm1⟩), rfl⟩
 ·
  show JL _ _ _ _ ((12, .slice ao1 0 ca1) :: _) [⟨nb1, cu8 (zr8 32), 25, (0, 0)⟩, ⟨nb2, cu8 (blkL key), 32, (0, 0)⟩, ⟨nb3, cu8 (xbN (blkL key) (54:UInt8) 64), tw1, (0, 0)⟩]
  refine JL_step (Step_buildSlice 22 1 _ [(0, Slc nb3 0 64 64), (1, .slice ao1 0 ca1)] ([Slc nb3 0 64 64, .slice ao1 0 ca1]) Tryd.underlying125 Tryd.sizeOf22 Tryd.zeroValue22 rfl rfl rfl (by kernel_rfl)) rfl ?_
  rintro v1 L1 ⟨nb5, hnb5, rfl, rfl⟩
  show JL _ _ _ _ ((13, Slc nb5 0 2 2) :: _) [⟨nb1, cu8 (zr8 32), 25, (0, 0)⟩, ⟨nb2, cu8 (blkL key), 32, (0, 0)⟩, ⟨nb3, cu8 (xbN (blkL key) (54:UInt8) 64), tw1, (0, 0)⟩, ⟨nb5, [Slc nb3 0 64 64, .slice ao1 0 ca1], 22, (0, 0)⟩]
  refine JL_step (Step_callP 30 [Slc nb5 0 2 2] (.agg (cu8 (sumG constL initL ([xbN (blkL key) (54:UInt8) 64, ([] : List UInt8)].flatten))).toArray) (Cl_func [Slc nb5 0 2 2] Tryd.call30 rfl) (fun w1 hw1 => of_c nb5 2 [Slc nb3 0 64 64, .slice ao1 0 ca1] [xbN (blkL key) (54:UInt8) 64, ([] : List UInt8)] w1 (by simp) (by simp) (by simp) ⟨RdA.of hw1 (MemAt.ent 3 rfl (Seg.whole _)) (by simp), ⟨⟨(some ⟨nb3, 0, none⟩), 64, congrArg (fun n => Value.slice (some ⟨nb3, 0, none⟩) n 64) ((xbN_len64 _ 64 (blkL_len _))).symm, (RdB.of hw1 (MemAt.ent 2 rfl (Seg.whole _)) (by simp))⟩, ⟨⟨ao1, ca1, congrArg (fun n => Value.slice ao1 n ca1) (rfl).symm, RdB.nil⟩, trivial⟩⟩⟩ (by simp only [List.flatten_cons, List.flatten_nil, List.length_append, List.length_nil, (xbN_len64 _ 64 (blkL_len _))]; omega) (hG.at hw1))) rfl ?_
  rintro v1 L1 ⟨rfl, rfl⟩
  show JL _ _ _ _ ((14, .agg (cu8 (sumG constL initL ([xbN (blkL key) (54:UInt8) 64, ([] : List UInt8)].flatten))).toArray) :: _) [⟨nb1, cu8 (zr8 32), 25, (0, 0)⟩, ⟨nb2, cu8 (blkL key), 32, (0, 0)⟩, ⟨nb3, cu8 (xbN (blkL key) (54:UInt8) 64), tw1, (0, 0)⟩, ⟨nb5, [Slc nb3 0 64 64, .slice ao1 0 ca1], 22, (0, 0)⟩]
  refine JL_step (Step_alloc _ (cu8 (zr8 32)) Tryd.zeroValue25 (by kernel_rfl)) rfl ?_
  rintro v1 L1 ⟨nb6, hnb6, rfl, rfl⟩
  show JL _ _ _ _ ((6, Ptr nb6 0) :: _) [⟨nb1, cu8 (zr8 32), 25, (0, 0)⟩, ⟨nb2, cu8 (blkL key), 32, (0, 0)⟩, ⟨nb3, cu8 (xbN (blkL key) (54:UInt8) 64), tw1, (0, 0)⟩, ⟨nb5, [Slc nb3 0 64 64, .slice ao1 0 ca1], 22, (0, 0)⟩, ⟨nb6, cu8 (zr8 32), 25, (0, 0)⟩]
  refine JL_step (Step_store 4 nb6 0 32 (cu8 (zr8 32)) 25 (.agg (cu8 (sumG constL initL ([xbN (blkL key) (54:UInt8) 64, ([] : List UInt8)].flatten))).toArray) (cu8 (sumG constL initL ([xbN (blkL key) (54:UInt8) 64, ([] : List UInt8)].flatten))) (cu8 (sumG constL initL ([xbN (blkL key) (54:UInt8) 64, ([] : List UInt8)].flatten))) rfl rfl rfl (by first | rfl | simp) Tryd.sizeOf25 (len_cu8 (sumG_len _ _ _)) (by first | exact one_u8 | exact one_u32 | exact one_u64 | (simp [cu8, cu32, cu64, Value.oneCell']; done)) (by simp [(zr8_len 32)]) (lay_whole (by simp [(zr8_len 32), (sumG_len _ _ _)]))) rfl ?_
  rintro v1 L1 ⟨rfl, rfl⟩
  show JL _ _ _ _ _ [⟨nb1, cu8 (zr8 32), 25, (0, 0)⟩, ⟨nb2, cu8 (blkL key), 32, (0, 0)⟩, ⟨nb3, cu8 (xbN (blkL key) (54:UInt8) 64), tw1, (0, 0)⟩, ⟨nb5, [Slc nb3 0 64 64, .slice ao1 0 ca1], 22, (0, 0)⟩, ⟨nb6, cu8 (sumG constL initL ([xbN (blkL key) (54:UInt8) 64, ([] : List UInt8)].flatten)), 25, (0, 0)⟩]
  refine JL_nil ?_
  refine JQ_then ?_
  refine JC_seq ?_
  refine JC_draw 20 5 [(0, .agg (cu8 (blkL key)).toArray), (2, Slc nb6 0 32 32)] Tryd.mixed rfl (by decide +kernel) ?_
  refine DP_one ⟨[], [0, 2], [], [0, 2], [1]⟩ 1 _ rfl rfl (by decide +kernel) rfl ⟨⟨_, rfl, Qok_val rfl (Ev_load rfl (Ld_agg Tryd.isAgg32 Tryd.sizeOf32 (len_cu8 (blkL_len _)) (MemAt.ent 1 rfl (Seg.whole _))))⟩, ⟨_, rfl, Qok_val rfl (Ev_sliceA 32 5 1 0 32 0 32 Tryd.underlying25 Tryd.sizeOf5 rfl rfl rfl (by omega) (by omega) (by omega) (by omega) (by omega) 32 (by omega))⟩, trivial⟩ rfl (Cok_step rfl (Step_callN 95 [.agg (cu8 (blkL key)).toArray, U8 (92:UInt8)] _ (Cl_func [.agg (cu8 (blkL key)).toArray, U8 (92:UInt8)] Tryd.call95 rfl) (fun w1 hw1 => with_c (blkL key) (92:UInt8) w1 (blkL_len _)))) ?_
  rintro v1 L1 ⟨_, ⟨nb7, tw2, rfl, rfl⟩, rfl⟩
  refine ⟨[], ?_⟩
  show DP _ _ _ _ _ _ _ _ [⟨nb1, cu8 (zr8 32), 25, (0, 0)⟩, ⟨nb2, cu8 (blkL key), 32, (0, 0)⟩, ⟨nb3, cu8 (xbN (blkL key) (54:UInt8) 64), tw1, (0, 0)⟩, ⟨nb5, [Slc nb3 0 64 64, .slice ao1 0 ca1], 22, (0, 0)⟩, ⟨nb6, cu8 (sumG constL initL ([xbN (blkL key) (54:UInt8) 64, ([] : List UInt8)].flatten)), 25, (0, 0)⟩, ⟨nb7, cu8 (xbN (blkL key) (92:UInt8) 64), tw2, (0, 0)⟩]
  refine DP_one ⟨[1], [0, 2], [0], [2], [3]⟩ 3 _ rfl rfl (by decide +kernel) rfl ⟨⟨_, rfl, Qok_val rfl (Ev_sliceA 32 5 1 0 32 0 32 Tryd.underlying25 Tryd.sizeOf5 rfl rfl rfl (by omega) (by omega) (by omega) (by omega) (by omega) 32 (by omega))⟩, trivial⟩ rfl (Cok_step rfl (Step_buildSlice 22 1 _ [(0, Slc nb7 0 64 64), (1, Slc nb6 0 32 32)] ([Slc nb7 0 64 64, Slc nb6 0 32 32]) Tryd.underlying125 Tryd.sizeOf22 Tryd.zeroValue22 rfl rfl rfl (by kernel_rfl))) ?_
  rintro v1 L1 ⟨nb8, hnb8, rfl, rfl⟩
  refine ⟨[], ?_⟩
  show DP _ _ _ _ _ _ _ _ [⟨nb1, cu8 (zr8 32), 25, (0, 0)⟩, ⟨nb2, cu8 (blkL key), 32, (0, 0)⟩, ⟨nb3, cu8 (xbN (blkL key) (54:UInt8) 64), tw1, (0, 0)⟩, ⟨nb5, [Slc nb3 0 64 64, .slice ao1 0 ca1], 22, (0, 0)⟩, ⟨nb6, cu8 (sumG constL initL ([xbN (blkL key) (54:UInt8) 64, ([] : List UInt8)].flatten)), 25, (0, 0)⟩, ⟨nb7, cu8 (xbN (blkL key) (92:UInt8) 64), tw2, (0, 0)⟩, ⟨nb8, [Slc nb7 0 64 64, Slc nb6 0 32 32], 22, (0, 0)⟩]
  refine DP_one ⟨[1, 3], [0, 2], [0, 2], [], [4]⟩ 4 _ rfl rfl (by decide +kernel) rfl trivial rfl (Cok_step rfl (Step_callP 30 [Slc nb8 0 2 2] (.agg (cu8 (sumG constL initL ([xbN (blkL key) (92:UInt8) 64, sumG constL initL ([xbN (blkL key) (54:UInt8) 64, ([] : List UInt8)].flatten)].flatten))).toArray) (Cl_func [Slc nb8 0 2 2] Tryd.call30 rfl) (fun w1 hw1 => of_c nb8 2 [Slc nb7 0 64 64, Slc nb6 0 32 32] [xbN (blkL key) (92:UInt8) 64, sumG constL initL ([xbN (blkL key) (54:UInt8) 64, ([] : List UInt8)].flatten)] w1 (by simp) (by simp) (by simp) ⟨RdA.of hw1 (MemAt.ent 6 rfl (Seg.whole _)) (by simp), ⟨⟨(some ⟨nb7, 0, none⟩), 64, congrArg (fun n => Value.slice (some ⟨nb7, 0, none⟩) n 64) ((xbN_len64 _ 64 (blkL_len _))).symm, (RdB.of hw1 (MemAt.ent 5 rfl (Seg.whole _)) (by simp))⟩, ⟨⟨(some ⟨nb6, 0, none⟩), 32, congrArg (fun n => Value.slice (some ⟨nb6, 0, none⟩) n 32) ((sumG_len _ _ _)).symm, (RdB.of hw1 (MemAt.ent 4 rfl (Seg.whole _)) (by simp))⟩, trivial⟩⟩⟩ (by simp only [List.flatten_cons, List.flatten_nil, List.length_append, List.length_nil, (xbN_len64 _ 64 (blkL_len _)), (sumG_len _ _ _)]; omega) (hG.at hw1)))) ?_
  rintro v1 L1 ⟨rfl, rfl⟩
  refine ⟨[], ?_⟩
  show DP _ _ _ _ _ _ _ _ [⟨nb1, cu8 (zr8 32), 25, (0, 0)⟩, ⟨nb2, cu8 (blkL key), 32, (0, 0)⟩, ⟨nb3, cu8 (xbN (blkL key) (54:UInt8) 64), tw1, (0, 0)⟩, ⟨nb5, [Slc nb3 0 64 64, .slice ao1 0 ca1], 22, (0, 0)⟩, ⟨nb6, cu8 (sumG constL initL ([xbN (blkL key) (54:UInt8) 64, ([] : List UInt8)].flatten)), 25, (0, 0)⟩, ⟨nb7, cu8 (xbN (blkL key) (92:UInt8) 64), tw2, (0, 0)⟩, ⟨nb8, [Slc nb7 0 64 64, Slc nb6 0 32 32], 22, (0, 0)⟩]
  refine DP_one ⟨[1, 3, 4], [0, 2], [0, 2], [], [5]⟩ 5 _ rfl rfl (by decide +kernel) rfl trivial rfl (Cok_step rfl (Step_store 0 nb1 0 32 (cu8 (zr8 32)) 25 (.agg (cu8 (sumG constL initL ([xbN (blkL key) (92:UInt8) 64, sumG constL initL ([xbN (blkL key) (54:UInt8) 64, ([] : List UInt8)].flatten)].flatten))).toArray) (cu8 (sumG constL initL ([xbN (blkL key) (92:UInt8) 64, sumG constL initL ([xbN (blkL key) (54:UInt8) 64, ([] : List UInt8)].flatten)].flatten))) (cu8 (sumG constL initL ([xbN (blkL key) (92:UInt8) 64, sumG constL initL ([xbN (blkL key) (54:UInt8) 64, ([] : List UInt8)].flatten)].flatten))) rfl rfl rfl (by first | rfl | simp) Tryd.sizeOf25 (len_cu8 (sumG_len _ _ _)) (by first | exact one_u8 | exact one_u32 | exact one_u64 | (simp [cu8, cu32, cu64, Value.oneCell']; done)) (by simp [(zr8_len 32)]) (lay_whole (by simp [(zr8_len 32), (sumG_len _ _ _)])))) ?_
  rintro v1 L1 ⟨rfl, rfl⟩
  refine ⟨[], ?_⟩
  show DP _ _ _ _ _ _ _ _ [⟨nb1, cu8 (sumG constL initL ([xbN (blkL key) (92:UInt8) 64, sumG constL initL ([xbN (blkL key) (54:UInt8) 64, ([] : List UInt8)].flatten)].flatten)), 25, (0, 0)⟩, ⟨nb2, cu8 (blkL key), 32, (0, 0)⟩, ⟨nb3, cu8 (xbN (blkL key) (54:UInt8) 64), tw1, (0, 0)⟩, ⟨nb5, [Slc nb3 0 64 64, .slice ao1 0 ca1], 22, (0, 0)⟩, ⟨nb6, cu8 (sumG constL initL ([xbN (blkL key) (54:UInt8) 64, ([] : List UInt8)].flatten)), 25, (0, 0)⟩, ⟨nb7, cu8 (xbN (blkL key) (92:UInt8) 64), tw2, (0, 0)⟩, ⟨nb8, [Slc nb7 0 64 64, Slc nb6 0 32 32], 22, (0, 0)⟩]
  refine DP_end ⟨[1, 3, 4, 5], [0, 2], [0, 2], [], []⟩ rfl rfl (by decide +kernel) rfl trivial ?_
  refine K_sub (F' := [(4, Ptr nb1 0)]) (Sub.cons (by kernel_rfl) (Sub.nil)) ?_
  show JQ _ _ _ [(4, Ptr nb1 0)] _
  refine JQ_then ?_
  refine JC_ret ?_
  refine JQ_ret (.agg (cu8 (sumG constL initL ([xbN (blkL key) (92:UInt8) 64, sumG constL initL ([xbN (blkL key) (54:UInt8) 64, ([] : List UInt8)].flatten)].flatten))).toArray) (res1 Tryd.results39 (RV_cell rfl (Ld_agg Tryd.isAgg25 Tryd.sizeOf25 (len_cu8 (sumG_len _ _ _)) (MemAt.ent 0 rfl (Seg.whole _))))) fun w1 hw1 => ?_
  refine ⟨_, [], rfl, ⟨?_, rfl⟩, hw1.sub (by simp) (by simp)⟩
  rw [macL]
  first | (simp; done) | (rw [he1]; simp; done)
 ·
  show JL _ _ _ _ ((12, Slc nb4 0 ls.flatten.length cp1) :: _) [⟨nb1, cu8 (zr8 32), 25, (0, 0)⟩, ⟨nb2, cu8 (blkL key), 32, (0, 0)⟩, ⟨nb3, cu8 (xbN (blkL key) (54:UInt8) 64), tw1, (0, 0)⟩, ⟨nb4, cu8 ls.flatten ++ sp1, tj1, fj1⟩]
  refine JL_step (Step_buildSlice 22 1 _ [(0, Slc nb3 0 64 64), (1, Slc nb4 0 ls.flatten.length cp1)] ([Slc nb3 0 64 64, Slc nb4 0 ls.flatten.length cp1]) Tryd.underlying125 Tryd.sizeOf22 Tryd.zeroValue22 rfl rfl rfl (by kernel_rfl)) rfl ?_
  rintro v1 L1 ⟨nb9, hnb9, rfl, rfl⟩
  show JL _ _ _ _ ((13, Slc nb9 0 2 2) :: _) [⟨nb1, cu8 (zr8 32), 25, (0, 0)⟩, ⟨nb2, cu8 (blkL key), 32, (0, 0)⟩, ⟨nb3, cu8 (xbN (blkL key) (54:UInt8) 64), tw1, (0, 0)⟩, ⟨nb4, cu8 ls.flatten ++ sp1, tj1, fj1⟩, ⟨nb9, [Slc nb3 0 64 64, Slc nb4 0 ls.flatten.length cp1], 22, (0, 0)⟩]
  refine JL_step (Step_callP 30 [Slc nb9 0 2 2] (.agg (cu8 (sumG constL initL ([xbN (blkL key) (54:UInt8) 64, ls.flatten].flatten))).toArray) (Cl_func [Slc nb9 0 2 2] Tryd.call30 rfl) (fun w1 hw1 => of_c nb9 2 [Slc nb3 0 64 64, Slc nb4 0 ls.flatten.length cp1] [xbN (blkL key) (54:UInt8) 64, ls.flatten] w1 (by simp) (by simp) (by simp) ⟨RdA.of hw1 (MemAt.ent 4 rfl (Seg.whole _)) (by simp), ⟨⟨(some ⟨nb3, 0, none⟩), 64, congrArg (fun n => Value.slice (some ⟨nb3, 0, none⟩) n 64) ((xbN_len64 _ 64 (blkL_len _))).symm, (RdB.of hw1 (MemAt.ent 2 rfl (Seg.whole _)) (by simp))⟩, ⟨⟨(some ⟨nb4, 0, none⟩), cp1, congrArg (fun n => Value.slice (some ⟨nb4, 0, none⟩) n cp1) ((rfl : ls.flatten.length = _)).symm, (RdB.of hw1 (MemAt.ent 3 rfl (Seg.left (Seg.whole _))) (by simp))⟩, trivial⟩⟩⟩ (by simp only [List.flatten_cons, List.flatten_nil, List.length_append, List.length_nil, (xbN_len64 _ 64 (blkL_len _))]; omega) (hG.at hw1))) rfl ?_
  rintro v1 L1 ⟨rfl, rfl⟩
  show JL _ _ _ _ ((14, .agg (cu8 (sumG constL initL ([xbN (blkL key) (54:UInt8) 64, ls.flatten].flatten))).toArray) :: _) [⟨nb1, cu8 (zr8 32), 25, (0, 0)⟩, ⟨nb2, cu8 (blkL key), 32, (0, 0)⟩, ⟨nb3, cu8 (xbN (blkL key) (54:UInt8) 64), tw1, (0, 0)⟩, ⟨nb4, cu8 ls.flatten ++ sp1, tj1, fj1⟩, ⟨nb9, [Slc nb3 0 64 64, Slc nb4 0 ls.flatten.length cp1], 22, (0, 0)⟩]
  refine JL_step (Step_alloc _ (cu8 (zr8 32)) Tryd.zeroValue25 (by kernel_rfl)) rfl ?_
  rintro v1 L1 ⟨nb10, hnb10, rfl, rfl⟩
  show JL _ _ _ _ ((6, Ptr nb10 0) :: _) [⟨nb1, cu8 (zr8 32), 25, (0, 0)⟩, ⟨nb2, cu8 (blkL key), 32, (0, 0)⟩, ⟨nb3, cu8 (xbN (blkL key) (54:UInt8) 64), tw1, (0, 0)⟩, ⟨nb4, cu8 ls.flatten ++ sp1, tj1, fj1⟩, ⟨nb9, [Slc nb3 0 64 64, Slc nb4 0 ls.flatten.length cp1], 22, (0, 0)⟩, ⟨nb10, cu8 (zr8 32), 25, (0, 0)⟩]
  refine JL_step (Step_store 5 nb10 0 32 (cu8 (zr8 32)) 25 (.agg (cu8 (sumG constL initL ([xbN (blkL key) (54:UInt8) 64, ls.flatten].flatten))).toArray) (cu8 (sumG constL initL ([xbN (blkL key) (54:UInt8) 64, ls.flatten].flatten))) (cu8 (sumG constL initL ([xbN (blkL key) (54:UInt8) 64, ls.flatten].flatten))) rfl rfl rfl (by first | rfl | simp) Tryd.sizeOf25 (len_cu8 (sumG_len _ _ _)) (by first | exact one_u8 | exact one_u32 | exact one_u64 | (simp [cu8, cu32, cu64, Value.oneCell']; done)) (by simp [(zr8_len 32)]) (lay_whole (by simp [(zr8_len 32), (sumG_len _ _ _)]))) rfl ?_
  rintro v1 L1 ⟨rfl, rfl⟩
  show JL _ _ _ _ _ [⟨nb1, cu8 (zr8 32), 25, (0, 0)⟩, ⟨nb2, cu8 (blkL key), 32, (0, 0)⟩, ⟨nb3, cu8 (xbN (blkL key) (54:UInt8) 64), tw1, (0, 0)⟩, ⟨nb4, cu8 ls.flatten ++ sp1, tj1, fj1⟩, ⟨nb9, [Slc nb3 0 64 64, Slc nb4 0 ls.flatten.length cp1], 22, (0, 0)⟩, ⟨nb10, cu8 (sumG constL initL ([xbN (blkL key) (54:UInt8) 64, ls.flatten].flatten)), 25, (0, 0)⟩]
  refine JL_nil ?_
  refine JQ_then ?_
  refine JC_seq ?_
  refine JC_draw 20 5 [(0, .agg (cu8 (blkL key)).toArray), (2, Slc nb10 0 32 32)] Tryd.mixed rfl (by decide +kernel) ?_
  refine DP_one ⟨[], [0, 2], [], [0, 2], [1]⟩ 1 _ rfl rfl (by decide +kernel) rfl ⟨⟨_, rfl, Qok_val rfl (Ev_load rfl (Ld_agg Tryd.isAgg32 Tryd.sizeOf32 (len_cu8 (blkL_len _)) (MemAt.ent 1 rfl (Seg.whole _))))⟩, ⟨_, rfl, Qok_val rfl (Ev_sliceA 32 5 1 0 32 0 32 Tryd.underlying25 Tryd.sizeOf5 rfl rfl rfl (by omega) (by omega) (by omega) (by omega) (by omega) 32 (by omega))⟩, trivial⟩ rfl (Cok_step rfl (Step_callN 95 [.agg (cu8 (blkL key)).toArray, U8 (92:UInt8)] _ (Cl_func [.agg (cu8 (blkL key)).toArray, U8 (92:UInt8)] Tryd.call95 rfl) (fun w1 hw1 => with_c (blkL key) (92:UInt8) w1 (blkL_len _)))) ?_
  rintro v1 L1 ⟨_, ⟨nb11, tw3, rfl, rfl⟩, rfl⟩
  refine ⟨[], ?_⟩
  show DP _ _ _ _ _ _ _ _ [⟨nb1, cu8 (zr8 32), 25, (0, 0)⟩, ⟨nb2, cu8 (blkL key), 32, (0, 0)⟩, ⟨nb3, cu8 (xbN (blkL key) (54:UInt8) 64), tw1, (0, 0)⟩, ⟨nb4, cu8 ls.flatten ++ sp1, tj1, fj1⟩, ⟨nb9, [Slc nb3 0 64 64, Slc nb4 0 ls.flatten.length cp1], 22, (0, 0)⟩, ⟨nb10, cu8 (sumG constL initL ([xbN (blkL key) (54:UInt8) 64, ls.flatten].flatten)), 25, (0, 0)⟩, ⟨nb11, cu8 (xbN (blkL key) (92:UInt8) 64), tw3, (0, 0)⟩]
  refine DP_one ⟨[1], [0, 2], [0], [2], [3]⟩ 3 _ rfl rfl (by decide +kernel) rfl ⟨⟨_, rfl, Qok_val rfl (Ev_sliceA 32 5 1 0 32 0 32 Tryd.underlying25 Tryd.sizeOf5 rfl rfl rfl (by omega) (by omega) (by omega) (by omega) (by omega) 32 (by omega))⟩, trivial⟩ rfl (Cok_step rfl (Step_buildSlice 22 1 _ [(0, Slc nb11 0 64 64), (1, Slc nb10 0 32 32)] ([Slc nb11 0 64 64, Slc nb10 0 32 32]) Tryd.underlying125 Tryd.sizeOf22 Tryd.zeroValue22 rfl rfl rfl (by kernel_rfl))) ?_
  rintro v1 L1 ⟨nb12, hnb12, rfl, rfl⟩
  refine ⟨[], ?_⟩
  show DP _ _ _ _ _ _ _ _ [⟨nb1, cu8 (zr8 32), 25, (0, 0)⟩, ⟨nb2, cu8 (blkL key), 32, (0, 0)⟩, ⟨nb3, cu8 (xbN (blkL key) (54:UInt8) 64), tw1, (0, 0)⟩, ⟨nb4, cu8 ls.flatten ++ sp1, tj1, fj1⟩, ⟨nb9, [Slc nb3 0 64 64, Slc nb4 0 ls.flatten.length cp1], 22, (0, 0)⟩, ⟨nb10, cu8 (sumG constL initL ([xbN (blkL key) (54:UInt8) 64, ls.flatten].flatten)), 25, (0, 0)⟩, ⟨nb11, cu8 (xbN (blkL key) (92:UInt8) 64), tw3, (0, 0)⟩, ⟨nb12, [Slc nb11 0 64 64, Slc nb10 0 32 32], 22, (0, 0)⟩]
  refine DP_one ⟨[1, 3], [0, 2], [0, 2], [], [4]⟩ 4 _ rfl rfl (by decide +kernel) rfl trivial rfl (Cok_step rfl (Step_callP 30 [Slc nb12 0 2 2] (.agg (cu8 (sumG constL initL ([xbN (blkL key) (92:UInt8) 64, sumG constL initL ([xbN (blkL key) (54:UInt8) 64, ls.flatten].flatten)].flatten))).toArray) (Cl_func [Slc nb12 0 2 2] Tryd.call30 rfl) (fun w1 hw1 => of_c nb12 2 [Slc nb11 0 64 64, Slc nb10 0 32 32] [xbN (blkL key) (92:UInt8) 64, sumG constL initL ([xbN (blkL key) (54:UInt8) 64, ls.flatten].flatten)] w1 (by simp) (by simp) (by simp) ⟨RdA.of hw1 (MemAt.ent 7 rfl (Seg.whole _)) (by simp), ⟨⟨(some ⟨nb11, 0, none⟩), 64, congrArg (fun n => Value.slice (some ⟨nb11, 0, none⟩) n 64) ((xbN_len64 _ 64 (blkL_len _))).symm, (RdB.of hw1 (MemAt.ent 6 rfl (Seg.whole _)) (by simp))⟩, ⟨⟨(some ⟨nb10, 0, none⟩), 32, congrArg (fun n => Value.slice (some ⟨nb10, 0, none⟩) n 32) ((sumG_len _ _ _)).symm, (RdB.of hw1 (MemAt.ent 5 rfl (Seg.whole _)) (by simp))⟩, trivial⟩⟩⟩ (by simp only [List.flatten_cons, List.flatten_nil, List.length_append, List.length_nil, (xbN_len64 _ 64 (blkL_len _)), (sumG_len _ _ _)]; omega) (hG.at hw1)))) ?_
  rintro v1 L1 ⟨rfl, rfl⟩
  refine ⟨[], ?_⟩
  show DP _ _ _ _ _ _ _ _ [⟨nb1, cu8 (zr8 32), 25, (0, 0)⟩, ⟨nb2, cu8 (blkL key), 32, (0, 0)⟩, ⟨nb3, cu8 (xbN (blkL key) (54:UInt8) 64), tw1, (0, 0)⟩, ⟨nb4, cu8 ls.flatten ++ sp1, tj1, fj1⟩, ⟨nb9, [Slc nb3 0 64 64, Slc nb4 0 ls.flatten.length cp1], 22, (0, 0)⟩, ⟨nb10, cu8 (sumG constL initL ([xbN (blkL key) (54:UInt8) 64, ls.flatten].flatten)), 25, (0, 0)⟩, ⟨nb11, cu8 (xbN (blkL key) (92:UInt8) 64), tw3, (0, 0)⟩, ⟨nb12, [Slc nb11 0 64 64, Slc nb10 0 32 32], 22, (0, 0)⟩]
  refine DP_one ⟨[1, 3, 4], [0, 2], [0, 2], [], [5]⟩ 5 _ rfl rfl (by decide +kernel) rfl trivial rfl (Cok_step rfl (Step_store 0 nb1 0 32 (cu8 (zr8 32)) 25 (.agg (cu8 (sumG constL initL ([xbN (blkL key) (92:UInt8) 64, sumG constL initL ([xbN (blkL key) (54:UInt8) 64, ls.flatten].flatten)].flatten))).toArray) (cu8 (sumG constL initL ([xbN (blkL key) (92:UInt8) 64, sumG constL initL ([xbN (blkL key) (54:UInt8) 64, ls.flatten].flatten)].flatten))) (cu8 (sumG constL initL ([xbN (blkL key) (92:UInt8) 64, sumG constL initL ([xbN (blkL key) (54:UInt8) 64, ls.flatten].flatten)].flatten))) rfl rfl rfl (by first | rfl | simp) Tryd.sizeOf25 (len_cu8 (sumG_len _ _ _)) (by first | exact one_u8 | exact one_u32 | exact one_u64 | (simp [cu8, cu32, cu64, Value.oneCell']; done)) (by simp [(zr8_len 32)]) (lay_whole (by simp [(zr8_len 32), (sumG_len _ _ _)])))) ?_
  rintro v1 L1 ⟨rfl, rfl⟩
  refine ⟨[], ?_⟩
  show DP _ _ _ _ _ _ _ _ [⟨nb1, cu8 (sumG constL initL ([xbN (blkL key) (92:UInt8) 64, sumG constL initL ([xbN (blkL key) (54:UInt8) 64, ls.flatten].flatten)].flatten)), 25, (0, 0)⟩, ⟨nb2, cu8 (blkL key), 32, (0, 0)⟩, ⟨nb3, cu8 (xbN (blkL key) (54:UInt8) 64), tw1, (0, 0)⟩, ⟨nb4, cu8 ls.flatten ++ sp1, tj1, fj1⟩, ⟨nb9, [Slc nb3 0 64 64, Slc nb4 0 ls.flatten.length cp1], 22, (0, 0)⟩, ⟨nb10, cu8 (sumG constL initL ([xbN (blkL key) (54:UInt8) 64, ls.flatten].flatten)), 25, (0, 0)⟩, ⟨nb11, cu8 (xbN (blkL key) (92:UInt8) 64), tw3, (0, 0)⟩, ⟨nb12, [Slc nb11 0 64 64, Slc nb10 0 32 32], 22, (0, 0)⟩]
  refine DP_end ⟨[1, 3, 4, 5], [0, 2], [0, 2], [], []⟩ rfl rfl (by decide +kernel) rfl trivial ?_
  refine K_sub (F' := [(4, Ptr nb1 0)]) (Sub.cons (by kernel_rfl) (Sub.nil)) ?_
  show JQ _ _ _ [(4, Ptr nb1 0)] _
  refine JQ_then ?_
  refine JC_ret ?_
  refine JQ_ret (.agg (cu8 (sumG constL initL ([xbN (blkL key) (92:UInt8) 64, sumG constL initL ([xbN (blkL key) (54:UInt8) 64, ls.flatten].flatten)].flatten))).toArray) (res1 Tryd.results39 (RV_cell rfl (Ld_agg Tryd.isAgg25 Tryd.sizeOf25 (len_cu8 (sumG_len _ _ _)) (MemAt.ent 0 rfl (Seg.whole _))))) fun w1 hw1 => ?_
  refine ⟨_, [], rfl, ⟨?_, rfl⟩, hw1.sub (by simp) (by simp)⟩
  rw [macL]
  first | (simp; done) | (rw [he1]; simp; done)
end Go.Proofs.YtncoifiafklkjaaDoor
namespace Go.Proofs.YtncoifiafklkjaaDoor
open Go Go.Sx
set_option linter.unusedVariables false
set_option linter.unusedSimpArgs false
set_option maxRecDepth 100000
attribute [local irreducible] mid zr8 zr32 rotr wordL spreadL comprL cpN adN spN wrdN constL initL padL stN outN routN hashL sumG blkL xbN raN macL orN
theorem short_c (ao : Option Addr) (n cb : Nat) (key : List UInt8) (b c : Nat) (vs : List Value) (ls : List (List UInt8)) (w : World) (hb : key.length = n) (hcb : ao = none → cb = 0) (hn : n ≤ 17592186044416) (hr : RdB w [] ao key) (hk : 1 ≤ ls.length) (hc : ls.length ≤ c) (hk2 : ls.length ≤ 1000) (hp : Parts w b vs ls) (hs : ls.flatten.length ≤ 100000000) (hG : GLs w) : Calls Tryd.prog 40 #[.slice ao n cb, .slice (some ⟨b, 0, none⟩) ls.length c] w (Post w [] (fun v L => ∃ g sp cap, v = Slc g 0 16 cap ∧ L = [⟨g, cu8 (mid (macL key ls.flatten) 0 16) ++ sp, 5, (0, 0)⟩] ∧ sp.length = cap - 16 ∧ 16 ≤ cap ∧ cap ≤ maxLen)) := by
 refine enter w [] 11 [] [.slice ao n cb, .slice (some ⟨b, 0, none⟩) ls.length c] Tryd.func40 rfl rfl (by simp) (Hp.start (by simp) (by simp) (by simp)) ?_
 show JC _ _ _ [(0, .slice ao n cb), (1, .slice (some ⟨b, 0, none⟩) ls.length c)] _
 refine JC_seq ?_
 refine JC_region ?_
 refine JL_val _ (Ev_assign rfl) rfl ?_
 refine JL_nil ?_
 refine JQ_then ?_
 refine JC_seq ?_
 refine JC_region ?_
 refine JL_val _ (Ev_move rfl) rfl ?_
 refine JL_val _ (Ev_move rfl) rfl ?_
 refine JL_step (Step_callP 39 [.slice ao n cb, .slice (some ⟨b, 0, none⟩) ls.length c] (.agg (cu8 (macL key ls.flatten)).toArray) (Cl_func [.slice ao n cb, .slice (some ⟨b, 0, none⟩) ls.length c] Tryd.call39 rfl) (fun w1 hw1 => mac_c ao n cb key b c vs ls w1 hb hcb (by omega) (hr.at (M' := []) hw1 (by simp)) hk hc hk2 (hp.at hw1 rfl (by omega)) hs (hG.at hw1))) rfl ?_
 rintro v1 L1 ⟨rfl, rfl⟩
 show JL _ _ _ _ ((8, .agg (cu8 (macL key ls.flatten)).toArray) :: _) []
 refine JL_step (Step_alloc _ (cu8 (zr8 32)) Tryd.zeroValue25 (by kernel_rfl)) rfl ?_
 rintro v1 L1 ⟨nb1, hnb1, rfl, rfl⟩
 show JL _ _ _ _ ((5, Ptr nb1 0) :: _) [⟨nb1, cu8 (zr8 32), 25, (0, 0)⟩]
 refine JL_step (Step_store 0 nb1 0 32 (cu8 (zr8 32)) 25 (.agg (cu8 (macL key ls.flatten)).toArray) (cu8 (macL key ls.flatten)) (cu8 (macL key ls.flatten)) rfl rfl rfl (by first | rfl | simp) Tryd.sizeOf25 (len_cu8 (macL_len _ _)) (by first | exact one_u8 | exact one_u32 | exact one_u64 | (simp [cu8, cu32, cu64, Value.oneCell']; done)) (by simp [(zr8_len 32)]) (lay_whole (by simp [(zr8_len 32), (macL_len _ _)]))) rfl ?_
 rintro v1 L1 ⟨rfl, rfl⟩
 show JL _ _ _ _ _ [⟨nb1, cu8 (macL key ls.flatten), 25, (0, 0)⟩]
 refine JL_nil ?_
 refine JQ_then ?_
 refine JC_seq ?_
 refine JC_region ?_
 refine JL_val (Slc nb1 0 16 32) (Ev_sliceA 32 5 1 0 16 0 32 Tryd.underlying25 Tryd.sizeOf5 rfl rfl rfl (by omega) (by omega) (by omega) (by omega) (by omega) 16 (by omega)) rfl ?_
 have hl1 : (mid (macL key ls.flatten) 0 16).length = 16 := mid_len (by rw [(macL_len _ _)]; omega)
 refine JL_step (Step_callN 96 [Slc nb1 0 16 32] _ (Cl_func [Slc nb1 0 16 32] Tryd.call96 rfl) (fun w1 hw1 => bclone_c (some ⟨nb1, 0, none⟩) 16 32 (mid (macL key ls.flatten) 0 16) w1 rfl hl1 (by omega) (RdB.of hw1 (MemAt.ent 0 rfl (segm_u8 0 16 (by rw [(macL_len _ _)]; omega))) (by simp)))) rfl ?_
 rintro v1 L1 ⟨_, ⟨nb2, sp1, cp1, rfl, rfl, hc1, hc2, hc3⟩, rfl⟩
 show JL _ _ _ _ ((10, Slc nb2 0 16 cp1) :: _) [⟨nb1, cu8 (macL key ls.flatten), 25, (0, 0)⟩, ⟨nb2, cu8 (mid (macL key ls.flatten) 0 16) ++ sp1, 5, (0, 0)⟩]
 refine JL_val _ (Ev_assign rfl) rfl ?_
 refine JL_nil ?_
 refine JQ_then ?_
 refine JC_ret ?_
 refine JQ_ret (Slc nb2 0 16 cp1) (res1 Tryd.results40 (RV_tmp rfl)) fun w1 hw1 => ?_
 exact ⟨_, _, rfl, ⟨nb2, sp1, cp1, rfl, rfl, hc1, hc2, hc3⟩, hw1.sub (by simp) (by simp)⟩
theorem rblockS_c (ao : Option Addr) (n cb : Nat) (b : List UInt8) (w : World) (hb : b.length = n) (hcb : ao = none → cb = 0) (hr : RdB w [] ao b) (hGr : GLr w) (hGi : GLi w) (hn : n ≤ 64) : Calls Tryd.prog 41 #[.slice ao n cb] w (Post w [] (fun v L => ∃ g sp cap, v = Slc g 0 64 cap ∧ L = [⟨g, cu8 (blkL b) ++ sp, 5, (0, 0)⟩] ∧ sp.length = cap - 64 ∧ 64 ≤ cap ∧ cap ≤ maxLen)) := by
 have hmx : maxLen = 9223372036854775807 := rfl
 refine enter w [] 21 [] [.slice ao n cb] Tryd.func41 rfl rfl (by simp) (Hp.start (by simp) (by simp) (by simp)) ?_
 show JC _ _ _ [(0, .slice ao n cb)] _
 refine JC_seq ?_
 refine JC_region ?_
 refine JL_val _ (Ev_assign rfl) rfl ?_
 refine JL_nil ?_
 refine JQ_then ?_
 refine JC_seq ?_
 refine JC_region ?_
 refine JL_step (Step_buildSlice0 5 1 Tryd.underlying22 Tryd.sizeOf5) rfl ?_
 rintro v1 L1 ⟨nb1, hnb1, rfl, rfl⟩
 show JL _ _ _ _ ((5, Slc nb1 0 0 0) :: _) [⟨nb1, [], 5, (0, 0)⟩]
 refine JL_val _ (Ev_move rfl) rfl ?_
 refine JL_step (Step_appM8 22 5 [true] (Slc nb1 0 0 0) 0 ([] : List UInt8) b ao n cb n Tryd.underlying22 Tryd.info5 rfl (.inr ⟨nb1, [], 0, rfl, (by simp [take?, cu8, cu32, cu64]), rfl, (by simp), (by omega), (by unfold maxLen; omega)⟩) rfl (by simp [hb]; try omega) (hr.src) (by omega) (by unfold maxLen; omega) (by omega)) rfl ?_
 rintro v1 L1 ⟨nb2, sp1, cp1, hg1, rfl, rfl, ha1, ha2, ha3, ha4⟩
 show JL _ _ _ _ ((7, Slc nb2 0 n cp1) :: _) [⟨nb2, cu8 (([] : List UInt8) ++ b) ++ sp1, 5, (0, 0)⟩]
 refine JL_val _ (Ev_assign rfl) rfl ?_
 refine JL_nil ?_
 refine JQ_then ?_
 refine JC_seq ?_
 refine JC_seq ?_
 refine JC_region ?_
 refine JL_val _ (Ev_move rfl) rfl ?_
 refine JL_val (I64 ((n:Int))) (Ev_len Tryd.underlying22 rfl) rfl ?_
 refine JL_val (.bool (decide ((64:Int) < ((n:Int))))) (Ev_bini rfl rfl fun _ => bin_gtr_i _ _) rfl ?_
 refine JL_nil ?_
 refine JQ_then ?_
 refine JC_condF _ rfl (decide_eq_false (by omega)) ?_
 refine JC_skip ?_
 refine JQ_then ?_
 refine JC_seq ?_
 refine JC_block ?_
 refine JC_loop (ι := Nat × List UInt8 × Nat × List Value × Nat) (fun ⟨j, o, g1, sp1, cp1⟩ => [(2, .slice none 0 0), (3, Slc g1 0 (j + n) cp1)]) (fun ⟨j, o, g1, sp1, cp1⟩ => [⟨g1, cu8 o ++ sp1, 5, (0, 0)⟩]) (fun ⟨j, o, g1, sp1, cp1⟩ => j + n ≤ 64 ∧ o = b ++ zr8 j ∧ o.length = j + n ∧ sp1.length = cp1 - (j + n) ∧ j + n ≤ cp1 ∧ cp1 ≤ maxLen) (fun ⟨j, o, g1, sp1, cp1⟩ => 64 - (j + n)) (0, ([] : List UInt8) ++ b, nb2, sp1, cp1) ⟨by omega, by simp [zr8], by simp [hb], by omega, by omega, ha4⟩ (Sub.cons rfl (Sub.cons (some_slc (by omega)) (Sub.nil))) rfl ?_
 rintro ⟨j, o, g1, sp1, cp1⟩ ⟨hx1, hx2, ho, hx4, hx5, hx6⟩
 show JC _ _ _ [(2, .slice none 0 0), (3, Slc g1 0 (j + n) cp1)] [⟨g1, cu8 o ++ sp1, 5, (0, 0)⟩]
 refine JC_seq ?_
 refine JC_seq ?_
 refine JC_region ?_
 refine JL_val _ (Ev_move rfl) rfl ?_
 refine JL_val (I64 ((j:Int) + (n:Int))) (Ev_lenX Tryd.underlying22 rfl (by omega)) rfl ?_
 refine JL_val (.bool (decide (((j:Int) + (n:Int)) < (64:Int)))) (Ev_bini rfl rfl fun _ => bin_lss_i _ _) rfl ?_
 refine JL_nil ?_
 refine JQ_then ?_
 refine JC_cond (decide (((j:Int) + (n:Int)) < (64:Int))) rfl (fun hb1 => ?_) (fun hb1 => ?_)
 ·
  have hp1 : ((j:Int) + (n:Int)) < (64:Int) := of_decide_eq_true hb1
  refine JC_skip ?_
  refine JQ_then ?_
  refine JC_block ?_
  refine JC_region ?_
  refine JL_val _ (Ev_move rfl) rfl ?_
  refine JL_step (Step_buildSlice 5 1 _ [(0, U8 (0:UInt8))] (cu8 ([(0:UInt8)])) Tryd.underlying22 Tryd.sizeOf5 Tryd.zeroValue5 rfl rfl rfl (by kernel_rfl)) rfl ?_
  rintro v1 L1 ⟨nb3, hnb3, rfl, rfl⟩
  show JL _ _ _ _ ((18, Slc nb3 0 1 1) :: _) [⟨g1, cu8 o ++ sp1, 5, (0, 0)⟩, ⟨nb3, cu8 ([(0:UInt8)]), 5, (0, 0)⟩]
  refine JL_step (Step_appM8 22 5 [true, false] (Slc g1 0 (j + n) cp1) (j + n) o ([(0:UInt8)]) (some ⟨nb3, 0, none⟩) 1 1 (j + n + 1) Tryd.underlying22 Tryd.info5 rfl (.inr ⟨g1, sp1, cp1, rfl, rfl, (by first | exact ho | simp [ho]), hx4, (by omega), (by omega)⟩) rfl (by simp) (SrcAt.mem (MemAt.ent 1 rfl (Seg.whole _))) (by omega) (by unfold maxLen; omega) (by omega)) rfl ?_
  rintro v1 L1 ⟨nb4, sp2, cp2, hg2, rfl, rfl, ha5, ha6, ha7, ha8⟩
  show JL _ _ _ _ ((19, Slc nb4 0 (j + n + 1) cp2) :: _) [⟨nb3, cu8 ([(0:UInt8)]), 5, (0, 0)⟩, ⟨nb4, cu8 (o ++ ([(0:UInt8)])) ++ sp2, 5, (0, 0)⟩]
  refine JL_val _ (Ev_assign rfl) rfl ?_
  refine JL_nil ?_
  refine JQ_in_normal ?_
  refine JQ_thenK ?_
  refine K_mask [false, true] ?_
  show K _ _ [⟨nb4, cu8 (o ++ ([(0:UInt8)])) ++ sp2, 5, (0, 0)⟩] _
  refine K_next (j + 1, o ++ ([(0:UInt8)]), nb4, sp2, cp2) ⟨by omega, by rw [hx2, zr8_succ, List.append_assoc], (ha5).trans (by first | rfl | simp +arith), (ha6).trans (by first | rfl | simp +arith), by omega, ha8⟩ (by first | (simp; omega) | simp) (Sub.cons rfl (Sub.cons (some_slc (by omega)) (Sub.nil))) rfl
 ·
  have hp1 : ¬ (((j:Int) + (n:Int)) < (64:Int)) := of_decide_eq_false hb1
  refine JC_exit ?_
  refine JQ_then_exit ?_
  refine JQ_then_exit ?_
  refine JQ_in_same ?_
  refine JQ_then ?_
  refine JC_seq ?_
  refine JC_region ?_
  refine JL_val _ (Ev_move rfl) rfl ?_
  refine JL_val _ (Ev_assign rfl) rfl ?_
  refine JL_nil ?_
  refine JQ_then ?_
  refine JC_ret ?_
  refine JQ_ret (Slc g1 0 (j + n) cp1) (res1 Tryd.results41 (RV_tmp rfl)) fun w1 hw1 => ?_
  have e1 : n + j = 64 := by omega
  have ex : o = blkL b := by rw [blkL_small (by omega), hx2]; congr 2; omega
  rw [ex] at hw1
  exact ⟨_, _, rfl, ⟨g1, sp1, cp1, slc_len (by omega), rfl, by omega, by omega, hx6⟩, hw1.sub (by simp) (by simp)⟩
theorem rblockB_c (ao : Option Addr) (n cb : Nat) (b : List UInt8) (w : World) (hb : b.length = n) (hcb : ao = none → cb = 0) (hr : RdB w [] ao b) (hGr : GLr w) (hGi : GLi w) (hn : 64 < n) (hn2 : n ≤ 17592186044416) : Calls Tryd.prog 41 #[.slice ao n cb] w (Post w [] (fun v L => ∃ g sp cap, v = Slc g 0 64 cap ∧ L = [⟨g, cu8 (blkL b) ++ sp, 5, (0, 0)⟩] ∧ sp.length = cap - 64 ∧ 64 ≤ cap ∧ cap ≤ maxLen)) := by
 have hmx : maxLen = 9223372036854775807 := rfl
 refine enter w [] 21 [] [.slice ao n cb] Tryd.func41 rfl rfl (by simp) (Hp.start (by simp) (by simp) (by simp)) ?_
 show JC _ _ _ [(0, .slice ao n cb)] _
 refine JC_seq ?_
 refine JC_region ?_
 refine JL_val _ (Ev_assign rfl) rfl ?_
 refine JL_nil ?_
 refine JQ_then ?_
 refine JC_seq ?_
 refine JC_region ?_
 refine JL_step (Step_buildSlice0 5 1 Tryd.underlying22 Tryd.sizeOf5) rfl ?_
 rintro v1 L1 ⟨nb1, hnb1, rfl, rfl⟩
 show JL _ _ _ _ ((5, Slc nb1 0 0 0) :: _) [⟨nb1, [], 5, (0, 0)⟩]
 refine JL_val _ (Ev_move rfl) rfl ?_
 refine JL_step (Step_appM8 22 5 [true] (Slc nb1 0 0 0) 0 ([] : List UInt8) b ao n cb n Tryd.underlying22 Tryd.info5 rfl (.inr ⟨nb1, [], 0, rfl, (by simp [take?, cu8, cu32, cu64]), rfl, (by simp), (by omega), (by unfold maxLen; omega)⟩) rfl (by simp [hb]; try omega) (hr.src) (by omega) (by unfold maxLen; omega) (by omega)) rfl ?_
 rintro v1 L1 ⟨nb2, sp1, cp1, hg1, rfl, rfl, ha1, ha2, ha3, ha4⟩
 show JL _ _ _ _ ((7, Slc nb2 0 n cp1) :: _) [⟨nb2, cu8 (([] : List UInt8) ++ b) ++ sp1, 5, (0, 0)⟩]
 refine JL_val _ (Ev_assign rfl) rfl ?_
 refine JL_nil ?_
 refine JQ_then ?_
 refine JC_seq ?_
 refine JC_seq ?_
 refine JC_region ?_
 refine JL_val _ (Ev_move rfl) rfl ?_
 refine JL_val (I64 ((n:Int))) (Ev_len Tryd.underlying22 rfl) rfl ?_
 refine JL_val (.bool (decide ((64:Int) < ((n:Int))))) (Ev_bini rfl rfl fun _ => bin_gtr_i _ _) rfl ?_
 refine JL_nil ?_
 refine JQ_then ?_
 refine JC_condT _ rfl (decide_eq_true (by omega)) ?_
 refine JC_seq ?_
 refine JC_region ?_
 refine JL_val _ (Ev_move rfl) rfl ?_
 refine JL_step (Step_callP 24 [.slice ao n cb] (.agg (cu8 (sumG constL initL b)).toArray) (Cl_func [.slice ao n cb] Tryd.call24 rfl) (fun w1 hw1 => rsum_c ao n cb b w1 hb (by omega) (hr.at (M' := []) hw1 (by simp)) (GLr.at hw1 hGr) (GLi.at hw1 hGi))) rfl ?_
 rintro v1 L1 ⟨rfl, rfl⟩
 show JL _ _ _ _ ((12, .agg (cu8 (sumG constL initL b)).toArray) :: _) [⟨nb2, cu8 (([] : List UInt8) ++ b) ++ sp1, 5, (0, 0)⟩]
 refine JL_step (Step_alloc _ (cu8 (zr8 32)) Tryd.zeroValue25 (by kernel_rfl)) rfl ?_
 rintro v1 L1 ⟨nb3, hnb3, rfl, rfl⟩
 show JL _ _ _ _ ((4, Ptr nb3 0) :: _) [⟨nb2, cu8 (([] : List UInt8) ++ b) ++ sp1, 5, (0, 0)⟩, ⟨nb3, cu8 (zr8 32), 25, (0, 0)⟩]
 refine JL_step (Step_store 1 nb3 0 32 (cu8 (zr8 32)) 25 (.agg (cu8 (sumG constL initL b)).toArray) (cu8 (sumG constL initL b)) (cu8 (sumG constL initL b)) rfl rfl rfl (by first | rfl | simp) Tryd.sizeOf25 (len_cu8 (sumG_len _ _ _)) (by first | exact one_u8 | exact one_u32 | exact one_u64 | (simp [cu8, cu32, cu64, Value.oneCell']; done)) (by simp [(zr8_len 32)]) (lay_whole (by simp [(zr8_len 32), (sumG_len _ _ _)]))) rfl ?_
 rintro v1 L1 ⟨rfl, rfl⟩
 show JL _ _ _ _ _ [⟨nb2, cu8 (([] : List UInt8) ++ b) ++ sp1, 5, (0, 0)⟩, ⟨nb3, cu8 (sumG constL initL b), 25, (0, 0)⟩]
 refine JL_nil ?_
 refine JQ_then ?_
 refine JC_region ?_
 refine JL_val (Slc nb3 0 32 32) (Ev_sliceA 32 5 1 0 32 0 32 Tryd.underlying25 Tryd.sizeOf5 rfl rfl rfl (by omega) (by omega) (by omega) (by omega) (by omega) 32 (by omega)) rfl ?_
 refine JL_val _ (Ev_assign rfl) rfl ?_
 refine JL_nil ?_
 refine JQ_then ?_
 refine JC_seq ?_
 refine JC_block ?_
 refine K_mask [false, true] ?_
 show JC _ _ _ _ [⟨nb3, cu8 (sumG constL initL b), 25, (0, 0)⟩]
 refine JC_loop (ι := (Unit) ⊕ (Nat × List UInt8 × Nat × List Value × Nat)) (fun x => match x with | .inl _ => [(2, .slice none 0 0), (3, Slc nb3 0 32 32)] | .inr ⟨j, o, g1, sp1, cp1⟩ => [(2, .slice none 0 0), (3, Slc g1 0 (j + 32) cp1)]) (fun x => match x with | .inl _ => [⟨nb3, cu8 (sumG constL initL b), 25, (0, 0)⟩] | .inr ⟨j, o, g1, sp1, cp1⟩ => [⟨g1, cu8 o ++ sp1, 5, (0, 0)⟩]) (fun x => match x with | .inl _ => True | .inr ⟨j, o, g1, sp1, cp1⟩ => 1 ≤ j ∧ j ≤ 32 ∧ o = sumG constL initL b ++ zr8 j ∧ o.length = j + 32 ∧ sp1.length = cp1 - (j + 32) ∧ j + 32 ≤ cp1 ∧ cp1 ≤ maxLen) (fun x => match x with | .inl _ => 33 | .inr ⟨j, o, g1, sp1, cp1⟩ => 32 - j) (.inl ()) trivial (Sub.cons rfl (Sub.cons rfl (Sub.nil))) rfl ?_
 rintro (_ | ⟨j, o, g1, sp1, cp1⟩) hx
 ·
  obtain _ := hx
  show JC _ _ _ [(2, .slice none 0 0), (3, Slc nb3 0 32 32)] [⟨nb3, cu8 (sumG constL initL b), 25, (0, 0)⟩]
  refine JC_seq ?_
  refine JC_seq ?_
  refine JC_region ?_
  refine JL_val _ (Ev_move rfl) rfl ?_
  refine JL_val (I64 (32:Int)) (Ev_len Tryd.underlying22 rfl) rfl ?_
  refine JL_val (.bool (decide ((32:Int) < (64:Int)))) (Ev_bini rfl rfl fun _ => bin_lss_i _ _) rfl ?_
  refine JL_nil ?_
  refine JQ_then ?_
  refine JC_condT _ rfl (by decide) ?_
  refine JC_skip ?_
  refine JQ_then ?_
  refine JC_block ?_
  refine JC_region ?_
  refine JL_val _ (Ev_move rfl) rfl ?_
  refine JL_step (Step_buildSlice 5 1 _ [(0, U8 (0:UInt8))] (cu8 ([(0:UInt8)])) Tryd.underlying22 Tryd.sizeOf5 Tryd.zeroValue5 rfl rfl rfl (by kernel_rfl)) rfl ?_
  rintro v1 L1 ⟨nb4, hnb4, rfl, rfl⟩
  show JL _ _ _ _ ((18, Slc nb4 0 1 1) :: _) [⟨nb3, cu8 (sumG constL initL b), 25, (0, 0)⟩, ⟨nb4, cu8 ([(0:UInt8)]), 5, (0, 0)⟩]
  refine JL_step (Step_appG8 22 5 ⟨nb3, 0, none⟩ 32 32 (sumG constL initL b) ([(0:UInt8)]) (some ⟨nb4, 0, none⟩) 1 1 33 Tryd.underlying22 Tryd.info5 rfl (sumG_len _ _ _) (SrcAt.mem (MemAt.ent 0 rfl (Seg.whole _))) rfl (by simp) (SrcAt.mem (MemAt.ent 1 rfl (Seg.whole _))) (by omega) (by omega) (by omega) (by unfold maxLen; omega) (by omega)) rfl ?_
  rintro v1 L1 ⟨nb5, sp2, cp2, hg2, rfl, rfl, ha5, ha6, ha7, ha8⟩
  show JL _ _ _ _ ((19, Slc nb5 0 33 cp2) :: _) [⟨nb3, cu8 (sumG constL initL b), 25, (0, 0)⟩, ⟨nb4, cu8 ([(0:UInt8)]), 5, (0, 0)⟩, ⟨nb5, cu8 ((sumG constL initL b) ++ ([(0:UInt8)])) ++ sp2, 5, (0, 0)⟩]
  refine JL_val _ (Ev_assign rfl) rfl ?_
  refine JL_nil ?_
  refine JQ_in_normal ?_
  refine JQ_thenK ?_
  refine K_mask [false, false, true] ?_
  show K _ _ [⟨nb5, cu8 ((sumG constL initL b) ++ ([(0:UInt8)])) ++ sp2, 5, (0, 0)⟩] _
  refine K_next (.inr (1, (sumG constL initL b) ++ ([(0:UInt8)]), nb5, sp2, cp2)) ⟨by omega, by omega, by simp [zr8], (ha5).trans (by first | rfl | simp +arith), (ha6).trans (by first | rfl | simp +arith), by omega, ha8⟩ (by first | (simp; omega) | simp) (Sub.cons rfl (Sub.cons (some_slc (by omega)) (Sub.nil))) rfl
 ·
  obtain ⟨hx0, hx1, hx2, ho, hx4, hx5, hx6⟩ := hx
  show JC _ _ _ [(2, .slice none 0 0), (3, Slc g1 0 (j + 32) cp1)] [⟨g1, cu8 o ++ sp1, 5, (0, 0)⟩]
  refine JC_seq ?_
  refine JC_seq ?_
  refine JC_region ?_
  refine JL_val _ (Ev_move rfl) rfl ?_
  refine JL_val (I64 ((j:Int) + 32)) (Ev_lenX Tryd.underlying22 rfl (by omega)) rfl ?_
  refine JL_val (.bool (decide (((j:Int) + 32) < (64:Int)))) (Ev_bini rfl rfl fun _ => bin_lss_i _ _) rfl ?_
  refine JL_nil ?_
  refine JQ_then ?_
  refine JC_cond (decide (((j:Int) + 32) < (64:Int))) rfl (fun hb1 => ?_) (fun hb1 => ?_)
  ·
   have hp1 : ((j:Int) + 32) < (64:Int) := of_decide_eq_true hb1
   refine JC_skip ?_
   refine JQ_then ?_
   refine JC_block ?_
   refine JC_region ?_
   refine JL_val _ (Ev_move rfl) rfl ?_
   refine JL_step (Step_buildSlice 5 1 _ [(0, U8 (0:UInt8))] (cu8 ([(0:UInt8)])) Tryd.underlying22 Tryd.sizeOf5 Tryd.zeroValue5 rfl rfl rfl (by kernel_rfl)) rfl ?_
   rintro v1 L1 ⟨nb6, hnb6, rfl, rfl⟩
   show JL _ _ _ _ ((18, Slc nb6 0 1 1) :: _) [⟨g1, cu8 o ++ sp1, 5, (0, 0)⟩, ⟨nb6, cu8 ([(0:UInt8)]), 5, (0, 0)⟩]
   refine JL_step (Step_appM8 22 5 [true, false] (Slc g1 0 (j + 32) cp1) (j + 32) o ([(0:UInt8)]) (some ⟨nb6, 0, none⟩) 1 1 (j + 33) Tryd.underlying22 Tryd.info5 rfl (.inr ⟨g1, sp1, cp1, rfl, rfl, (by first | exact ho | simp [ho]), hx4, (by omega), (by omega)⟩) rfl (by simp) (SrcAt.mem (MemAt.ent 1 rfl (Seg.whole _))) (by omega) (by unfold maxLen; omega) (by omega)) rfl ?_
   rintro v1 L1 ⟨nb7, sp3, cp3, hg3, rfl, rfl, ha9, ha10, ha11, ha12⟩
   show JL _ _ _ _ ((19, Slc nb7 0 (j + 33) cp3) :: _) [⟨nb6, cu8 ([(0:UInt8)]), 5, (0, 0)⟩, ⟨nb7, cu8 (o ++ ([(0:UInt8)])) ++ sp3, 5, (0, 0)⟩]
   refine JL_val _ (Ev_assign rfl) rfl ?_
   refine JL_nil ?_
   refine JQ_in_normal ?_
   refine JQ_thenK ?_
   refine K_mask [false, true] ?_
   show K _ _ [⟨nb7, cu8 (o ++ ([(0:UInt8)])) ++ sp3, 5, (0, 0)⟩] _
   refine K_next (.inr (j + 1, o ++ ([(0:UInt8)]), nb7, sp3, cp3)) ⟨by omega, by omega, by rw [hx2, zr8_succ, List.append_assoc], (ha9).trans (by first | rfl | simp +arith), (ha10).trans (by first | rfl | simp +arith), by omega, ha12⟩ (by first | (simp; omega) | simp) (Sub.cons rfl (Sub.cons (some_slc (by omega)) (Sub.nil))) rfl
  ·
   have hp1 : ¬ (((j:Int) + 32) < (64:Int)) := of_decide_eq_false hb1
   refine JC_exit ?_
   refine JQ_then_exit ?_
   refine JQ_then_exit ?_
   refine JQ_in_same ?_
   refine JQ_then ?_
   refine JC_seq ?_
   refine JC_region ?_
   refine JL_val _ (Ev_move rfl) rfl ?_
   refine JL_val _ (Ev_assign rfl) rfl ?_
   refine JL_nil ?_
   refine JQ_then ?_
   refine JC_ret ?_
   refine JQ_ret (Slc g1 0 (j + 32) cp1) (res1 Tryd.results41 (RV_tmp rfl)) fun w1 hw1 => ?_
   have e1 : j = 32 := by omega
   have ex : o = blkL b := by rw [blkL_big (by omega), hx2, e1]
   rw [ex] at hw1
   exact ⟨_, _, rfl, ⟨g1, sp1, cp1, slc_len (by omega), rfl, by omega, by omega, hx6⟩, hw1.sub (by simp) (by simp)⟩
end Go.Proofs.YtncoifiafklkjaaDoor
namespace Go.Proofs.YtncoifiafklkjaaDoor
open Go Go.Sx
set_option linter.unusedVariables false
set_option linter.unusedSimpArgs false
set_option maxRecDepth 100000
attribute [local irreducible] mid zr8 zr32 rotr wordL spreadL comprL cpN adN spN wrdN constL initL padL stN outN routN hashL sumG blkL xbN raN macL orN
theorem rblock_w (ao : Option Addr) (n cb : Nat) (b : List UInt8) (w : World) (hb : b.length = n) (hcb : ao = none → cb = 0) (hr : RdB w [] ao b) (hGr : GLr w) (hGi : GLi w) (hn : n ≤ 17592186044416) : Calls Tryd.prog 41 #[.slice ao n cb] w (Post w [] (fun v L => ∃ g sp cap, v = Slc g 0 64 cap ∧ L = [⟨g, cu8 (blkL b) ++ sp, 5, (0, 0)⟩] ∧ sp.length = cap - 64 ∧ 64 ≤ cap ∧ cap ≤ maxLen)) := by
  by_cases h : n ≤ 64
  · exact rblockS_c ao n cb b w hb hcb hr hGr hGi h
  · exact rblockB_c ao n cb b w hb hcb hr hGr hGi (by omega) hn

theorem rmac_c (ao : Option Addr) (n cb : Nat) (key : List UInt8) (ax : Option Addr) (m ct : Nat) (t : List UInt8) (w : World) (hb : key.length = n) (hcb : ao = none → cb = 0) (hn : n ≤ 17592186044416) (hr : RdB w [] ao key) (ht : t.length = m) (hm : m ≤ 1000000000) (hrt : RdB w [] ax t) (hGr : GLr w) (hGi : GLi w) : Calls Tryd.prog 37 #[.slice ao n cb, .slice ax m ct] w (Post w [] (fun v L => v = .agg (cu8 (macL key t)).toArray ∧ L = [])) := by
 have hmx : maxLen = 9223372036854775807 := rfl
 refine enter w [] 40 [] [.slice ao n cb, .slice ax m ct] Tryd.func37 rfl rfl (by simp) (Hp.start (by simp) (by simp) (by simp)) ?_
 show JC _ _ _ [(0, .slice ao n cb), (1, .slice ax m ct)] _
 refine JC_seq ?_
 refine JC_region ?_
 refine JL_step (Step_alloc _ (cu8 (zr8 32)) Tryd.zeroValue25 (by kernel_rfl)) rfl ?_
 rintro v1 L1 ⟨nb1, hnb1, rfl, rfl⟩
 show JL _ _ _ _ ((4, Ptr nb1 0) :: _) [⟨nb1, cu8 (zr8 32), 25, (0, 0)⟩]
 refine JL_nil ?_
 refine JQ_then ?_
 refine JC_seq ?_
 refine JC_region ?_
 refine JL_val _ (Ev_move rfl) rfl ?_
 refine JL_step (Step_callN 41 [.slice ao n cb] _ (Cl_func [.slice ao n cb] Tryd.call41 rfl) (fun w1 hw1 => rblock_w ao n cb key w1 hb hcb (hr.at (M' := []) hw1 (by simp)) (GLr.at hw1 hGr) (GLi.at hw1 hGi) (by omega))) rfl ?_
 rintro v1 L1 ⟨_, ⟨nb2, sp1, cp1, rfl, rfl, hc1, hc2, hc3⟩, rfl⟩
 show JL _ _ _ _ ((11, Slc nb2 0 64 cp1) :: _) [⟨nb1, cu8 (zr8 32), 25, (0, 0)⟩, ⟨nb2, cu8 (blkL key) ++ sp1, 5, (0, 0)⟩]
 refine JL_val _ (Ev_assign rfl) rfl ?_
 refine JL_nil ?_
 refine JQ_then ?_
 refine JC_seq ?_
 refine JC_region ?_
 refine JL_val _ (Ev_assign rfl) rfl ?_
 refine JL_val _ (Ev_assign rfl) rfl ?_
 refine JL_nil ?_
 refine JQ_then ?_
 refine JC_seq ?_
 refine JC_seq ?_
 refine JC_region ?_
 refine JL_val _ (Ev_assign rfl) rfl ?_
 refine JL_nil ?_
 refine JQ_then ?_
 refine JC_block ?_
 refine JC_loop (ι := (Unit) ⊕ (Nat × List UInt8 × Nat × List Value × Nat × List UInt8 × Nat × List Value × Nat)) (fun x => match x with | .inl _ => [(1, .slice ax m ct), (4, Ptr nb1 0), (5, Slc nb2 0 64 cp1), (6, .slice none 0 0), (7, .slice none 0 0), (8, I64 (0:Int))] | .inr ⟨k, o6, g6, sp6, cp6, o7, g7, sp7, cp7⟩ => [(1, .slice ax m ct), (4, Ptr nb1 0), (5, Slc nb2 0 64 cp1), (6, Slc g6 0 k cp6), (7, Slc g7 0 k cp7), (8, I64 ((k:Int)))]) (fun x => match x with | .inl _ => [⟨nb1, cu8 (zr8 32), 25, (0, 0)⟩, ⟨nb2, cu8 (blkL key) ++ sp1, 5, (0, 0)⟩] | .inr ⟨k, o6, g6, sp6, cp6, o7, g7, sp7, cp7⟩ => [⟨nb1, cu8 (zr8 32), 25, (0, 0)⟩, ⟨nb2, cu8 (blkL key) ++ sp1, 5, (0, 0)⟩, ⟨g6, cu8 o6 ++ sp6, 5, (0, 0)⟩, ⟨g7, cu8 o7 ++ sp7, 5, (0, 0)⟩]) (fun x => match x with | .inl _ => True | .inr ⟨k, o6, g6, sp6, cp6, o7, g7, sp7, cp7⟩ => 1 ≤ k ∧ k ≤ 64 ∧ o6 = raN (blkL key) 54 k ∧ o6.length = k ∧ sp6.length = cp6 - k ∧ k ≤ cp6 ∧ cp6 ≤ maxLen ∧ o7 = raN (blkL key) 92 k ∧ o7.length = k ∧ sp7.length = cp7 - k ∧ k ≤ cp7 ∧ cp7 ≤ maxLen) (fun x => match x with | .inl _ => 65 | .inr ⟨k, o6, g6, sp6, cp6, o7, g7, sp7, cp7⟩ => 64 - k) (.inl ()) trivial (Sub.cons rfl (Sub.cons rfl (Sub.cons rfl (Sub.cons rfl (Sub.cons rfl (Sub.cons rfl (Sub.nil))))))) rfl ?_
 rintro (_ | ⟨k, o6, g6, sp6, cp6, o7, g7, sp7, cp7⟩) hx
 ·
  obtain _ := hx
  show JC _ _ _ [(1, .slice ax m ct), (4, Ptr nb1 0), (5, Slc nb2 0 64 cp1), (6, .slice none 0 0), (7, .slice none 0 0), (8, I64 (0:Int))] [⟨nb1, cu8 (zr8 32), 25, (0, 0)⟩, ⟨nb2, cu8 (blkL key) ++ sp1, 5, (0, 0)⟩]
  refine JC_seq ?_
  refine JC_seq ?_
  refine JC_region ?_
  refine JL_val _ (Ev_move rfl) rfl ?_
  refine JL_val (.bool (decide ((0:Int) < (64:Int)))) (Ev_bini rfl rfl fun _ => bin_lss_i _ _) rfl ?_
  refine JL_nil ?_
  refine JQ_then ?_
  refine JC_condT _ rfl (by decide) ?_
  refine JC_skip ?_
  refine JQ_then ?_
  refine JC_seq ?_
  refine JC_block ?_
  refine JC_seq ?_
  refine JC_region ?_
  refine JL_val _ (Ev_move rfl) rfl ?_
  refine JL_val _ (Ev_move rfl) rfl ?_
  refine JL_val _ (Ev_move rfl) rfl ?_
  refine JL_val (Ptr nb2 0) (Ev_indexSl 5 1 0 Tryd.underlying22 Tryd.sizeOf5 rfl rfl (by omega) (by omega) (by omega)) rfl ?_
  refine JL_val (U8 (g8 (blkL key) 0)) (Ev_load rfl (Ld_one Tryd.isAgg5 (MemAt.ent 1 rfl (Seg.left (Seg.get (g8_get (i := 0) (by rw [(blkL_len _)]; omega))))))) rfl ?_
  refine JL_val (U8 ((g8 (blkL key) 0) ^^^ (54:UInt8))) (Ev_bini rfl rfl fun _ => bin_xor_u8 (g8 (blkL key) 0) (54:UInt8)) rfl ?_
  refine JL_step (Step_buildSlice 5 1 _ [(0, U8 ((g8 (blkL key) 0) ^^^ (54:UInt8)))] (cu8 ([(g8 (blkL key) 0) ^^^ (54:UInt8)])) Tryd.underlying22 Tryd.sizeOf5 Tryd.zeroValue5 rfl rfl rfl (by kernel_rfl)) rfl ?_
  rintro v1 L1 ⟨nb3, hnb3, rfl, rfl⟩
  show JL _ _ _ _ ((22, Slc nb3 0 1 1) :: _) [⟨nb1, cu8 (zr8 32), 25, (0, 0)⟩, ⟨nb2, cu8 (blkL key) ++ sp1, 5, (0, 0)⟩, ⟨nb3, cu8 ([(g8 (blkL key) 0) ^^^ (54:UInt8)]), 5, (0, 0)⟩]
  refine JL_step (Step_appM8 22 5 [false, false, false] (.slice none 0 0) 0 ([] : List UInt8) ([(g8 (blkL key) 0) ^^^ (54:UInt8)]) (some ⟨nb3, 0, none⟩) 1 1 1 Tryd.underlying22 Tryd.info5 rfl (.inl ⟨rfl, rfl, rfl, rfl, by omega⟩) rfl (by simp) (SrcAt.mem (MemAt.ent 2 rfl (Seg.whole _))) (by omega) (by unfold maxLen; omega) (by omega)) rfl ?_
  rintro v1 L1 ⟨nb4, sp2, cp2, hg1, rfl, rfl, ha1, ha2, ha3, ha4⟩
  show JL _ _ _ _ ((23, Slc nb4 0 1 cp2) :: _) [⟨nb1, cu8 (zr8 32), 25, (0, 0)⟩, ⟨nb2, cu8 (blkL key) ++ sp1, 5, (0, 0)⟩, ⟨nb3, cu8 ([(g8 (blkL key) 0) ^^^ (54:UInt8)]), 5, (0, 0)⟩, ⟨nb4, cu8 (([] : List UInt8) ++ ([(g8 (blkL key) 0) ^^^ (54:UInt8)])) ++ sp2, 5, (0, 0)⟩]
  refine JL_val _ (Ev_assign rfl) rfl ?_
  refine JL_nil ?_
  refine JQ_then ?_
  refine JC_region ?_
  refine JL_val _ (Ev_move rfl) rfl ?_
  refine JL_val _ (Ev_move rfl) rfl ?_
  refine JL_val _ (Ev_move rfl) rfl ?_
  refine JL_val (Ptr nb2 0) (Ev_indexSl 5 1 0 Tryd.underlying22 Tryd.sizeOf5 rfl rfl (by omega) (by omega) (by omega)) rfl ?_
  refine JL_val (U8 (g8 (blkL key) 0)) (Ev_load rfl (Ld_one Tryd.isAgg5 (MemAt.ent 1 rfl (Seg.left (Seg.get (g8_get (i := 0) (by rw [(blkL_len _)]; omega))))))) rfl ?_
  refine JL_val (U8 ((g8 (blkL key) 0) ^^^ (92:UInt8))) (Ev_bini rfl rfl fun _ => bin_xor_u8 (g8 (blkL key) 0) (92:UInt8)) rfl ?_
  refine JL_step (Step_buildSlice 5 1 _ [(0, U8 ((g8 (blkL key) 0) ^^^ (92:UInt8)))] (cu8 ([(g8 (blkL key) 0) ^^^ (92:UInt8)])) Tryd.underlying22 Tryd.sizeOf5 Tryd.zeroValue5 rfl rfl rfl (by kernel_rfl)) rfl ?_
  rintro v1 L1 ⟨nb5, hnb5, rfl, rfl⟩
  show JL _ _ _ _ ((30, Slc nb5 0 1 1) :: _) [⟨nb1, cu8 (zr8 32), 25, (0, 0)⟩, ⟨nb2, cu8 (blkL key) ++ sp1, 5, (0, 0)⟩, ⟨nb3, cu8 ([(g8 (blkL key) 0) ^^^ (54:UInt8)]), 5, (0, 0)⟩, ⟨nb4, cu8 (([] : List UInt8) ++ ([(g8 (blkL key) 0) ^^^ (54:UInt8)])) ++ sp2, 5, (0, 0)⟩, ⟨nb5, cu8 ([(g8 (blkL key) 0) ^^^ (92:UInt8)]), 5, (0, 0)⟩]
  refine JL_step (Step_appM8 22 5 [false, false, false, false, false] (.slice none 0 0) 0 ([] : List UInt8) ([(g8 (blkL key) 0) ^^^ (92:UInt8)]) (some ⟨nb5, 0, none⟩) 1 1 1 Tryd.underlying22 Tryd.info5 rfl (.inl ⟨rfl, rfl, rfl, rfl, by omega⟩) rfl (by simp) (SrcAt.mem (MemAt.ent 4 rfl (Seg.whole _))) (by omega) (by unfold maxLen; omega) (by omega)) rfl ?_
  rintro v1 L1 ⟨nb6, sp3, cp3, hg2, rfl, rfl, ha5, ha6, ha7, ha8⟩
  show JL _ _ _ _ ((31, Slc nb6 0 1 cp3) :: _) [⟨nb1, cu8 (zr8 32), 25, (0, 0)⟩, ⟨nb2, cu8 (blkL key) ++ sp1, 5, (0, 0)⟩, ⟨nb3, cu8 ([(g8 (blkL key) 0) ^^^ (54:UInt8)]), 5, (0, 0)⟩, ⟨nb4, cu8 (([] : List UInt8) ++ ([(g8 (blkL key) 0) ^^^ (54:UInt8)])) ++ sp2, 5, (0, 0)⟩, ⟨nb5, cu8 ([(g8 (blkL key) 0) ^^^ (92:UInt8)]), 5, (0, 0)⟩, ⟨nb6, cu8 (([] : List UInt8) ++ ([(g8 (blkL key) 0) ^^^ (92:UInt8)])) ++ sp3, 5, (0, 0)⟩]
  refine JL_val _ (Ev_assign rfl) rfl ?_
  refine JL_nil ?_
  refine JQ_in_normal ?_
  refine JQ_then ?_
  refine JC_region ?_
  refine JL_val _ (Ev_move rfl) rfl ?_
  refine JL_val (I64 (1:Int)) (Ev_bini rfl rfl fun _ => bin_add_i _ _ (1:Int) (by omega) (by omega)) rfl ?_
  refine JL_val _ (Ev_assign rfl) rfl ?_
  refine JL_nil ?_
  refine JQ_thenK ?_
  refine K_mask [true, true, false, true, false, true] ?_
  show K _ _ [⟨nb1, cu8 (zr8 32), 25, (0, 0)⟩, ⟨nb2, cu8 (blkL key) ++ sp1, 5, (0, 0)⟩, ⟨nb4, cu8 (([] : List UInt8) ++ ([(g8 (blkL key) 0) ^^^ (54:UInt8)])) ++ sp2, 5, (0, 0)⟩, ⟨nb6, cu8 (([] : List UInt8) ++ ([(g8 (blkL key) 0) ^^^ (92:UInt8)])) ++ sp3, 5, (0, 0)⟩] _
  refine K_next (.inr (1, ([] : List UInt8) ++ ([(g8 (blkL key) 0) ^^^ (54:UInt8)]), nb4, sp2, cp2, ([] : List UInt8) ++ ([(g8 (blkL key) 0) ^^^ (92:UInt8)]), nb6, sp3, cp3)) ⟨by omega, by omega, by rw [raN, raN], (ha1).trans (by first | rfl | simp +arith), (ha2).trans (by first | rfl | simp +arith), by omega, ha4, by rw [raN, raN], (ha5).trans (by first | rfl | simp +arith), (ha6).trans (by first | rfl | simp +arith), by omega, ha8⟩ (by first | (simp; omega) | simp) (Sub.cons rfl (Sub.cons rfl (Sub.cons rfl (Sub.cons rfl (Sub.cons rfl (Sub.cons rfl (Sub.nil))))))) rfl
 ·
  obtain ⟨hx0, hx1, hx2, ho6, hs6, hy6, hz6, hx3, ho7, hs7, hy7, hz7⟩ := hx
  show JC _ _ _ [(1, .slice ax m ct), (4, Ptr nb1 0), (5, Slc nb2 0 64 cp1), (6, Slc g6 0 k cp6), (7, Slc g7 0 k cp7), (8, I64 ((k:Int)))] [⟨nb1, cu8 (zr8 32), 25, (0, 0)⟩, ⟨nb2, cu8 (blkL key) ++ sp1, 5, (0, 0)⟩, ⟨g6, cu8 o6 ++ sp6, 5, (0, 0)⟩, ⟨g7, cu8 o7 ++ sp7, 5, (0, 0)⟩]
  refine JC_seq ?_
  refine JC_seq ?_
  refine JC_region ?_
  refine JL_val _ (Ev_move rfl) rfl ?_
  refine JL_val (.bool (decide (((k:Int)) < (64:Int)))) (Ev_bini rfl rfl fun _ => bin_lss_i _ _) rfl ?_
  refine JL_nil ?_
  refine JQ_then ?_
  refine JC_cond (decide (((k:Int)) < (64:Int))) rfl (fun hb1 => ?_) (fun hb1 => ?_)
  ·
   have hp1 : ((k:Int)) < (64:Int) := of_decide_eq_true hb1
   refine JC_skip ?_
   refine JQ_then ?_
   refine JC_seq ?_
   refine JC_block ?_
   refine JC_seq ?_
   refine JC_region ?_
   refine JL_val _ (Ev_move rfl) rfl ?_
   refine JL_val _ (Ev_move rfl) rfl ?_
   refine JL_val _ (Ev_move rfl) rfl ?_
   refine JL_val (Ptr nb2 k) (Ev_indexSl 5 1 k Tryd.underlying22 Tryd.sizeOf5 rfl rfl (by omega) (by omega) (by omega)) rfl ?_
   refine JL_val (U8 (g8 (blkL key) k)) (Ev_load rfl (Ld_one Tryd.isAgg5 (MemAt.ent 1 rfl (Seg.left (Seg.get (g8_get (i := k) (by rw [(blkL_len _)]; omega))))))) rfl ?_
   refine JL_val (U8 ((g8 (blkL key) k) ^^^ (54:UInt8))) (Ev_bini rfl rfl fun _ => bin_xor_u8 (g8 (blkL key) k) (54:UInt8)) rfl ?_
   refine JL_step (Step_buildSlice 5 1 _ [(0, U8 ((g8 (blkL key) k) ^^^ (54:UInt8)))] (cu8 ([(g8 (blkL key) k) ^^^ (54:UInt8)])) Tryd.underlying22 Tryd.sizeOf5 Tryd.zeroValue5 rfl rfl rfl (by kernel_rfl)) rfl ?_
   rintro v1 L1 ⟨nb7, hnb7, rfl, rfl⟩
   show JL _ _ _ _ ((22, Slc nb7 0 1 1) :: _) [⟨nb1, cu8 (zr8 32), 25, (0, 0)⟩, ⟨nb2, cu8 (blkL key) ++ sp1, 5, (0, 0)⟩, ⟨g6, cu8 o6 ++ sp6, 5, (0, 0)⟩, ⟨g7, cu8 o7 ++ sp7, 5, (0, 0)⟩, ⟨nb7, cu8 ([(g8 (blkL key) k) ^^^ (54:UInt8)]), 5, (0, 0)⟩]
   refine JL_step (Step_appM8 22 5 [false, false, true, false, false] (Slc g6 0 k cp6) k o6 ([(g8 (blkL key) k) ^^^ (54:UInt8)]) (some ⟨nb7, 0, none⟩) 1 1 (k + 1) Tryd.underlying22 Tryd.info5 rfl (.inr ⟨g6, sp6, cp6, rfl, rfl, (by first | exact ho6 | simp [ho6]), hs6, (by omega), (by omega)⟩) rfl (by simp) (SrcAt.mem (MemAt.ent 4 rfl (Seg.whole _))) (by omega) (by unfold maxLen; omega) (by omega)) rfl ?_
   rintro v1 L1 ⟨nb8, sp4, cp4, hg3, rfl, rfl, ha9, ha10, ha11, ha12⟩
   show JL _ _ _ _ ((23, Slc nb8 0 (k + 1) cp4) :: _) [⟨nb1, cu8 (zr8 32), 25, (0, 0)⟩, ⟨nb2, cu8 (blkL key) ++ sp1, 5, (0, 0)⟩, ⟨g7, cu8 o7 ++ sp7, 5, (0, 0)⟩, ⟨nb7, cu8 ([(g8 (blkL key) k) ^^^ (54:UInt8)]), 5, (0, 0)⟩, ⟨nb8, cu8 (o6 ++ ([(g8 (blkL key) k) ^^^ (54:UInt8)])) ++ sp4, 5, (0, 0)⟩]
   refine JL_val _ (Ev_assign rfl) rfl ?_
   refine JL_nil ?_
   refine JQ_then ?_
   refine JC_region ?_
   refine JL_val _ (Ev_move rfl) rfl ?_
   refine JL_val _ (Ev_move rfl) rfl ?_
   refine JL_val _ (Ev_move rfl) rfl ?_
   refine JL_val (Ptr nb2 k) (Ev_indexSl 5 1 k Tryd.underlying22 Tryd.sizeOf5 rfl rfl (by omega) (by omega) (by omega)) rfl ?_
   refine JL_val (U8 (g8 (blkL key) k)) (Ev_load rfl (Ld_one Tryd.isAgg5 (MemAt.ent 1 rfl (Seg.left (Seg.get (g8_get (i := k) (by rw [(blkL_len _)]; omega))))))) rfl ?_
   refine JL_val (U8 ((g8 (blkL key) k) ^^^ (92:UInt8))) (Ev_bini rfl rfl fun _ => bin_xor_u8 (g8 (blkL key) k) (92:UInt8)) rfl ?_
   refine JL_step (Step_buildSlice 5 1 _ [(0, U8 ((g8 (blkL key) k) ^^^ (92:UInt8)))] (cu8 ([(g8 (blkL key) k) ^^^ (92:UInt8)])) Tryd.underlying22 Tryd.sizeOf5 Tryd.zeroValue5 rfl rfl rfl (by kernel_rfl)) rfl ?_
   rintro v1 L1 ⟨nb9, hnb9, rfl, rfl⟩
   show JL _ _ _ _ ((30, Slc nb9 0 1 1) :: _) [⟨nb1, cu8 (zr8 32), 25, (0, 0)⟩, ⟨nb2, cu8 (blkL key) ++ sp1, 5, (0, 0)⟩, ⟨g7, cu8 o7 ++ sp7, 5, (0, 0)⟩, ⟨nb7, cu8 ([(g8 (blkL key) k) ^^^ (54:UInt8)]), 5, (0, 0)⟩, ⟨nb8, cu8 (o6 ++ ([(g8 (blkL key) k) ^^^ (54:UInt8)])) ++ sp4, 5, (0, 0)⟩, ⟨nb9, cu8 ([(g8 (blkL key) k) ^^^ (92:UInt8)]), 5, (0, 0)⟩]
   refine JL_step (Step_appM8 22 5 [false, false, true, false, false, false] (Slc g7 0 k cp7) k o7 ([(g8 (blkL key) k) ^^^ (92:UInt8)]) (some ⟨nb9, 0, none⟩) 1 1 (k + 1) Tryd.underlying22 Tryd.info5 rfl (.inr ⟨g7, sp7, cp7, rfl, rfl, (by first | exact ho7 | simp [ho7]), hs7, (by omega), (by omega)⟩) rfl (by simp) (SrcAt.mem (MemAt.ent 5 rfl (Seg.whole _))) (by omega) (by unfold maxLen; omega) (by omega)) rfl ?_
   rintro v1 L1 ⟨nb10, sp5, cp5, hg4, rfl, rfl, ha13, ha14, ha15, ha16⟩
   show JL _ _ _ _ ((31, Slc nb10 0 (k + 1) cp5) :: _) [⟨nb1, cu8 (zr8 32), 25, (0, 0)⟩, ⟨nb2, cu8 (blkL key) ++ sp1, 5, (0, 0)⟩, ⟨nb7, cu8 ([(g8 (blkL key) k) ^^^ (54:UInt8)]), 5, (0, 0)⟩, ⟨nb8, cu8 (o6 ++ ([(g8 (blkL key) k) ^^^ (54:UInt8)])) ++ sp4, 5, (0, 0)⟩, ⟨nb9, cu8 ([(g8 (blkL key) k) ^^^ (92:UInt8)]), 5, (0, 0)⟩, ⟨nb10, cu8 (o7 ++ ([(g8 (blkL key) k) ^^^ (92:UInt8)])) ++ sp5, 5, (0, 0)⟩]
   refine JL_val _ (Ev_assign rfl) rfl ?_
   refine JL_nil ?_
   refine JQ_in_normal ?_
   refine JQ_then ?_
   refine JC_region ?_
   refine JL_val _ (Ev_move rfl) rfl ?_
   refine JL_val (I64 ((k:Int) + 1)) (Ev_bini rfl rfl fun _ => bin_add_i _ _ ((k:Int) + 1) (by omega) (by omega)) rfl ?_
   refine JL_val _ (Ev_assign rfl) rfl ?_
   refine JL_nil ?_
   refine JQ_thenK ?_
   refine K_mask [true, true, false, true, false, true] ?_
   show K _ _ [⟨nb1, cu8 (zr8 32), 25, (0, 0)⟩, ⟨nb2, cu8 (blkL key) ++ sp1, 5, (0, 0)⟩, ⟨nb8, cu8 (o6 ++ ([(g8 (blkL key) k) ^^^ (54:UInt8)])) ++ sp4, 5, (0, 0)⟩, ⟨nb10, cu8 (o7 ++ ([(g8 (blkL key) k) ^^^ (92:UInt8)])) ++ sp5, 5, (0, 0)⟩] _
   refine K_next (.inr (k + 1, o6 ++ ([(g8 (blkL key) k) ^^^ (54:UInt8)]), nb8, sp4, cp4, o7 ++ ([(g8 (blkL key) k) ^^^ (92:UInt8)]), nb10, sp5, cp5)) ⟨by omega, by omega, by rw [raN, ← hx2], (ha9).trans (by first | rfl | simp +arith), (ha10).trans (by first | rfl | simp +arith), by omega, ha12, by rw [raN, ← hx3], (ha13).trans (by first | rfl | simp +arith), (ha14).trans (by first | rfl | simp +arith), by omega, ha16⟩ (by first | (simp; omega) | simp) (Sub.cons rfl (Sub.cons rfl (Sub.cons rfl (Sub.cons rfl (Sub.cons rfl (Sub.cons rfl (Sub.nil))))))) rfl
  ·
   have hp1 : ¬ (((k:Int)) < (64:Int)) := of_decide_eq_false hb1
   refine JC_exit ?_
   refine JQ_then_exit ?_
   refine JQ_then_exit ?_
   refine JQ_in_same ?_
   refine JQ_then ?_
   refine JC_seq ?_
   refine JC_region ?_
   refine JL_val _ (Ev_move rfl) rfl ?_
   refine JL_val _ (Ev_move rfl) rfl ?_
   refine JL_step (Step_appM8 22 5 [false, false, true, false] (Slc g6 0 k cp6) k o6 t ax m ct (k + m) Tryd.underlying22 Tryd.info5 rfl (.inr ⟨g6, sp6, cp6, rfl, rfl, (by first | exact ho6 | simp [ho6]), hs6, (by omega), (by omega)⟩) rfl (by simp [ht]; try omega) (hrt.src) (by omega) (by unfold maxLen; omega) (by omega)) rfl ?_
   rintro v1 L1 ⟨nb11, sp6, cp6, hg5, rfl, rfl, ha17, ha18, ha19, ha20⟩
   show JL _ _ _ _ ((34, Slc nb11 0 (k + m) cp6) :: _) [⟨nb1, cu8 (zr8 32), 25, (0, 0)⟩, ⟨nb2, cu8 (blkL key) ++ sp1, 5, (0, 0)⟩, ⟨g7, cu8 o7 ++ sp7, 5, (0, 0)⟩, ⟨nb11, cu8 (o6 ++ t) ++ sp6, 5, (0, 0)⟩]
   refine JL_step (Step_callP 24 [Slc nb11 0 (k + m) cp6] (.agg (cu8 (sumG constL initL (o6 ++ t))).toArray) (Cl_func [Slc nb11 0 (k + m) cp6] Tryd.call24 rfl) (fun w1 hw1 => rsum_c (some ⟨nb11, 0, none⟩) (k + m) cp6 (o6 ++ t) w1 ha17 (by omega) (RdB.of hw1 (MemAt.ent 3 rfl (Seg.left (Seg.whole _))) (by simp)) (GLr.at hw1 hGr) (GLi.at hw1 hGi))) rfl ?_
   rintro v1 L1 ⟨rfl, rfl⟩
   show JL _ _ _ _ ((35, .agg (cu8 (sumG constL initL (o6 ++ t))).toArray) :: _) [⟨nb1, cu8 (zr8 32), 25, (0, 0)⟩, ⟨nb2, cu8 (blkL key) ++ sp1, 5, (0, 0)⟩, ⟨g7, cu8 o7 ++ sp7, 5, (0, 0)⟩, ⟨nb11, cu8 (o6 ++ t) ++ sp6, 5, (0, 0)⟩]
   refine JL_step (Step_alloc _ (cu8 (zr8 32)) Tryd.zeroValue25 (by kernel_rfl)) rfl ?_
   rintro v1 L1 ⟨nb12, hnb12, rfl, rfl⟩
   show JL _ _ _ _ ((9, Ptr nb12 0) :: _) [⟨nb1, cu8 (zr8 32), 25, (0, 0)⟩, ⟨nb2, cu8 (blkL key) ++ sp1, 5, (0, 0)⟩, ⟨g7, cu8 o7 ++ sp7, 5, (0, 0)⟩, ⟨nb11, cu8 (o6 ++ t) ++ sp6, 5, (0, 0)⟩, ⟨nb12, cu8 (zr8 32), 25, (0, 0)⟩]
   refine JL_step (Step_store 4 nb12 0 32 (cu8 (zr8 32)) 25 (.agg (cu8 (sumG constL initL (o6 ++ t))).toArray) (cu8 (sumG constL initL (o6 ++ t))) (cu8 (sumG constL initL (o6 ++ t))) rfl rfl rfl (by first | rfl | simp) Tryd.sizeOf25 (len_cu8 (sumG_len _ _ _)) (by first | exact one_u8 | exact one_u32 | exact one_u64 | (simp [cu8, cu32, cu64, Value.oneCell']; done)) (by simp [(zr8_len 32)]) (lay_whole (by simp [(zr8_len 32), (sumG_len _ _ _)]))) rfl ?_
   rintro v1 L1 ⟨rfl, rfl⟩
   show JL _ _ _ _ _ [⟨nb1, cu8 (zr8 32), 25, (0, 0)⟩, ⟨nb2, cu8 (blkL key) ++ sp1, 5, (0, 0)⟩, ⟨g7, cu8 o7 ++ sp7, 5, (0, 0)⟩, ⟨nb11, cu8 (o6 ++ t) ++ sp6, 5, (0, 0)⟩, ⟨nb12, cu8 (sumG constL initL (o6 ++ t)), 25, (0, 0)⟩]
   refine JL_nil ?_
   refine JQ_then ?_
   refine JC_seq ?_
   refine JC_region ?_
   refine JL_val _ (Ev_move rfl) rfl ?_
   refine JL_val (Slc nb12 0 32 32) (Ev_sliceA 32 5 1 0 32 0 32 Tryd.underlying25 Tryd.sizeOf5 rfl rfl rfl (by omega) (by omega) (by omega) (by omega) (by omega) 32 (by omega)) rfl ?_
   refine JL_step (Step_appM8 22 5 [false, false, true, false, false] (Slc g7 0 k cp7) k o7 (sumG constL initL (o6 ++ t)) (some ⟨nb12, 0, none⟩) 32 32 (k + 32) Tryd.underlying22 Tryd.info5 rfl (.inr ⟨g7, sp7, cp7, rfl, rfl, (by first | exact ho7 | simp [ho7]), hs7, (by omega), (by omega)⟩) rfl (by simp [(sumG_len _ _ _)]; try omega) (SrcAt.mem (MemAt.ent 4 rfl (Seg.whole _))) (by omega) (by unfold maxLen; omega) (by omega)) rfl ?_
   rintro v1 L1 ⟨nb13, sp7, cp7, hg6, rfl, rfl, ha21, ha22, ha23, ha24⟩
   show JL _ _ _ _ ((38, Slc nb13 0 (k + 32) cp7) :: _) [⟨nb1, cu8 (zr8 32), 25, (0, 0)⟩, ⟨nb2, cu8 (blkL key) ++ sp1, 5, (0, 0)⟩, ⟨nb11, cu8 (o6 ++ t) ++ sp6, 5, (0, 0)⟩, ⟨nb12, cu8 (sumG constL initL (o6 ++ t)), 25, (0, 0)⟩, ⟨nb13, cu8 (o7 ++ (sumG constL initL (o6 ++ t))) ++ sp7, 5, (0, 0)⟩]
   refine JL_step (Step_callP 24 [Slc nb13 0 (k + 32) cp7] (.agg (cu8 (sumG constL initL (o7 ++ (sumG constL initL (o6 ++ t))))).toArray) (Cl_func [Slc nb13 0 (k + 32) cp7] Tryd.call24 rfl) (fun w1 hw1 => rsum_c (some ⟨nb13, 0, none⟩) (k + 32) cp7 (o7 ++ (sumG constL initL (o6 ++ t))) w1 ha21 (by omega) (RdB.of hw1 (MemAt.ent 4 rfl (Seg.left (Seg.whole _))) (by simp)) (GLr.at hw1 hGr) (GLi.at hw1 hGi))) rfl ?_
   rintro v1 L1 ⟨rfl, rfl⟩
   show JL _ _ _ _ ((39, .agg (cu8 (sumG constL initL (o7 ++ (sumG constL initL (o6 ++ t))))).toArray) :: _) [⟨nb1, cu8 (zr8 32), 25, (0, 0)⟩, ⟨nb2, cu8 (blkL key) ++ sp1, 5, (0, 0)⟩, ⟨nb11, cu8 (o6 ++ t) ++ sp6, 5, (0, 0)⟩, ⟨nb12, cu8 (sumG constL initL (o6 ++ t)), 25, (0, 0)⟩, ⟨nb13, cu8 (o7 ++ (sumG constL initL (o6 ++ t))) ++ sp7, 5, (0, 0)⟩]
   refine JL_step (Step_store 0 nb1 0 32 (cu8 (zr8 32)) 25 (.agg (cu8 (sumG constL initL (o7 ++ (sumG constL initL (o6 ++ t))))).toArray) (cu8 (sumG constL initL (o7 ++ (sumG constL initL (o6 ++ t))))) (cu8 (sumG constL initL (o7 ++ (sumG constL initL (o6 ++ t))))) rfl rfl rfl (by first | rfl | simp) Tryd.sizeOf25 (len_cu8 (sumG_len _ _ _)) (by first | exact one_u8 | exact one_u32 | exact one_u64 | (simp [cu8, cu32, cu64, Value.oneCell']; done)) (by simp [(zr8_len 32)]) (lay_whole (by simp [(zr8_len 32), (sumG_len _ _ _)]))) rfl ?_
   rintro v1 L1 ⟨rfl, rfl⟩
   show JL _ _ _ _ _ [⟨nb1, cu8 (sumG constL initL (o7 ++ (sumG constL initL (o6 ++ t)))), 25, (0, 0)⟩, ⟨nb2, cu8 (blkL key) ++ sp1, 5, (0, 0)⟩, ⟨nb11, cu8 (o6 ++ t) ++ sp6, 5, (0, 0)⟩, ⟨nb12, cu8 (sumG constL initL (o6 ++ t)), 25, (0, 0)⟩, ⟨nb13, cu8 (o7 ++ (sumG constL initL (o6 ++ t))) ++ sp7, 5, (0, 0)⟩]
   refine JL_nil ?_
   refine JQ_then ?_
   refine JC_ret ?_
   refine JQ_ret (.agg (cu8 (sumG constL initL (o7 ++ (sumG constL initL (o6 ++ t))))).toArray) (res1 Tryd.results37 (RV_cell rfl (Ld_agg Tryd.isAgg25 Tryd.sizeOf25 (len_cu8 (sumG_len _ _ _)) (MemAt.ent 0 rfl (Seg.whole _))))) fun w1 hw1 => ?_
   have e1 : k = 64 := by omega
   subst e1
   refine ⟨_, [], rfl, ⟨?_, rfl⟩, hw1.sub (by simp) (by simp)⟩
   rw [macL, hx2, hx3, raN_xbN _ (blkL_len _), raN_xbN _ (blkL_len _)]
theorem same_c (a1 a2 : Option Addr) (n1 n2 c1 c2 : Nat) (x y : List UInt8) (w : World) (hx : x.length = n1) (hy : y.length = n2) (h1 : RdB w [] a1 x) (h2 : RdB w [] a2 y) (hi1 : n1 ≤ 9223372036854775807) (hi2 : n2 ≤ 9223372036854775807) : Calls Tryd.prog 36 #[.slice a1 n1 c1, .slice a2 n2 c2] w (Post w [] (fun v L => v = .bool (decide (x = y)) ∧ L = [])) := by
 refine enter w [] 31 [] [.slice a1 n1 c1, .slice a2 n2 c2] Tryd.func36 rfl rfl (by simp) (Hp.start (by simp) (by simp) (by simp)) ?_
 show JC _ _ _ [(0, .slice a1 n1 c1), (1, .slice a2 n2 c2)] _
 refine JC_seq ?_
 refine JC_region ?_
 refine JL_val _ (Ev_assign rfl) rfl ?_
 refine JL_nil ?_
 refine JQ_then ?_
 refine JC_seq ?_
 refine JC_seq ?_
 refine JC_region ?_
 refine JL_val _ (Ev_move rfl) rfl ?_
 refine JL_val (I64 ((n1:Int))) (Ev_len Tryd.underlying22 rfl) rfl ?_
 refine JL_val _ (Ev_move rfl) rfl ?_
 refine JL_val (I64 ((n2:Int))) (Ev_len Tryd.underlying22 rfl) rfl ?_
 refine JL_val (.bool (decide (((n1:Int)) ≠ ((n2:Int))))) (Ev_bini rfl rfl fun _ => bin_neq_i _ _) rfl ?_
 refine JL_nil ?_
 refine JQ_then ?_
 refine JC_cond (decide (((n1:Int)) ≠ ((n2:Int)))) rfl (fun hb1 => ?_) (fun hb1 => ?_)
 ·
  have hp1 : ((n1:Int)) ≠ ((n2:Int)) := of_decide_eq_true hb1
  refine JC_seq ?_
  refine JC_region ?_
  refine JL_val _ (Ev_assign rfl) rfl ?_
  refine JL_nil ?_
  refine JQ_then ?_
  refine JC_ret ?_
  refine JQ_then_ret ?_
  refine JQ_ret (.bool false) (res1 Tryd.results36 (RV_tmp rfl)) fun w1 hw1 => ?_
  refine ⟨_, [], rfl, ⟨?_, rfl⟩, hw1.sub (by simp) (by simp)⟩
  have hne : x ≠ y := fun h => by subst h; omega
  rw [decide_eq_false hne]
 ·
  have hp1 : ¬ (((n1:Int)) ≠ ((n2:Int))) := of_decide_eq_false hb1
  refine JC_skip ?_
  refine JQ_then ?_
  refine JC_seq ?_
  refine JC_region ?_
  refine JL_val _ (Ev_assign rfl) rfl ?_
  refine JL_nil ?_
  refine JQ_then ?_
  refine JC_seq ?_
  refine JC_seq ?_
  refine JC_region ?_
  refine JL_val _ (Ev_move rfl) rfl ?_
  refine JL_val (I64 ((n1:Int))) (Ev_len Tryd.underlying22 rfl) rfl ?_
  refine JL_val _ (Ev_move rfl) rfl ?_
  refine JL_nil ?_
  refine JQ_then ?_
  refine JC_block ?_
  refine JC_loop (ι := Nat × UInt8) (fun ⟨i, a⟩ => [(0, .slice a1 n1 c1), (1, .slice a2 n2 c2), (4, .bool false), (13, I64 ((n1:Int))), (14, I64 ((i:Int))), (5, U8 a)]) (fun ⟨i, a⟩ => []) (fun ⟨i, a⟩ => i ≤ n1 ∧ a = orN x y i) (fun ⟨i, a⟩ => n1 - i) (0, 0) ⟨by omega, by rw [orN]⟩ (Sub.cons rfl (Sub.cons rfl (Sub.cons rfl (Sub.cons rfl (Sub.cons rfl (Sub.cons rfl (Sub.nil))))))) rfl ?_
  rintro ⟨i, a⟩ ⟨hx1, hx2⟩
  show JC _ _ _ [(0, .slice a1 n1 c1), (1, .slice a2 n2 c2), (4, .bool false), (13, I64 ((n1:Int))), (14, I64 ((i:Int))), (5, U8 a)] []
  refine JC_seq ?_
  refine JC_region ?_
  refine JL_val (.bool (decide (((i:Int)) < ((n1:Int))))) (Ev_bini rfl rfl fun _ => bin_lss_i _ _) rfl ?_
  refine JL_nil ?_
  refine JQ_then ?_
  refine JC_seq ?_
  refine JC_cond (decide (((i:Int)) < ((n1:Int)))) rfl (fun hb2 => ?_) (fun hb2 => ?_)
  ·
   have hp2 : ((i:Int)) < ((n1:Int)) := of_decide_eq_true hb2
   refine JC_skip ?_
   refine JQ_then ?_
   refine JC_seq ?_
   refine JC_block ?_
   refine JC_seq ?_
   refine JC_region ?_
   refine JL_val _ (Ev_move rfl) rfl ?_
   refine JL_val _ (Ev_assign rfl) rfl ?_
   refine JL_nil ?_
   refine JQ_then ?_
   obtain ⟨bz1, oz1, hz1, hm1⟩ := h1.pos (by rw [hx]; omega)
   obtain ⟨bz2, oz2, hz2, hm2⟩ := h2.pos (by rw [hy]; omega)
   refine JC_draw 31 1 [(0, U8 a), (1, .slice a1 n1 c1), (2, I64 ((i:Int))), (3, Ptr bz1 (i + oz1)), (4, U8 (g8 x i)), (5, .slice a2 n2 c2), (6, I64 ((i:Int))), (7, Ptr bz2 (i + oz2)), (8, U8 (g8 y i)), (9, U8 ((g8 x i) ^^^ (g8 y i))), (10, U8 (a ||| ((g8 x i) ^^^ (g8 y i)))), (11, U8 (a ||| ((g8 x i) ^^^ (g8 y i))))] Tryd.mixed rfl (by decide +kernel) ?_
   refine DP_end ⟨[], [0, 1, 2, 3, 4, 5, 6, 7, 8, 9, 10, 11], [], [0, 1, 2, 3, 4, 5, 6, 7, 8, 9, 10, 11], []⟩ rfl rfl (by decide +kernel) rfl ⟨⟨_, rfl, Qok_val rfl (Ev_move rfl)⟩, ⟨_, rfl, Qok_val rfl (Ev_move rfl)⟩, ⟨_, rfl, Qok_val rfl (Ev_move rfl)⟩, ⟨_, rfl, Qok_val rfl (Ev_indexSlG 5 1 (i + oz1) Tryd.underlying22 Tryd.sizeOf5 rfl hz1 rfl (by omega) (by omega) (by omega))⟩, ⟨_, rfl, Qok_val rfl (Ev_load rfl (Ld_one Tryd.isAgg5 (MemAt.seg (MemAt.base hm1.1 hm1.2.1 hm1.2.2) (Seg.get (g8_get (i := i) (by rw [hx]; omega))) (by omega))))⟩, ⟨_, rfl, Qok_val rfl (Ev_move rfl)⟩, ⟨_, rfl, Qok_val rfl (Ev_move rfl)⟩, ⟨_, rfl, Qok_val rfl (Ev_indexSlG 5 1 (i + oz2) Tryd.underlying22 Tryd.sizeOf5 rfl hz2 rfl (by omega) (by omega) (by omega))⟩, ⟨_, rfl, Qok_val rfl (Ev_load rfl (Ld_one Tryd.isAgg5 (MemAt.seg (MemAt.base hm2.1 hm2.2.1 hm2.2.2) (Seg.get (g8_get (i := i) (by rw [hy]; omega))) (by omega))))⟩, ⟨_, rfl, Qok_val rfl (Ev_bini rfl rfl fun _ => bin_xor_u8 (g8 x i) (g8 y i))⟩, ⟨_, rfl, Qok_val rfl (Ev_bini rfl rfl fun _ => bin_or_u8 a ((g8 x i) ^^^ (g8 y i)))⟩, ⟨_, rfl, Qok_val rfl (Ev_assign rfl)⟩, trivial⟩ ?_
   refine K_sub (F' := [(17, U8 a), (18, .slice a1 n1 c1), (19, I64 ((i:Int))), (20, Ptr bz1 (i + oz1)), (21, U8 (g8 x i)), (22, .slice a2 n2 c2), (23, I64 ((i:Int))), (24, Ptr bz2 (i + oz2)), (25, U8 (g8 y i)), (26, U8 ((g8 x i) ^^^ (g8 y i))), (27, U8 (a ||| ((g8 x i) ^^^ (g8 y i)))), (5, U8 (a ||| ((g8 x i) ^^^ (g8 y i)))), (0, .slice a1 n1 c1), (1, .slice a2 n2 c2), (4, .bool false), (13, I64 ((n1:Int))), (14, I64 ((i:Int))), (15, .bool (decide (((i:Int)) < ((n1:Int))))), (16, I64 ((i:Int))), (6, I64 ((i:Int)))]) (Sub.cons (by kernel_rfl) (Sub.cons (by kernel_rfl) (Sub.cons (by kernel_rfl) (Sub.cons (by kernel_rfl) (Sub.cons (by kernel_rfl) (Sub.cons (by kernel_rfl) (Sub.cons (by kernel_rfl) (Sub.cons (by kernel_rfl) (Sub.cons (by kernel_rfl) (Sub.cons (by kernel_rfl) (Sub.cons (by kernel_rfl) (Sub.cons (by kernel_rfl) (Sub.cons (by kernel_rfl) (Sub.cons (by kernel_rfl) (Sub.cons (by kernel_rfl) (Sub.cons (by kernel_rfl) (Sub.cons (by kernel_rfl) (Sub.cons (by kernel_rfl) (Sub.cons (by kernel_rfl) (Sub.cons (by kernel_rfl) (Sub.nil))))))))))))))))))))) ?_
   show JQ _ _ _ [(17, U8 a), (18, .slice a1 n1 c1), (19, I64 ((i:Int))), (20, Ptr bz1 (i + oz1)), (21, U8 (g8 x i)), (22, .slice a2 n2 c2), (23, I64 ((i:Int))), (24, Ptr bz2 (i + oz2)), (25, U8 (g8 y i)), (26, U8 ((g8 x i) ^^^ (g8 y i))), (27, U8 (a ||| ((g8 x i) ^^^ (g8 y i)))), (5, U8 (a ||| ((g8 x i) ^^^ (g8 y i)))), (0, .slice a1 n1 c1), (1, .slice a2 n2 c2), (4, .bool false), (13, I64 ((n1:Int))), (14, I64 ((i:Int))), (15, .bool (decide (((i:Int)) < ((n1:Int))))), (16, I64 ((i:Int))), (6, I64 ((i:Int)))] _
   refine JQ_in_normal ?_
   refine JQ_then ?_
   refine JC_region ?_
   refine JL_val (I64 ((i:Int) + 1)) (Ev_bini rfl rfl fun _ => bin_add_i _ _ ((i:Int) + 1) (by omega) (by omega)) rfl ?_
   refine JL_val _ (Ev_move rfl) rfl ?_
   refine JL_nil ?_
   refine JQ_thenK ?_
   refine K_next (i + 1, a ||| ((g8 x i) ^^^ (g8 y i))) ⟨by omega, by rw [orN, ← hx2]⟩ (by first | (simp; omega) | simp) (Sub.cons rfl (Sub.cons rfl (Sub.cons rfl (Sub.cons rfl (Sub.cons rfl (Sub.cons rfl (Sub.nil))))))) rfl
  ·
   have hp2 : ¬ (((i:Int)) < ((n1:Int))) := of_decide_eq_false hb2
   refine JC_exit ?_
   refine JQ_then_exit ?_
   refine JQ_then_exit ?_
   refine JQ_in_same ?_
   refine JQ_then ?_
   refine JC_seq ?_
   refine JC_region ?_
   refine JL_val _ (Ev_move rfl) rfl ?_
   refine JL_val (.bool (decide (a = (0:UInt8)))) (Ev_bini rfl rfl fun _ => bin_eql_u8 a (0:UInt8)) rfl ?_
   refine JL_val _ (Ev_assign rfl) rfl ?_
   refine JL_nil ?_
   refine JQ_then ?_
   refine JC_ret ?_
   refine JQ_ret (.bool (decide (a = (0:UInt8)))) (res1 Tryd.results36 (RV_tmp rfl)) fun w1 hw1 => ?_
   refine ⟨_, [], rfl, ⟨?_, rfl⟩, hw1.sub (by simp) (by simp)⟩
   have e1 : i = n1 := by omega
   rw [hx2, e1, orN_same hx (by omega)]
end Go.Proofs.YtncoifiafklkjaaDoor
namespace Go.Sx
open Go Go.RowKit
set_option linter.unusedVariables false
set_option linter.unusedSimpArgs false
theorem Hp.allocF {w0 w : World} {M : List Nat} {L : List Ent} (h : Hp w0 M L w) (cs : List Value) (T : Nat) (fz : Nat × Nat) : Hp w0 M (L ++ [⟨w.heap.size, cs, T, fz⟩]) (w.alloc (.cells cs.toArray T fz)) := by
  have hlt : ∀ x ∈ L, x.b < w.heap.size := fun x hx => (Array.getElem?_eq_some_iff.1 (h.ent x hx)).1
  refine ⟨h.os, h.tape, h.output, by have := h.le; simp; omega, fun k hk hM => ?_, fun x hx => ?_, ?_, fun x hx => ?_⟩
  · rw [Below.heap_alloc _ _ _ (by have := h.le; omega)]; exact h.old k hk hM
  · rcases List.mem_append.1 hx with h1 | h1
    · rw [Below.heap_alloc _ _ _ (hlt x h1)]; exact h.ent x h1
    · simp at h1; subst h1; show (w.heap.push _)[w.heap.size]? = _; simp
  · rw [List.map_append, List.nodup_append]
    refine ⟨h.nd, by simp, fun a ha c hc => ?_⟩
    simp at hc; subst hc
    obtain ⟨x, hx, rfl⟩ := List.mem_map.1 ha
    have := hlt x hx; omega
  · rcases List.mem_append.1 hx with h1 | h1
    · exact h.own x h1
    · simp at h1; subst h1; exact .inr h.le
variable {C : Cx} {F : Frm} {L : List Ent}
theorem Step_strBytes {src dst ty : TypeId} {x : Operand} (e : Nat) (l : List UInt8) (hs : C.P.underlying src = some .string) (hd : C.P.underlying dst = some (.slice e)) (he : C.P.underlying e = some (.int .u8)) (hx : ev F x = some (.string ⟨l.toArray⟩)) (hl : l.length ≤ maxLen) :
  Step C F L (.convert src dst x) ty fun v L' => ∃ nb sp cap fz, C.w0.heap.size ≤ nb ∧ v = Slc nb 0 l.length cap ∧ L' = L ++ [⟨nb, cu8 l ++ sp, e, fz⟩] ∧ l.length ≤ cap ∧ cap ≤ maxLen := Step_run fun a w ha hw d pos aft g => by
 have hr := run_bytes_of_string (P := C.P) w src dst e ⟨l.toArray⟩ hs hd he
 have hsz : (⟨l.toArray⟩ : ByteArray).size = l.length := rfl
 rw [hsz] at hr
 have hrow : bytesRow ⟨l.toArray⟩ (grownCap w l.length 0 e) = (cu8 l ++ List.replicate (grownCap w l.length 0 e - l.length) (Value.int .u8 0)).toArray := by
  apply Array.toList_inj.1
  simp [bytesRow, cu8, hsz]
 rw [hrow] at hr
 refine ⟨_, _, _, ⟨w.heap.size, List.replicate (grownCap w l.length 0 e - l.length) (Value.int .u8 0), grownCap w l.length 0 e, _, hw.le, rfl, rfl, grownCap_ge w _ 0 e, grownCap_le_maxLen w _ 0 e hl⟩, (hw.drewN (w.drawn + 1)).allocF (cu8 l ++ List.replicate (grownCap w l.length 0 e - l.length) (Value.int .u8 0)) e ((cu8 l ++ List.replicate (grownCap w l.length 0 e - l.length) (Value.int .u8 0)).toArray.size, (cu8 l ++ List.replicate (grownCap w l.length 0 e - l.length) (Value.int .u8 0)).toArray.size + 1), .inl ?_⟩
 simp only [execOp, ha.ev hx]
 rw [Sem.run_bind, hr]
 rfl
end Go.Sx
namespace Go.Sx
open Go Go.RowKit
set_option linter.unusedVariables false
set_option linter.unusedSimpArgs false
theorem foldl_lay (off : Nat) : ∀ (c : List Value) (k : Nat) (pre z post : List Value), z.length = c.length → pre.length = off + k →
  (c.zipIdx k).foldl (fun (cs : Array Value) (x : Value × Nat) => cs.setIfInBounds (off + x.2) x.1) (pre ++ (z ++ post)).toArray = ((pre ++ c) ++ post).toArray
 | [], k, pre, z, post, hz, _ => by
  have : z = [] := by simpa using hz
  subst this; simp
 | x :: c, k, pre, [], post, hz, _ => by simp at hz
 | x :: c, k, pre, y :: z, post, hz, hp => by
  rw [List.zipIdx_cons, List.foldl_cons]
  have e : (pre ++ (y :: z ++ post)).toArray.setIfInBounds (off + k) x = ((pre ++ [x]) ++ (z ++ post)).toArray := by
   rw [← hp]
   apply Array.toList_inj.1
   simp
  show (c.zipIdx (k + 1)).foldl _ ((pre ++ (y :: z ++ post)).toArray.setIfInBounds (off + k) x) = _
  rw [e, foldl_lay off c (k + 1) (pre ++ [x]) z post (by simpa using hz) (by simp; omega)]
  simp
theorem fill_step {place : Nat → Option (Nat × Nat)} {i : Nat} {v : Value} {rest : List (Nat × Value)} (pre z post c : List Value) (hc : v.cells = c.toArray) (hp : place i = some (pre.length, z.length)) (hl : c.length = z.length) :
  Instr.fill place (pre ++ (z ++ post)).toArray ((i, v) :: rest) = Instr.fill place ((pre ++ c) ++ post).toArray rest := by
 rw [Instr.fill, hp]
 have h1 : v.cells.size = z.length := by rw [hc]; simpa using hl
 have h2 : ¬ (pre.length + v.cells.size > (pre ++ (z ++ post)).toArray.size) := by rw [h1]; simp
 simp only [h1, ne_eq, not_true, decide_false, Bool.false_or, decide_eq_true_eq]
 rw [if_neg (by rw [h1] at h2; exact h2)]
 have := foldl_lay pre.length c 0 pre z post hl.symm (by simp)
 rw [← this, hc]
 congr 1
 rw [← Array.foldl_toList]
 simp
theorem run_build_struct {P : Program} {w : World} {T : TypeId} {fields : Array Field} {z : Value} {places : Array (Nat × Nat)} {pv : Array (Nat × Value)} {cs : List Value} (hz : ∀ w, (zeroValue T).run P w = .ok z w) (hu : P.underlying T = some (.struct fields))
  (hp : ∀ w, (fields.mapM fun f => do pure (f.offset, ← sizeOf f.type) : Sem (Array (Nat × Nat))).run P w = .ok places w) (hf : Instr.fill (places[·]?) z.cells pv.toList = some cs.toArray) : (Instr.build T pv).run P w = .ok (.agg cs.toArray) w := by
 simp only [Instr.build, Sem.run_bind, hz, Result.andThen_ok, run_underlying hu, hp, hf, Sem.run_pure]
end Go.Sx
namespace Go.Proofs.YtncoifiafklkjaaDoor
open Go Go.Sx
set_option linter.unusedVariables false
set_option linter.unusedSimpArgs false
set_option maxRecDepth 100000
attribute [local irreducible] mid zr8 zr32 rotr wordL spreadL comprL cpN adN spN wrdN constL initL padL stN outN routN hashL sumG blkL xbN raN macL orN
theorem label_c (k l : List UInt8) (w : World) (hk : k.length = 16) (hl : l.length ≤ 1000) (hG : GLs w) : Calls Tryd.prog 44 #[.agg (cu8 k).toArray, .string (⟨l.toArray⟩ : ByteArray)] w (Post w [] (fun v L => v = .agg (cu8 (macL k l)).toArray ∧ L = [])) := by
 have hmx : maxLen = 9223372036854775807 := rfl
 refine enter w [] 10 [] [.agg (cu8 k).toArray, .string (⟨l.toArray⟩ : ByteArray)] Tryd.func44 rfl rfl (by simp) (Hp.start (by simp) (by simp) (by simp)) ?_
 show JC _ _ _ [(0, .agg (cu8 k).toArray), (1, .string (⟨l.toArray⟩ : ByteArray))] _
 refine JC_seq ?_
 refine JC_region ?_
 refine JL_step (Step_box (.agg (cu8 k).toArray) (cu8 k) rfl (by first | rfl | simp)) rfl ?_
 rintro v1 L1 ⟨nb1, hnb1, rfl, rfl⟩
 show JL _ _ _ _ ((2, Ptr nb1 0) :: _) [⟨nb1, cu8 k, 55, (0, 0)⟩]
 refine JL_step (Step_alloc _ (cu8 (zr8 32)) Tryd.zeroValue25 (by kernel_rfl)) rfl ?_
 rintro v1 L1 ⟨nb2, hnb2, rfl, rfl⟩
 show JL _ _ _ _ ((4, Ptr nb2 0) :: _) [⟨nb1, cu8 k, 55, (0, 0)⟩, ⟨nb2, cu8 (zr8 32), 25, (0, 0)⟩]
 refine JL_nil ?_
 refine JQ_then ?_
 refine JC_seq ?_
 refine JC_region ?_
 refine JL_val (Slc nb1 0 16 16) (Ev_sliceA 16 5 1 0 16 0 16 Tryd.underlying55 Tryd.sizeOf5 rfl rfl rfl (by omega) (by omega) (by omega) (by omega) (by omega) 16 (by omega)) rfl ?_
 refine JL_val _ (Ev_move rfl) rfl ?_
 refine JL_step (Step_strBytes 5 l Tryd.underlying9 Tryd.underlying22 Tryd.underlying5 rfl (by first | omega | (simp [maxLen]; done))) rfl ?_
 rintro v1 L1 ⟨nb3, sp1, cp1, fz1, hnb3, rfl, rfl, hl1, hm1⟩
 show JL _ _ _ _ ((7, Slc nb3 0 l.length cp1) :: _) [⟨nb1, cu8 k, 55, (0, 0)⟩, ⟨nb2, cu8 (zr8 32), 25, (0, 0)⟩, ⟨nb3, cu8 l ++ sp1, 5, fz1⟩]
 refine JL_step (Step_buildSlice 22 1 _ [(0, Slc nb3 0 l.length cp1)] ([Slc nb3 0 l.length cp1]) Tryd.underlying125 Tryd.sizeOf22 Tryd.zeroValue22 rfl rfl rfl (by kernel_rfl)) rfl ?_
 rintro v1 L1 ⟨nb4, hnb4, rfl, rfl⟩
 show JL _ _ _ _ ((8, Slc nb4 0 1 1) :: _) [⟨nb1, cu8 k, 55, (0, 0)⟩, ⟨nb2, cu8 (zr8 32), 25, (0, 0)⟩, ⟨nb3, cu8 l ++ sp1, 5, fz1⟩, ⟨nb4, [Slc nb3 0 l.length cp1], 22, (0, 0)⟩]
 refine JL_step (Step_callP 39 [Slc nb1 0 16 16, Slc nb4 0 1 1] (.agg (cu8 (macL k ([l].flatten))).toArray) (Cl_func [Slc nb1 0 16 16, Slc nb4 0 1 1] Tryd.call39 rfl) (fun w1 hw1 => mac_c (some ⟨nb1, 0, none⟩) 16 16 k nb4 1 [Slc nb3 0 l.length cp1] [l] w1 hk (fun h => by cases h) (by omega) (RdB.of hw1 (MemAt.ent 0 rfl (Seg.whole _)) (by simp)) (by simp) (by simp) (by simp) ⟨RdA.of hw1 (MemAt.ent 3 rfl (Seg.head)) (by simp), ⟨⟨(some ⟨nb3, 0, none⟩), cp1, congrArg (fun n => Value.slice (some ⟨nb3, 0, none⟩) n cp1) ((rfl : l.length = _)).symm, (RdB.of hw1 (MemAt.ent 2 rfl (Seg.left (Seg.whole _))) (by simp))⟩, trivial⟩⟩ (by simp only [List.flatten_cons, List.flatten_nil, List.length_append, List.length_nil]; omega) (hG.at hw1))) rfl ?_
 rintro v1 L1 ⟨rfl, rfl⟩
 show JL _ _ _ _ ((9, .agg (cu8 (macL k ([l].flatten))).toArray) :: _) [⟨nb1, cu8 k, 55, (0, 0)⟩, ⟨nb2, cu8 (zr8 32), 25, (0, 0)⟩, ⟨nb3, cu8 l ++ sp1, 5, fz1⟩, ⟨nb4, [Slc nb3 0 l.length cp1], 22, (0, 0)⟩]
 refine JL_step (Step_store 1 nb2 0 32 (cu8 (zr8 32)) 25 (.agg (cu8 (macL k ([l].flatten))).toArray) (cu8 (macL k ([l].flatten))) (cu8 (macL k ([l].flatten))) rfl rfl rfl (by first | rfl | simp) Tryd.sizeOf25 (len_cu8 (macL_len _ _)) (by first | exact one_u8 | exact one_u32 | exact one_u64 | (simp [cu8, cu32, cu64, Value.oneCell']; done)) (by simp [(zr8_len 32)]) (lay_whole (by simp [(zr8_len 32), (macL_len _ _)]))) rfl ?_
 rintro v1 L1 ⟨rfl, rfl⟩
 show JL _ _ _ _ _ [⟨nb1, cu8 k, 55, (0, 0)⟩, ⟨nb2, cu8 (macL k ([l].flatten)), 25, (0, 0)⟩, ⟨nb3, cu8 l ++ sp1, 5, fz1⟩, ⟨nb4, [Slc nb3 0 l.length cp1], 22, (0, 0)⟩]
 refine JL_nil ?_
 refine JQ_then ?_
 refine JC_ret ?_
 refine JQ_ret (.agg (cu8 (macL k ([l].flatten))).toArray) (res1 Tryd.results44 (RV_cell rfl (Ld_agg Tryd.isAgg25 Tryd.sizeOf25 (len_cu8 (macL_len _ _)) (MemAt.ent 1 rfl (Seg.whole _))))) fun w1 hw1 => ?_
 refine ⟨_, [], rfl, ⟨?_, rfl⟩, hw1.sub (by simp) (by simp)⟩
 first | rfl | (simp; done)
theorem rlabel_c (k l : List UInt8) (w : World) (hk : k.length = 16) (hl : l.length ≤ 1000) (hGr : GLr w) (hGi : GLi w) : Calls Tryd.prog 45 #[.agg (cu8 k).toArray, .string (⟨l.toArray⟩ : ByteArray)] w (Post w [] (fun v L => v = .agg (cu8 (macL k l)).toArray ∧ L = [])) := by
 have hmx : maxLen = 9223372036854775807 := rfl
 refine enter w [] 9 [] [.agg (cu8 k).toArray, .string (⟨l.toArray⟩ : ByteArray)] Tryd.func45 rfl rfl (by simp) (Hp.start (by simp) (by simp) (by simp)) ?_
 show JC _ _ _ [(0, .agg (cu8 k).toArray), (1, .string (⟨l.toArray⟩ : ByteArray))] _
 refine JC_seq ?_
 refine JC_region ?_
 refine JL_step (Step_box (.agg (cu8 k).toArray) (cu8 k) rfl (by first | rfl | simp)) rfl ?_
 rintro v1 L1 ⟨nb1, hnb1, rfl, rfl⟩
 show JL _ _ _ _ ((2, Ptr nb1 0) :: _) [⟨nb1, cu8 k, 55, (0, 0)⟩]
 refine JL_step (Step_alloc _ (cu8 (zr8 32)) Tryd.zeroValue25 (by kernel_rfl)) rfl ?_
 rintro v1 L1 ⟨nb2, hnb2, rfl, rfl⟩
 show JL _ _ _ _ ((4, Ptr nb2 0) :: _) [⟨nb1, cu8 k, 55, (0, 0)⟩, ⟨nb2, cu8 (zr8 32), 25, (0, 0)⟩]
 refine JL_nil ?_
 refine JQ_then ?_
 refine JC_seq ?_
 refine JC_region ?_
 refine JL_val (Slc nb1 0 16 16) (Ev_sliceA 16 5 1 0 16 0 16 Tryd.underlying55 Tryd.sizeOf5 rfl rfl rfl (by omega) (by omega) (by omega) (by omega) (by omega) 16 (by omega)) rfl ?_
 refine JL_val _ (Ev_move rfl) rfl ?_
 refine JL_step (Step_strBytes 5 l Tryd.underlying9 Tryd.underlying22 Tryd.underlying5 rfl (by first | omega | (simp [maxLen]; done))) rfl ?_
 rintro v1 L1 ⟨nb3, sp1, cp1, fz1, hnb3, rfl, rfl, hl1, hm1⟩
 show JL _ _ _ _ ((7, Slc nb3 0 l.length cp1) :: _) [⟨nb1, cu8 k, 55, (0, 0)⟩, ⟨nb2, cu8 (zr8 32), 25, (0, 0)⟩, ⟨nb3, cu8 l ++ sp1, 5, fz1⟩]
 refine JL_step (Step_callP 37 [Slc nb1 0 16 16, Slc nb3 0 l.length cp1] (.agg (cu8 (macL k l)).toArray) (Cl_func [Slc nb1 0 16 16, Slc nb3 0 l.length cp1] Tryd.call37 rfl) (fun w1 hw1 => rmac_c (some ⟨nb1, 0, none⟩) 16 16 k (some ⟨nb3, 0, none⟩) l.length cp1 l w1 hk (fun h => by cases h) (by omega) (RdB.of hw1 (MemAt.ent 0 rfl (Seg.whole _)) (by simp)) (rfl : l.length = _) (by omega) (RdB.of hw1 (MemAt.ent 2 rfl (Seg.left (Seg.whole _))) (by simp)) (GLr.at hw1 hGr) (GLi.at hw1 hGi))) rfl ?_
 rintro v1 L1 ⟨rfl, rfl⟩
 show JL _ _ _ _ ((8, .agg (cu8 (macL k l)).toArray) :: _) [⟨nb1, cu8 k, 55, (0, 0)⟩, ⟨nb2, cu8 (zr8 32), 25, (0, 0)⟩, ⟨nb3, cu8 l ++ sp1, 5, fz1⟩]
 refine JL_step (Step_store 1 nb2 0 32 (cu8 (zr8 32)) 25 (.agg (cu8 (macL k l)).toArray) (cu8 (macL k l)) (cu8 (macL k l)) rfl rfl rfl (by first | rfl | simp) Tryd.sizeOf25 (len_cu8 (macL_len _ _)) (by first | exact one_u8 | exact one_u32 | exact one_u64 | (simp [cu8, cu32, cu64, Value.oneCell']; done)) (by simp [(zr8_len 32)]) (lay_whole (by simp [(zr8_len 32), (macL_len _ _)]))) rfl ?_
 rintro v1 L1 ⟨rfl, rfl⟩
 show JL _ _ _ _ _ [⟨nb1, cu8 k, 55, (0, 0)⟩, ⟨nb2, cu8 (macL k l), 25, (0, 0)⟩, ⟨nb3, cu8 l ++ sp1, 5, fz1⟩]
 refine JL_nil ?_
 refine JQ_then ?_
 refine JC_ret ?_
 refine JQ_ret (.agg (cu8 (macL k l)).toArray) (res1 Tryd.results45 (RV_cell rfl (Ld_agg Tryd.isAgg25 Tryd.sizeOf25 (len_cu8 (macL_len _ _)) (MemAt.ent 1 rfl (Seg.whole _))))) fun w1 hw1 => ?_
 refine ⟨_, [], rfl, ⟨?_, rfl⟩, hw1.sub (by simp) (by simp)⟩
 first | rfl | (simp; done)
theorem keysOf_c (k : List UInt8) (w : World) (hk : k.length = 16) (hG : GLs w) : Calls Tryd.prog 48 #[.agg (cu8 k).toArray] w (Post w [] (fun v L => v = .agg (cu8 (mid (macL k ([101, 110, 116, 114, 117, 115, 116, 32, 115, 101, 97, 108] : List UInt8)) 0 16) ++ cu8 (macL k ([101, 110, 116, 114, 117, 115, 116, 32, 116, 97, 103] : List UInt8)) ++ cu8 (macL k ([101, 110, 116, 114, 117, 115, 116, 32, 116, 105, 99, 107, 101, 116] : List UInt8)) ++ cu8 (macL k ([101, 110, 116, 114, 117, 115, 116, 32, 108, 105, 110, 107] : List UInt8))).toArray ∧ L = [])) := by
 refine enter w [] 16 [] [.agg (cu8 k).toArray] Tryd.func48 rfl rfl (by simp) (Hp.start (by simp) (by simp) (by simp)) ?_
 show JC _ _ _ [(0, .agg (cu8 k).toArray)] _
 refine JC_seq ?_
 refine JC_region ?_
 refine JL_step (Step_box (.agg (cu8 k).toArray) (cu8 k) rfl (by first | rfl | simp)) rfl ?_
 rintro v1 L1 ⟨nb1, hnb1, rfl, rfl⟩
 show JL _ _ _ _ ((1, Ptr nb1 0) :: _) [⟨nb1, cu8 k, 55, (0, 0)⟩]
 refine JL_step (Step_alloc _ (cu8 (zr8 16) ++ cu8 (zr8 32) ++ cu8 (zr8 32) ++ cu8 (zr8 32)) Tryd.zeroValue61 (by kernel_rfl)) rfl ?_
 rintro v1 L1 ⟨nb2, hnb2, rfl, rfl⟩
 show JL _ _ _ _ ((2, Ptr nb2 0) :: _) [⟨nb1, cu8 k, 55, (0, 0)⟩, ⟨nb2, cu8 (zr8 16) ++ cu8 (zr8 32) ++ cu8 (zr8 32) ++ cu8 (zr8 32), 61, (0, 0)⟩]
 refine JL_nil ?_
 refine JQ_then ?_
 refine JC_seq ?_
 refine JC_region ?_
 refine JL_val (.agg (cu8 k).toArray) (Ev_load rfl (Ld_agg Tryd.isAgg55 Tryd.sizeOf55 (len_cu8 hk) (MemAt.ent 0 rfl (Seg.whole _)))) rfl ?_
 refine JL_step (Step_callP 44 [.agg (cu8 k).toArray, .string (⟨⟨[101, 110, 116, 114, 117, 115, 116, 32, 115, 101, 97, 108]⟩⟩)] (.agg (cu8 (macL k ([101, 110, 116, 114, 117, 115, 116, 32, 115, 101, 97, 108] : List UInt8))).toArray) (Cl_func [.agg (cu8 k).toArray, .string (⟨⟨[101, 110, 116, 114, 117, 115, 116, 32, 115, 101, 97, 108]⟩⟩)] Tryd.call44 rfl) (fun w1 hw1 => label_c k ([101, 110, 116, 114, 117, 115, 116, 32, 115, 101, 97, 108] : List UInt8) w1 hk (by first | omega | (simp; done)) (hG.at hw1))) rfl ?_
 rintro v1 L1 ⟨rfl, rfl⟩
 show JL _ _ _ _ ((5, .agg (cu8 (macL k ([101, 110, 116, 114, 117, 115, 116, 32, 115, 101, 97, 108] : List UInt8))).toArray) :: _) [⟨nb1, cu8 k, 55, (0, 0)⟩, ⟨nb2, cu8 (zr8 16) ++ cu8 (zr8 32) ++ cu8 (zr8 32) ++ cu8 (zr8 32), 61, (0, 0)⟩]
 refine JL_step (Step_alloc _ (cu8 (zr8 32)) Tryd.zeroValue25 (by kernel_rfl)) rfl ?_
 rintro v1 L1 ⟨nb3, hnb3, rfl, rfl⟩
 show JL _ _ _ _ ((3, Ptr nb3 0) :: _) [⟨nb1, cu8 k, 55, (0, 0)⟩, ⟨nb2, cu8 (zr8 16) ++ cu8 (zr8 32) ++ cu8 (zr8 32) ++ cu8 (zr8 32), 61, (0, 0)⟩, ⟨nb3, cu8 (zr8 32), 25, (0, 0)⟩]
 refine JL_step (Step_store 2 nb3 0 32 (cu8 (zr8 32)) 25 (.agg (cu8 (macL k ([101, 110, 116, 114, 117, 115, 116, 32, 115, 101, 97, 108] : List UInt8))).toArray) (cu8 (macL k ([101, 110, 116, 114, 117, 115, 116, 32, 115, 101, 97, 108] : List UInt8))) (cu8 (macL k ([101, 110, 116, 114, 117, 115, 116, 32, 115, 101, 97, 108] : List UInt8))) rfl rfl rfl (by first | rfl | simp) Tryd.sizeOf25 (len_cu8 (macL_len _ _)) (by first | exact one_u8 | exact one_u32 | exact one_u64 | (simp [cu8, cu32, cu64, Value.oneCell']; done)) (by simp [(zr8_len 32)]) (lay_whole (by simp [(zr8_len 32), (macL_len _ _)]))) rfl ?_
 rintro v1 L1 ⟨rfl, rfl⟩
 show JL _ _ _ _ _ [⟨nb1, cu8 k, 55, (0, 0)⟩, ⟨nb2, cu8 (zr8 16) ++ cu8 (zr8 32) ++ cu8 (zr8 32) ++ cu8 (zr8 32), 61, (0, 0)⟩, ⟨nb3, cu8 (macL k ([101, 110, 116, 114, 117, 115, 116, 32, 115, 101, 97, 108] : List UInt8)), 25, (0, 0)⟩]
 refine JL_nil ?_
 refine JQ_then ?_
 refine JC_seq ?_
 have hl1 : (mid (macL k ([101, 110, 116, 114, 117, 115, 116, 32, 115, 101, 97, 108] : List UInt8)) 0 16).length = 16 := mid_len (by rw [(macL_len _ _)]; omega)
 refine JC_draw 16 5 [(0, Slc nb3 0 16 32), (1, Ptr nb3 0), (2, .agg (cu8 (mid (macL k ([101, 110, 116, 114, 117, 115, 116, 32, 115, 101, 97, 108] : List UInt8)) 0 16)).toArray), (3, .agg (cu8 k).toArray), (5, .agg (cu8 k).toArray), (7, .agg (cu8 k).toArray)] Tryd.mixed rfl (by decide +kernel) ?_
 have hl2 : (mid (macL k ([101, 110, 116, 114, 117, 115, 116, 32, 115, 101, 97, 108] : List UInt8)) 0 16).length = 16 := mid_len (by rw [(macL_len _ _)]; omega)
 refine DP_one ⟨[], [0, 1, 2, 3, 5, 7], [], [0, 1, 2, 3, 5, 7], [4]⟩ 4 _ rfl rfl (by decide +kernel) rfl ⟨⟨_, rfl, Qok_val rfl (Ev_sliceA 32 5 1 0 16 0 32 Tryd.underlying25 Tryd.sizeOf5 rfl rfl rfl (by omega) (by omega) (by omega) (by omega) (by omega) 16 (by omega))⟩, ⟨_, rfl, Qok_val rfl (Ev_s2ap 16 Tryd.underlying55 rfl (by omega))⟩, ⟨_, rfl, Qok_val rfl (Ev_load rfl (Ld_agg Tryd.isAgg55 Tryd.sizeOf55 (len_cu8 hl2) (MemAt.ent 2 rfl (segm_u8 0 16 (by rw [(macL_len _ _)]; omega)))))⟩, ⟨_, rfl, Qok_val rfl (Ev_load rfl (Ld_agg Tryd.isAgg55 Tryd.sizeOf55 (len_cu8 hk) (MemAt.ent 0 rfl (Seg.whole _))))⟩, ⟨_, rfl, Qok_val rfl (Ev_load rfl (Ld_agg Tryd.isAgg55 Tryd.sizeOf55 (len_cu8 hk) (MemAt.ent 0 rfl (Seg.whole _))))⟩, ⟨_, rfl, Qok_val rfl (Ev_load rfl (Ld_agg Tryd.isAgg55 Tryd.sizeOf55 (len_cu8 hk) (MemAt.ent 0 rfl (Seg.whole _))))⟩, trivial⟩ rfl (Cok_step rfl (Step_callP 44 [.agg (cu8 k).toArray, .string (⟨⟨[101, 110, 116, 114, 117, 115, 116, 32, 116, 97, 103]⟩⟩)] (.agg (cu8 (macL k ([101, 110, 116, 114, 117, 115, 116, 32, 116, 97, 103] : List UInt8))).toArray) (Cl_func [.agg (cu8 k).toArray, .string (⟨⟨[101, 110, 116, 114, 117, 115, 116, 32, 116, 97, 103]⟩⟩)] Tryd.call44 rfl) (fun w1 hw1 => label_c k ([101, 110, 116, 114, 117, 115, 116, 32, 116, 97, 103] : List UInt8) w1 hk (by first | omega | (simp; done)) (hG.at hw1)))) ?_
 rintro v1 L1 ⟨rfl, rfl⟩
 refine ⟨[], ?_⟩
 show DP _ _ _ _ _ _ _ _ [⟨nb1, cu8 k, 55, (0, 0)⟩, ⟨nb2, cu8 (zr8 16) ++ cu8 (zr8 32) ++ cu8 (zr8 32) ++ cu8 (zr8 32), 61, (0, 0)⟩, ⟨nb3, cu8 (macL k ([101, 110, 116, 114, 117, 115, 116, 32, 115, 101, 97, 108] : List UInt8)), 25, (0, 0)⟩]
 have hl3 : (mid (macL k ([101, 110, 116, 114, 117, 115, 116, 32, 115, 101, 97, 108] : List UInt8)) 0 16).length = 16 := mid_len (by rw [(macL_len _ _)]; omega)
 refine DP_one ⟨[4], [0, 1, 2, 3, 5, 7], [3], [0, 1, 2, 5, 7], [6]⟩ 6 _ rfl rfl (by decide +kernel) rfl ⟨⟨_, rfl, Qok_val rfl (Ev_sliceA 32 5 1 0 16 0 32 Tryd.underlying25 Tryd.sizeOf5 rfl rfl rfl (by omega) (by omega) (by omega) (by omega) (by omega) 16 (by omega))⟩, ⟨_, rfl, Qok_val rfl (Ev_s2ap 16 Tryd.underlying55 rfl (by omega))⟩, ⟨_, rfl, Qok_val rfl (Ev_load rfl (Ld_agg Tryd.isAgg55 Tryd.sizeOf55 (len_cu8 hl3) (MemAt.ent 2 rfl (segm_u8 0 16 (by rw [(macL_len _ _)]; omega)))))⟩, ⟨_, rfl, Qok_val rfl (Ev_load rfl (Ld_agg Tryd.isAgg55 Tryd.sizeOf55 (len_cu8 hk) (MemAt.ent 0 rfl (Seg.whole _))))⟩, ⟨_, rfl, Qok_val rfl (Ev_load rfl (Ld_agg Tryd.isAgg55 Tryd.sizeOf55 (len_cu8 hk) (MemAt.ent 0 rfl (Seg.whole _))))⟩, trivial⟩ rfl (Cok_step rfl (Step_callP 44 [.agg (cu8 k).toArray, .string (⟨⟨[101, 110, 116, 114, 117, 115, 116, 32, 116, 105, 99, 107, 101, 116]⟩⟩)] (.agg (cu8 (macL k ([101, 110, 116, 114, 117, 115, 116, 32, 116, 105, 99, 107, 101, 116] : List UInt8))).toArray) (Cl_func [.agg (cu8 k).toArray, .string (⟨⟨[101, 110, 116, 114, 117, 115, 116, 32, 116, 105, 99, 107, 101, 116]⟩⟩)] Tryd.call44 rfl) (fun w1 hw1 => label_c k ([101, 110, 116, 114, 117, 115, 116, 32, 116, 105, 99, 107, 101, 116] : List UInt8) w1 hk (by first | omega | (simp; done)) (hG.at hw1)))) ?_
 rintro v1 L1 ⟨rfl, rfl⟩
 refine ⟨[], ?_⟩
 show DP _ _ _ _ _ _ _ _ [⟨nb1, cu8 k, 55, (0, 0)⟩, ⟨nb2, cu8 (zr8 16) ++ cu8 (zr8 32) ++ cu8 (zr8 32) ++ cu8 (zr8 32), 61, (0, 0)⟩, ⟨nb3, cu8 (macL k ([101, 110, 116, 114, 117, 115, 116, 32, 115, 101, 97, 108] : List UInt8)), 25, (0, 0)⟩]
 have hl4 : (mid (macL k ([101, 110, 116, 114, 117, 115, 116, 32, 115, 101, 97, 108] : List UInt8)) 0 16).length = 16 := mid_len (by rw [(macL_len _ _)]; omega)
 refine DP_one ⟨[4, 6], [0, 1, 2, 3, 5, 7], [3, 5], [0, 1, 2, 7], [8]⟩ 8 _ rfl rfl (by decide +kernel) rfl ⟨⟨_, rfl, Qok_val rfl (Ev_sliceA 32 5 1 0 16 0 32 Tryd.underlying25 Tryd.sizeOf5 rfl rfl rfl (by omega) (by omega) (by omega) (by omega) (by omega) 16 (by omega))⟩, ⟨_, rfl, Qok_val rfl (Ev_s2ap 16 Tryd.underlying55 rfl (by omega))⟩, ⟨_, rfl, Qok_val rfl (Ev_load rfl (Ld_agg Tryd.isAgg55 Tryd.sizeOf55 (len_cu8 hl4) (MemAt.ent 2 rfl (segm_u8 0 16 (by rw [(macL_len _ _)]; omega)))))⟩, ⟨_, rfl, Qok_val rfl (Ev_load rfl (Ld_agg Tryd.isAgg55 Tryd.sizeOf55 (len_cu8 hk) (MemAt.ent 0 rfl (Seg.whole _))))⟩, trivial⟩ rfl (Cok_step rfl (Step_callP 44 [.agg (cu8 k).toArray, .string (⟨⟨[101, 110, 116, 114, 117, 115, 116, 32, 108, 105, 110, 107]⟩⟩)] (.agg (cu8 (macL k ([101, 110, 116, 114, 117, 115, 116, 32, 108, 105, 110, 107] : List UInt8))).toArray) (Cl_func [.agg (cu8 k).toArray, .string (⟨⟨[101, 110, 116, 114, 117, 115, 116, 32, 108, 105, 110, 107]⟩⟩)] Tryd.call44 rfl) (fun w1 hw1 => label_c k ([101, 110, 116, 114, 117, 115, 116, 32, 108, 105, 110, 107] : List UInt8) w1 hk (by first | omega | (simp; done)) (hG.at hw1)))) ?_
 rintro v1 L1 ⟨rfl, rfl⟩
 refine ⟨[(9, .agg (cu8 (mid (macL k ([101, 110, 116, 114, 117, 115, 116, 32, 115, 101, 97, 108] : List UInt8)) 0 16) ++ cu8 (macL k ([101, 110, 116, 114, 117, 115, 116, 32, 116, 97, 103] : List UInt8)) ++ cu8 (macL k ([101, 110, 116, 114, 117, 115, 116, 32, 116, 105, 99, 107, 101, 116] : List UInt8)) ++ cu8 (macL k ([101, 110, 116, 114, 117, 115, 116, 32, 108, 105, 110, 107] : List UInt8))).toArray)], ?_⟩
 show DP _ _ _ _ _ _ _ _ [⟨nb1, cu8 k, 55, (0, 0)⟩, ⟨nb2, cu8 (zr8 16) ++ cu8 (zr8 32) ++ cu8 (zr8 32) ++ cu8 (zr8 32), 61, (0, 0)⟩, ⟨nb3, cu8 (macL k ([101, 110, 116, 114, 117, 115, 116, 32, 115, 101, 97, 108] : List UInt8)), 25, (0, 0)⟩]
 have hl5 : (mid (macL k ([101, 110, 116, 114, 117, 115, 116, 32, 115, 101, 97, 108] : List UInt8)) 0 16).length = 16 := mid_len (by rw [(macL_len _ _)]; omega)
 refine DP_one ⟨[4, 6, 8], [0, 1, 2, 3, 5, 7, 9], [3, 5, 7], [0, 1, 2, 9], [10]⟩ 10 _ rfl rfl (by decide +kernel) rfl ⟨⟨_, rfl, Qok_val rfl (Ev_sliceA 32 5 1 0 16 0 32 Tryd.underlying25 Tryd.sizeOf5 rfl rfl rfl (by omega) (by omega) (by omega) (by omega) (by omega) 16 (by omega))⟩, ⟨_, rfl, Qok_val rfl (Ev_s2ap 16 Tryd.underlying55 rfl (by omega))⟩, ⟨_, rfl, Qok_val rfl (Ev_load rfl (Ld_agg Tryd.isAgg55 Tryd.sizeOf55 (len_cu8 hl5) (MemAt.ent 2 rfl (segm_u8 0 16 (by rw [(macL_len _ _)]; omega)))))⟩, ⟨_, rfl, Qok_val rfl (Ev_build [(0, .agg (cu8 (mid (macL k ([101, 110, 116, 114, 117, 115, 116, 32, 115, 101, 97, 108] : List UInt8)) 0 16)).toArray), (1, .agg (cu8 (macL k ([101, 110, 116, 114, 117, 115, 116, 32, 116, 97, 103] : List UInt8))).toArray), (2, .agg (cu8 (macL k ([101, 110, 116, 114, 117, 115, 116, 32, 116, 105, 99, 107, 101, 116] : List UInt8))).toArray), (3, .agg (cu8 (macL k ([101, 110, 116, 114, 117, 115, 116, 32, 108, 105, 110, 107] : List UInt8))).toArray)] _ rfl (fun _ => run_build_struct (places := #[(0, 16), (16, 32), (48, 32), (80, 32)]) (z := .agg ((List.replicate 16 (U8 0) ++ (List.replicate 32 (U8 0) ++ (List.replicate 32 (U8 0) ++ (List.replicate 32 (U8 0) ++ []))))).toArray) (fun _ => by kernel_rfl) Tryd.underlying61 (fun _ => by kernel_rfl) ((fill_step ([]) (List.replicate 16 (U8 0)) (List.replicate 32 (U8 0) ++ (List.replicate 32 (U8 0) ++ (List.replicate 32 (U8 0) ++ []))) (cu8 (mid (macL k ([101, 110, 116, 114, 117, 115, 116, 32, 115, 101, 97, 108] : List UInt8)) 0 16)) rfl (by simp [hl1]) (by simp [hl1])).trans ((fill_step (([]) ++ (cu8 (mid (macL k ([101, 110, 116, 114, 117, 115, 116, 32, 115, 101, 97, 108] : List UInt8)) 0 16))) (List.replicate 32 (U8 0)) (List.replicate 32 (U8 0) ++ (List.replicate 32 (U8 0) ++ [])) (cu8 (macL k ([101, 110, 116, 114, 117, 115, 116, 32, 116, 97, 103] : List UInt8))) rfl (by simp [hl1, (macL_len _ _)]) (by simp [(macL_len _ _)])).trans ((fill_step ((([]) ++ (cu8 (mid (macL k ([101, 110, 116, 114, 117, 115, 116, 32, 115, 101, 97, 108] : List UInt8)) 0 16))) ++ (cu8 (macL k ([101, 110, 116, 114, 117, 115, 116, 32, 116, 97, 103] : List UInt8)))) (List.replicate 32 (U8 0)) (List.replicate 32 (U8 0) ++ []) (cu8 (macL k ([101, 110, 116, 114, 117, 115, 116, 32, 116, 105, 99, 107, 101, 116] : List UInt8))) rfl (by simp [hl1, (macL_len _ _), (macL_len _ _)]) (by simp [(macL_len _ _)])).trans ((fill_step (((([]) ++ (cu8 (mid (macL k ([101, 110, 116, 114, 117, 115, 116, 32, 115, 101, 97, 108] : List UInt8)) 0 16))) ++ (cu8 (macL k ([101, 110, 116, 114, 117, 115, 116, 32, 116, 97, 103] : List UInt8)))) ++ (cu8 (macL k ([101, 110, 116, 114, 117, 115, 116, 32, 116, 105, 99, 107, 101, 116] : List UInt8)))) (List.replicate 32 (U8 0)) [] (cu8 (macL k ([101, 110, 116, 114, 117, 115, 116, 32, 108, 105, 110, 107] : List UInt8))) rfl (by simp [hl1, (macL_len _ _), (macL_len _ _), (macL_len _ _)]) (by simp [(macL_len _ _)])).trans (by simp [Instr.fill])))))))⟩, trivial⟩ rfl (Cok_step rfl (Step_store 1 nb2 0 112 (cu8 (zr8 16) ++ cu8 (zr8 32) ++ cu8 (zr8 32) ++ cu8 (zr8 32)) 61 (.agg (cu8 (mid (macL k ([101, 110, 116, 114, 117, 115, 116, 32, 115, 101, 97, 108] : List UInt8)) 0 16) ++ cu8 (macL k ([101, 110, 116, 114, 117, 115, 116, 32, 116, 97, 103] : List UInt8)) ++ cu8 (macL k ([101, 110, 116, 114, 117, 115, 116, 32, 116, 105, 99, 107, 101, 116] : List UInt8)) ++ cu8 (macL k ([101, 110, 116, 114, 117, 115, 116, 32, 108, 105, 110, 107] : List UInt8))).toArray) (cu8 (mid (macL k ([101, 110, 116, 114, 117, 115, 116, 32, 115, 101, 97, 108] : List UInt8)) 0 16) ++ cu8 (macL k ([101, 110, 116, 114, 117, 115, 116, 32, 116, 97, 103] : List UInt8)) ++ cu8 (macL k ([101, 110, 116, 114, 117, 115, 116, 32, 116, 105, 99, 107, 101, 116] : List UInt8)) ++ cu8 (macL k ([101, 110, 116, 114, 117, 115, 116, 32, 108, 105, 110, 107] : List UInt8))) (cu8 (mid (macL k ([101, 110, 116, 114, 117, 115, 116, 32, 115, 101, 97, 108] : List UInt8)) 0 16) ++ cu8 (macL k ([101, 110, 116, 114, 117, 115, 116, 32, 116, 97, 103] : List UInt8)) ++ cu8 (macL k ([101, 110, 116, 114, 117, 115, 116, 32, 116, 105, 99, 107, 101, 116] : List UInt8)) ++ cu8 (macL k ([101, 110, 116, 114, 117, 115, 116, 32, 108, 105, 110, 107] : List UInt8))) rfl rfl rfl (by first | rfl | simp) Tryd.sizeOf61 (by simp [hl1, (macL_len _ _), (macL_len _ _), (macL_len _ _)]) (by simp only [← cu8_app]; exact one_u8) (by simp [(zr8_len 16), (zr8_len 32), (zr8_len 32), (zr8_len 32)]) (lay_whole (by simp [(zr8_len 16), (zr8_len 32), (zr8_len 32), (zr8_len 32), hl1, (macL_len _ _), (macL_len _ _), (macL_len _ _)])))) ?_
 rintro v1 L1 ⟨rfl, rfl⟩
 refine ⟨[], ?_⟩
 show DP _ _ _ _ _ _ _ _ [⟨nb1, cu8 k, 55, (0, 0)⟩, ⟨nb2, cu8 (mid (macL k ([101, 110, 116, 114, 117, 115, 116, 32, 115, 101, 97, 108] : List UInt8)) 0 16) ++ cu8 (macL k ([101, 110, 116, 114, 117, 115, 116, 32, 116, 97, 103] : List UInt8)) ++ cu8 (macL k ([101, 110, 116, 114, 117, 115, 116, 32, 116, 105, 99, 107, 101, 116] : List UInt8)) ++ cu8 (macL k ([101, 110, 116, 114, 117, 115, 116, 32, 108, 105, 110, 107] : List UInt8)), 61, (0, 0)⟩, ⟨nb3, cu8 (macL k ([101, 110, 116, 114, 117, 115, 116, 32, 115, 101, 97, 108] : List UInt8)), 25, (0, 0)⟩]
 refine DP_end ⟨[4, 6, 8, 10], [0, 1, 2, 3, 5, 7, 9], [0, 1, 2, 3, 5, 7, 9], [], []⟩ rfl rfl (by decide +kernel) rfl trivial ?_
 refine K_sub (F' := [(2, Ptr nb2 0)]) (Sub.cons (by kernel_rfl) (Sub.nil)) ?_
 show JQ _ _ _ [(2, Ptr nb2 0)] _
 refine JQ_then ?_
 refine JC_ret ?_
 refine JQ_ret (.agg (cu8 (mid (macL k ([101, 110, 116, 114, 117, 115, 116, 32, 115, 101, 97, 108] : List UInt8)) 0 16) ++ cu8 (macL k ([101, 110, 116, 114, 117, 115, 116, 32, 116, 97, 103] : List UInt8)) ++ cu8 (macL k ([101, 110, 116, 114, 117, 115, 116, 32, 116, 105, 99, 107, 101, 116] : List UInt8)) ++ cu8 (macL k ([101, 110, 116, 114, 117, 115, 116, 32, 108, 105, 110, 107] : List UInt8))).toArray) (res1 Tryd.results48 (RV_cell rfl (Ld_agg Tryd.isAgg61 Tryd.sizeOf61 (by simp [hl1, (macL_len _ _), (macL_len _ _), (macL_len _ _)]) (MemAt.ent 1 rfl (Seg.whole _))))) fun w1 hw1 => ?_
 exact ⟨_, [], rfl, ⟨rfl, rfl⟩, hw1.sub (by simp) (by simp)⟩
theorem rtag_c (k : List UInt8) (w : World) (hk : k.length = 16) (hGr : GLr w) (hGi : GLi w) : Calls Tryd.prog 51 #[.agg (cu8 k).toArray] w (Post w [] (fun v L => v = .agg (cu8 (macL k ([101, 110, 116, 114, 117, 115, 116, 32, 116, 97, 103] : List UInt8))).toArray ∧ L = [])) := by
 refine enter w [] 5 [] [.agg (cu8 k).toArray] Tryd.func51 rfl rfl (by simp) (Hp.start (by simp) (by simp) (by simp)) ?_
 show JC _ _ _ [(0, .agg (cu8 k).toArray)] _
 refine JC_seq ?_
 refine JC_region ?_
 refine JL_step (Step_box (.agg (cu8 k).toArray) (cu8 k) rfl (by first | rfl | simp)) rfl ?_
 rintro v1 L1 ⟨nb1, hnb1, rfl, rfl⟩
 show JL _ _ _ _ ((1, Ptr nb1 0) :: _) [⟨nb1, cu8 k, 55, (0, 0)⟩]
 refine JL_step (Step_alloc _ (cu8 (zr8 32)) Tryd.zeroValue25 (by kernel_rfl)) rfl ?_
 rintro v1 L1 ⟨nb2, hnb2, rfl, rfl⟩
 show JL _ _ _ _ ((2, Ptr nb2 0) :: _) [⟨nb1, cu8 k, 55, (0, 0)⟩, ⟨nb2, cu8 (zr8 32), 25, (0, 0)⟩]
 refine JL_nil ?_
 refine JQ_then ?_
 refine JC_seq ?_
 refine JC_region ?_
 refine JL_val (.agg (cu8 k).toArray) (Ev_load rfl (Ld_agg Tryd.isAgg55 Tryd.sizeOf55 (len_cu8 hk) (MemAt.ent 0 rfl (Seg.whole _)))) rfl ?_
 refine JL_step (Step_callP 45 [.agg (cu8 k).toArray, .string (⟨⟨[101, 110, 116, 114, 117, 115, 116, 32, 116, 97, 103]⟩⟩)] (.agg (cu8 (macL k ([101, 110, 116, 114, 117, 115, 116, 32, 116, 97, 103] : List UInt8))).toArray) (Cl_func [.agg (cu8 k).toArray, .string (⟨⟨[101, 110, 116, 114, 117, 115, 116, 32, 116, 97, 103]⟩⟩)] Tryd.call45 rfl) (fun w1 hw1 => rlabel_c k ([101, 110, 116, 114, 117, 115, 116, 32, 116, 97, 103] : List UInt8) w1 hk (by first | omega | (simp; done)) (GLr.at hw1 hGr) (GLi.at hw1 hGi))) rfl ?_
 rintro v1 L1 ⟨rfl, rfl⟩
 show JL _ _ _ _ ((4, .agg (cu8 (macL k ([101, 110, 116, 114, 117, 115, 116, 32, 116, 97, 103] : List UInt8))).toArray) :: _) [⟨nb1, cu8 k, 55, (0, 0)⟩, ⟨nb2, cu8 (zr8 32), 25, (0, 0)⟩]
 refine JL_step (Step_store 1 nb2 0 32 (cu8 (zr8 32)) 25 (.agg (cu8 (macL k ([101, 110, 116, 114, 117, 115, 116, 32, 116, 97, 103] : List UInt8))).toArray) (cu8 (macL k ([101, 110, 116, 114, 117, 115, 116, 32, 116, 97, 103] : List UInt8))) (cu8 (macL k ([101, 110, 116, 114, 117, 115, 116, 32, 116, 97, 103] : List UInt8))) rfl rfl rfl (by first | rfl | simp) Tryd.sizeOf25 (len_cu8 (macL_len _ _)) (by first | exact one_u8 | exact one_u32 | exact one_u64 | (simp [cu8, cu32, cu64, Value.oneCell']; done)) (by simp [(zr8_len 32)]) (lay_whole (by simp [(zr8_len 32), (macL_len _ _)]))) rfl ?_
 rintro v1 L1 ⟨rfl, rfl⟩
 show JL _ _ _ _ _ [⟨nb1, cu8 k, 55, (0, 0)⟩, ⟨nb2, cu8 (macL k ([101, 110, 116, 114, 117, 115, 116, 32, 116, 97, 103] : List UInt8)), 25, (0, 0)⟩]
 refine JL_nil ?_
 refine JQ_then ?_
 refine JC_ret ?_
 refine JQ_ret (.agg (cu8 (macL k ([101, 110, 116, 114, 117, 115, 116, 32, 116, 97, 103] : List UInt8))).toArray) (res1 Tryd.results51 (RV_cell rfl (Ld_agg Tryd.isAgg25 Tryd.sizeOf25 (len_cu8 (macL_len _ _)) (MemAt.ent 1 rfl (Seg.whole _))))) fun w1 hw1 => ?_
 exact ⟨_, [], rfl, ⟨rfl, rfl⟩, hw1.sub (by simp) (by simp)⟩
end Go.Proofs.YtncoifiafklkjaaDoor
namespace Go.Sx
open Go Go.RowKit
set_option linter.unusedVariables false
variable {C : Cx} {Q : Exit → Act → World → Prop} {F F0 : Frm} {L : List Ent}
def CutQ {ι : Type} (C : Cx) (Q : Exit → Act → World → Prop) (FI : ι → Frm) (LI : ι → List Ent) (Pre : ι → Prop) : Exit → Act → World → Prop := fun e a w =>
 (e = .normal ∧ ∃ x, Pre x ∧ Fr (FI x) C a ∧ Hp C.w0 C.M (LI x) w) ∨ (e ≠ .normal ∧ Q e a w)
theorem JC_cut {ι : Type} {c : Code} (FI : ι → Frm) (LI : ι → List Ent) (Pre : ι → Prop) (h1 : JC C (CutQ C Q FI LI Pre) c F L) (h2 : ∀ x, Pre x → JQ C Q .normal (FI x) (LI x)) : JC C Q c F L := fun a w ha hw => wpIn_mono (h1 a w ha hw) (by
  rintro e a w (⟨rfl, x, hp, ha, hw⟩ | ⟨_, h⟩)
  · exact h2 x hp a w ha hw
  · exact h)
theorem JQ_cut {ι : Type} {FI : ι → Frm} {LI : ι → List Ent} {Pre : ι → Prop} (x : ι) (hp : Pre x) (hF : Sub (FI x) F) (hL : LI x = L) : JQ C (CutQ C Q FI LI Pre) .normal F L := fun a w ha hw => .inl ⟨rfl, x, hp, ha.weaken hF, hL ▸ hw⟩
variable {ops : Array Oper} {Vl : Vals}
end Go.Sx
namespace Go.Sx
open Go Go.RowKit
set_option linter.unusedVariables false
set_option linter.unusedSimpArgs false
def errV (T e : Nat) : Value := if e = 0 then .nilIface else .iface T (I64 e)
theorem errV_pos {T e : Nat} (h : e ≠ 0) : errV T e = .iface T (I64 e) := if_neg h
section
variable {P : Program} {w : World}
theorem eqGuard_errV (op : BinOp) (t : TypeId) (x : Operand) (v : Value) (T e : Nat) : (eqGuard op t x (.const v) (errV T e) .nilIface).run P w = .ok () w := by
  unfold errV
  split
  · exact eqGuard_nilc op t x v
  · exact eqGuard_if op t x _ _ _
theorem eql_errV {t : TypeId} {ms : Array (String × TypeId)} (hu : P.underlying t = some (.interface ms)) (T e : Nat) : (binOp .eql t (errV T e) .nilIface).run P w = .ok (.bool (decide (e = 0))) w := by
  by_cases h : e = 0
  · subst h; exact eql_if_nil_nil hu
  · rw [errV_pos h, decide_eq_false h]; exact eql_if_nil hu
theorem neq_errV {t : TypeId} {ms : Array (String × TypeId)} (hu : P.underlying t = some (.interface ms)) (T e : Nat) : (binOp .neq t (errV T e) .nilIface).run P w = .ok (.bool (!(decide (e = 0)))) w := by
  by_cases h : e = 0
  · subst h; exact neq_if_nil_nil hu
  · rw [errV_pos h, decide_eq_false h]; exact neq_if_nil hu
end
end Go.Sx
namespace Go.Proofs.YtncoifiafklkjaaDoor
open Go Go.Sx
set_option linter.unusedVariables false
set_option linter.unusedSimpArgs false
theorem ext8n {a b : List UInt8} (hl : a.length = b.length) (h : ∀ i, i < a.length → g8 a i = g8 b i) : a = b :=
 List.ext_getElem hl fun i h1 h2 => by
  have := h i h1
  rwa [g8_eq h1, g8_eq h2] at this
theorem g8_mr {f : Nat → UInt8} {n i : Nat} (h : i < n) : g8 ((List.range n).map f) i = f i := by
 rw [g8_eq (by simpa using h)]; simp
def numK (k : Nat) (x : UInt64) (j : Nat) : List UInt8 := (List.range j).map fun i => (x >>> UInt64.ofNat (8*k - 8*i - 8)).toUInt8
theorem numK_len (k : Nat) (x : UInt64) (j : Nat) : (numK k x j).length = j := by simp [numK]
theorem numK_zero (k : Nat) (x : UInt64) : numK k x 0 = [] := rfl
theorem numK_succ (k : Nat) (x : UInt64) (j : Nat) : numK k x (j + 1) = numK k x j ++ [(x >>> UInt64.ofNat (8*k - 8*j - 8)).toUInt8] := by
 simp [numK, List.range_succ]
def rnK (k : Nat) (x : UInt64) : Nat → List UInt8 × UInt64
 | 0 => (zr8 k, x)
 | j + 1 => ((rnK k x j).1.set (k - j - 1) ((rnK k x j).2 % 256).toUInt8, (rnK k x j).2 / 256)
theorem rnK_len (k : Nat) (x : UInt64) : ∀ j, (rnK k x j).1.length = k
 | 0 => zr8_len k
 | j + 1 => by rw [rnK]; simp [rnK_len k x j]
theorem rnK_snd (k : Nat) (x : UInt64) : ∀ j, (rnK k x j).2.toNat = x.toNat / 256 ^ j
 | 0 => by simp [rnK]
 | j + 1 => by
  rw [rnK]
  show ((rnK k x j).2 / 256).toNat = _
  rw [UInt64.toNat_div, rnK_snd k x j, Nat.pow_succ, ← Nat.div_div_eq_div_mul]
  rfl
theorem u8_modK (y : UInt64) : (y % 256).toUInt8 = y.toUInt8 := by
 apply UInt8.toNat_inj.1
 rw [UInt64.toNat_toUInt8, UInt64.toNat_toUInt8, UInt64.toNat_mod]
 show y.toNat % 256 % 2 ^ 8 = _
 omega
theorem shr_divK (x : UInt64) (j : Nat) (h : j ≤ 7) : (x >>> UInt64.ofNat (8*j)).toNat = x.toNat / 256 ^ j := by
 have : (UInt64.ofNat (8*j)).toNat = 8*j := by rw [UInt64.toNat_ofNat']; exact Nat.mod_eq_of_lt (by omega)
 rw [UInt64.toNat_shiftRight, this, Nat.mod_eq_of_lt (by omega), Nat.shiftRight_eq_div_pow, Nat.pow_mul]
theorem rnK_get (k : Nat) (x : UInt64) (hk : k ≤ 8) : ∀ j, j ≤ k → ∀ i, k - j ≤ i → i < k → g8 (rnK k x j).1 i = (x >>> UInt64.ofNat (8*k - 8*i - 8)).toUInt8
  | 0, _, i, h1, h2 => by omega
  | j + 1, h, i, h1, h2 => by
    rw [rnK]
    show g8 ((rnK k x j).1.set (k - j - 1) ((rnK k x j).2 % 256).toUInt8) i = _
    rw [g8_set _ _ _ _ (by rw [rnK_len]; omega)]
    by_cases hi : k - j - 1 = i
    · rw [if_pos hi, u8_modK]
      have : (rnK k x j).2 = x >>> UInt64.ofNat (8*j) := UInt64.toNat_inj.1 (by rw [rnK_snd k x j, shr_divK x j (by omega)])
      rw [this]
      have e : 8*k - 8*i - 8 = 8*j := by omega
      rw [e]
    · rw [if_neg hi]
      exact rnK_get k x hk j (by omega) i (by omega) h2
theorem rnK_num (k : Nat) (x : UInt64) (hk : k ≤ 8) : (rnK k x k).1 = numK k x k :=
 ext8n (by rw [rnK_len, numK_len]) fun i hi => by
  rw [rnK_len] at hi
  rw [rnK_get k x hk k (Nat.le_refl _) i (by omega) hi, numK, g8_mr hi]
def valK (l : List UInt8) : Nat → UInt64
 | 0 => 0
 | j + 1 => (valK l j <<< 8) ||| (g8 l j).toUInt64
theorem or_nat (a b : Nat) (hb : b < 256) : ((a * 256) ||| b) = a * 256 + b := by
 have h := Nat.shiftLeft_add_eq_or_of_lt (i := 8) (b := b) (by simpa using hb) a
 rw [Nat.shiftLeft_eq] at h
 exact h.symm
theorem shl_or (x : UInt64) (b : UInt8) : (x <<< 8) ||| b.toUInt64 = x * 256 + b.toUInt64 := by
 apply UInt64.toNat_inj.1
 have hx := UInt64.toNat_lt x
 have hb := UInt8.toNat_lt b
 rw [UInt64.toNat_or, UInt64.toNat_shiftLeft, UInt64.toNat_add, UInt64.toNat_mul, UInt8.toNat_toUInt64]
 show (x.toNat <<< (8 % 64)) % 2 ^ 64 ||| b.toNat = (x.toNat * 256 % 2 ^ 64 + b.toNat) % 2 ^ 64
 rw [Nat.shiftLeft_eq]
 have e : x.toNat * 2 ^ (8 % 64) % 2 ^ 64 = (x.toNat % 2 ^ 56) * 256 := by
  show x.toNat * 256 % 2 ^ 64 = _
  omega
 rw [e, or_nat _ _ (by omega)]
 omega
theorem valK_num (k : Nat) (x : UInt64) (hk : k ≤ 8) (hx : x.toNat / 256 ^ k = 0) : ∀ j, j ≤ k → (valK (numK k x k) j).toNat = x.toNat / 256 ^ (k - j)
 | 0, _ => by simp only [valK, Nat.sub_zero, hx]; rfl
 | j + 1, h => by
  have ih := valK_num k x hk hx j (by omega)
  have hl := UInt64.toNat_lt x
  rw [valK, shl_or, UInt64.toNat_add, UInt64.toNat_mul, ih, UInt8.toNat_toUInt64, numK, g8_mr (by omega), UInt64.toNat_toUInt8]
  have e : 8*k - 8*j - 8 = 8*(k - 1 - j) := by omega
  rw [e, shr_divK x _ (by omega)]
  have e2 : 256 ^ (k - j) = 256 ^ (k - 1 - j) * 256 := by rw [← Nat.pow_succ]; congr 1; omega
  have e3 : k - (j + 1) = k - 1 - j := by omega
  rw [e2, e3, ← Nat.div_div_eq_div_mul]
  have h4 : x.toNat / 256 ^ (k - 1 - j) ≤ x.toNat := Nat.div_le_self _ _
  generalize x.toNat / 256 ^ (k - 1 - j) = y at *
  show ((y / 256) * 256 % 2 ^ 64 + y % 2 ^ 8) % 2 ^ 64 = y
  omega
theorem valK_back (k : Nat) (x : UInt64) (hk : k ≤ 8) (hx : x.toNat / 256 ^ k = 0) : valK (numK k x k) k = x :=
 UInt64.toNat_inj.1 (by rw [valK_num k x hk hx k (Nat.le_refl _)]; simp)
theorem valK_congr {a b : List UInt8} : ∀ j, (∀ i, i < j → g8 a i = g8 b i) → valK a j = valK b j
 | 0, _ => rfl
 | j + 1, h => by rw [valK, valK, valK_congr j (fun i hi => h i (by omega)), h j (by omega)]
def hashL (z : List UInt8) : List UInt8 := (z ++ zr8 32).take 32
theorem hashL_len (z : List UInt8) : (hashL z).length = 32 := by simp [hashL, zr8]
def Szd (s : Int) : Prop := s = 1 ∨ s = 2 ∨ s = 4 ∨ s = 8
end Go.Proofs.YtncoifiafklkjaaDoor
namespace Go.Sx
open Go Go.RowKit
set_option linter.unusedVariables false
set_option linter.unusedSimpArgs false
variable {C : Cx} {F : Frm} {L : List Ent}
theorem Hp.apart {w0 w : World} {M : List Nat} {L : List Ent} (h : Hp w0 M L w) (is M' : List Nat) (hM : M' = is.filterMap (fun i => (L[i]?).map Ent.b)) : ∀ b, b < w0.heap.size → b ∉ M → b ∉ M' := fun b h1 h2 h3 => by
  subst hM
  obtain ⟨i, _, hi⟩ := List.mem_filterMap.1 h3
  obtain ⟨e, he, rfl⟩ := Option.map_eq_some_iff.1 hi
  rcases h.own e (List.mem_of_getElem? he) with h4 | h4
  · exact h2 h4
  · omega
theorem Ev_sliceHi {T : Nat} {x hi : Operand} {ty : TypeId} {ao : Option Addr} {l c : Nat} (e s j : Nat) (hu : C.P.underlying T = some (.slice e)) (hS : ∀ w, (sizeOf e).run C.P w = .ok s w) (hx : ev F x = some (.slice ao l c))
  (hh : ev F hi = some (I64 j)) (h2 : j ≤ c) : Ev C F L (.slice T x none (some hi) none) ty (.slice ao j c) := by
 have h := Ev_sliceG (ty := ty) (L := L) (lo := none) (hi := some hi) e s 0 j hu hS hx rfl hh (Nat.zero_le _) h2
 rw [Nat.zero_mul, addr_map, ite_self, Nat.sub_zero, Nat.sub_zero] at h
 exact h
theorem Ev_sliceLo {T : Nat} {x lo : Operand} {ty : TypeId} {ao : Option Addr} {l c : Nat} (e i n' c' : Nat) (hu : C.P.underlying T = some (.slice e)) (hS : ∀ w, (sizeOf e).run C.P w = .ok 1 w) (hx : ev F x = some (.slice ao l c))
  (hl : ev F lo = some (I64 i)) (h1 : i ≤ l) (h2 : l ≤ c) (hn : l - i = n') (hc : c - i = c') : Ev C F L (.slice T x (some lo) none none) ty (.slice (if c = i then ao else ao.map (·.add (i * 1))) n' c') := by
 subst hn; subst hc
 exact Ev_sliceG (ty := ty) (L := L) (lo := some lo) (hi := none) e 1 i l hu hS hx hl rfl h1 h2
end Go.Sx
