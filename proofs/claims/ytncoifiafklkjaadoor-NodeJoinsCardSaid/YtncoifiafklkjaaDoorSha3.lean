import Derived.Test.YtncoifiafklkjaaDoorSha2
namespace Go.Proofs.YtncoifiafklkjaaDoor
open Go Go.Sx
set_option linter.unusedVariables false
set_option linter.unusedSimpArgs false
set_option maxRecDepth 100000
attribute [local irreducible] mid zr8 zr32 rotr wordL spreadL comprL cpN adN spN wrdN constL initL
theorem scloneNil_c  (w : World) : Calls Tryd.prog 84 #[.slice none 0 0] w (Post w [] (fun v L => v = .slice none 0 0 ∧ L = [])) := by
  refine enter w [] 8 [] [.slice none 0 0] Tryd.func84 rfl rfl (by simp) (Hp.start (by simp) (by simp) (by simp)) ?_
  show JC _ _ _ [(0, .slice none 0 0)] _
  refine JC_seq ?_
  refine JC_region ?_
  refine JL_val _ (Ev_assign rfl) rfl ?_
  refine JL_nil ?_
  refine JQ_then ?_
  refine JC_seq ?_
  refine JC_seq ?_
  refine JC_region ?_
  refine JL_val _ (Ev_move rfl) rfl ?_
  refine JL_val (.bool true) (Ev_bin _ _ _ rfl rfl (fun _ => eqGuard_sl ..) fun _ => eql_sl_nil_nil Tryd.underlying22) rfl ?_
  refine JL_nil ?_
  refine JQ_then ?_
  refine JC_condT _ rfl rfl ?_
  refine JC_seq ?_
  refine JC_region ?_
  refine JL_val _ (Ev_assign rfl) rfl ?_
  refine JL_nil ?_
  refine JQ_then ?_
  refine JC_ret ?_
  refine JQ_then_ret ?_
  refine JQ_ret (.slice none 0 0) (res1 Tryd.results84 (RV_tmp rfl)) fun w1 hw1 => ?_
  exact ⟨_, [], rfl, ⟨rfl, rfl⟩, hw1.sub (by simp) (by simp)⟩

theorem sclone_c (ao : Option Addr) (n cb : Nat) (b : List UInt8) (w : World) (ha : ao.isNone = false) (hb : b.length = n) (hn : n ≤ 35184372088832) (hr : RdB w [] ao b) : Calls Tryd.prog 84 #[.slice ao n cb] w (Post w [] (fun v L => ∃ g sp cap, v = Slc g 0 n cap ∧ L = [⟨g, cu8 (b) ++ sp, 5, (0, 0)⟩] ∧ sp.length = cap - n ∧ n ≤ cap ∧ cap ≤ maxLen)) := by
  refine enter w [] 8 [] [.slice ao n cb] Tryd.func84 rfl rfl (by simp) (Hp.start (by simp) (by simp) (by simp)) ?_
  show JC _ _ _ [(0, .slice ao n cb)] _
  refine JC_seq ?_
  refine JC_region ?_
  refine JL_val _ (Ev_assign rfl) rfl ?_
  refine JL_nil ?_
  refine JQ_then ?_
  refine JC_seq ?_
  refine JC_seq ?_
  refine JC_region ?_
  refine JL_val _ (Ev_move rfl) rfl ?_
  refine JL_val (.bool ao.isNone) (Ev_bin _ _ _ rfl rfl (fun _ => eqGuard_sl ..) fun _ => eql_sl_any Tryd.underlying22) rfl ?_
  refine JL_nil ?_
  refine JQ_then ?_
  refine JC_condF _ rfl ha ?_
  refine JC_skip ?_
  refine JQ_then ?_
  refine JC_seq ?_
  refine JC_region ?_
  refine JL_step (Step_buildSlice0 5 1 Tryd.underlying22 Tryd.sizeOf5) rfl ?_
  rintro v1 L1 ⟨nb1, hnb1, rfl, rfl⟩
  show JL _ _ _ _ ((5, Slc nb1 0 0 0) :: _) [⟨nb1, [], 5, (0, 0)⟩]
  refine JL_val _ (Ev_move rfl) rfl ?_
  refine JL_step (Step_appM8 22 5 [true] (Slc nb1 0 0 0) 0 ([] : List UInt8) b ao n cb n Tryd.underlying22 Tryd.info5 rfl (.inr ⟨nb1, [], 0, rfl, (by simp [take?, cu8, cu32, cu64]), rfl, (by simp), (by omega), (by unfold maxLen; omega)⟩) rfl (by simp [hb]; try omega) (hr.src) (by omega) (by unfold maxLen; omega) (by omega)) rfl ?_
  rintro v1 L1 ⟨nb2, sp1, cp1, hg1, rfl, rfl, ha1, ha2, ha3, ha4⟩
  show JL _ _ _ _ ((7, Slc nb2 0 n cp1) :: _) [⟨nb2, cu8 (([] : List UInt8) ++ b) ++ sp1, 5, (0, 0)⟩]
  refine JL_val _ (Ev_assign rfl) rfl ?_
  refine JL_nil ?_
  refine JQ_then ?_
  refine JC_ret ?_
  refine JQ_ret (Slc nb2 0 n cp1) (res1 Tryd.results84 (RV_tmp rfl)) fun w1 hw1 => ?_
  exact ⟨_, _, rfl, ⟨nb2, sp1, cp1, rfl, rfl, ha2, ha3, ha4⟩, hw1⟩

theorem bcloneNil_c  (w : World) : Calls Tryd.prog 96 #[.slice none 0 0] w (Post w [] (fun v L => v = .slice none 0 0 ∧ L = [])) := by
  refine enter w [] 8 [] [.slice none 0 0] Tryd.func96 rfl rfl (by simp) (Hp.start (by simp) (by simp) (by simp)) ?_
  show JC _ _ _ [(0, .slice none 0 0)] _
  refine JC_seq ?_
  refine JC_region ?_
  refine JL_val _ (Ev_assign rfl) rfl ?_
  refine JL_nil ?_
  refine JQ_then ?_
  refine JC_seq ?_
  refine JC_seq ?_
  refine JC_region ?_
  refine JL_val _ (Ev_move rfl) rfl ?_
  refine JL_val (.bool true) (Ev_bin _ _ _ rfl rfl (fun _ => eqGuard_sl ..) fun _ => eql_sl_nil_nil Tryd.underlying22) rfl ?_
  refine JL_nil ?_
  refine JQ_then ?_
  refine JC_condT _ rfl rfl ?_
  refine JC_seq ?_
  refine JC_region ?_
  refine JL_val _ (Ev_assign rfl) rfl ?_
  refine JL_nil ?_
  refine JQ_then ?_
  refine JC_ret ?_
  refine JQ_then_ret ?_
  refine JQ_ret (.slice none 0 0) (res1 Tryd.results96 (RV_tmp rfl)) fun w1 hw1 => ?_
  exact ⟨_, [], rfl, ⟨rfl, rfl⟩, hw1.sub (by simp) (by simp)⟩

theorem bclone_c (ao : Option Addr) (n cb : Nat) (b : List UInt8) (w : World) (ha : ao.isNone = false) (hb : b.length = n) (hn : n ≤ 35184372088832) (hr : RdB w [] ao b) : Calls Tryd.prog 96 #[.slice ao n cb] w (Post w [] (fun v L => ∃ g sp cap, v = Slc g 0 n cap ∧ L = [⟨g, cu8 (b) ++ sp, 5, (0, 0)⟩] ∧ sp.length = cap - n ∧ n ≤ cap ∧ cap ≤ maxLen)) := by
  refine enter w [] 8 [] [.slice ao n cb] Tryd.func96 rfl rfl (by simp) (Hp.start (by simp) (by simp) (by simp)) ?_
  show JC _ _ _ [(0, .slice ao n cb)] _
  refine JC_seq ?_
  refine JC_region ?_
  refine JL_val _ (Ev_assign rfl) rfl ?_
  refine JL_nil ?_
  refine JQ_then ?_
  refine JC_seq ?_
  refine JC_seq ?_
  refine JC_region ?_
  refine JL_val _ (Ev_move rfl) rfl ?_
  refine JL_val (.bool ao.isNone) (Ev_bin _ _ _ rfl rfl (fun _ => eqGuard_sl ..) fun _ => eql_sl_any Tryd.underlying22) rfl ?_
  refine JL_nil ?_
  refine JQ_then ?_
  refine JC_condF _ rfl ha ?_
  refine JC_skip ?_
  refine JQ_then ?_
  refine JC_seq ?_
  refine JC_region ?_
  refine JL_step (Step_buildSlice0 5 1 Tryd.underlying22 Tryd.sizeOf5) rfl ?_
  rintro v1 L1 ⟨nb1, hnb1, rfl, rfl⟩
  show JL _ _ _ _ ((5, Slc nb1 0 0 0) :: _) [⟨nb1, [], 5, (0, 0)⟩]
  refine JL_val _ (Ev_move rfl) rfl ?_
  refine JL_step (Step_appM8 22 5 [true] (Slc nb1 0 0 0) 0 ([] : List UInt8) b ao n cb n Tryd.underlying22 Tryd.info5 rfl (.inr ⟨nb1, [], 0, rfl, (by simp [take?, cu8, cu32, cu64]), rfl, (by simp), (by omega), (by unfold maxLen; omega)⟩) rfl (by simp [hb]; try omega) (hr.src) (by omega) (by unfold maxLen; omega) (by omega)) rfl ?_
  rintro v1 L1 ⟨nb2, sp1, cp1, hg1, rfl, rfl, ha1, ha2, ha3, ha4⟩
  show JL _ _ _ _ ((7, Slc nb2 0 n cp1) :: _) [⟨nb2, cu8 (([] : List UInt8) ++ b) ++ sp1, 5, (0, 0)⟩]
  refine JL_val _ (Ev_assign rfl) rfl ?_
  refine JL_nil ?_
  refine JQ_then ?_
  refine JC_ret ?_
  refine JQ_ret (Slc nb2 0 n cp1) (res1 Tryd.results96 (RV_tmp rfl)) fun w1 hw1 => ?_
  exact ⟨_, _, rfl, ⟨nb2, sp1, cp1, rfl, rfl, ha2, ha3, ha4⟩, hw1⟩

theorem slc_len {b o l l' c : Nat} (h : l = l') : Slc b o l c = Slc b o l' c := by rw [h]
theorem nzP_lt (n : Nat) : nzP n < 64 := by unfold nzP; omega
theorem nzP_def (n : Nat) : nzP n = (119 - n % 64) % 64 := rfl
theorem zr8_succ (j : Nat) : zr8 (j + 1) = zr8 j ++ [0] := by rw [zr8, zr8, List.replicate_succ']

theorem padNil_c  (w : World) : Calls Tryd.prog 26 #[.slice none 0 0] w (Post w [] (fun v L => ∃ g sp cap, v = Slc g 0 (padL ([] : List UInt8)).length cap ∧ L = [⟨g, cu8 (padL ([] : List UInt8)) ++ sp, 5, (0, 0)⟩] ∧ sp.length = cap - (padL ([] : List UInt8)).length ∧ (padL ([] : List UInt8)).length ≤ cap ∧ cap ≤ maxLen)) := by
  have hnz := nzP_lt 0
  have hnd := nzP_def 0
  refine enter w [] 31 [] [.slice none 0 0] Tryd.func26 rfl rfl (by simp) (Hp.start (by simp) (by simp) (by simp)) ?_
  show JC _ _ _ [(0, .slice none 0 0)] _
  refine JC_seq ?_
  refine JC_region ?_
  refine JL_val _ (Ev_assign rfl) rfl ?_
  refine JL_nil ?_
  refine JQ_then ?_
  refine JC_seq ?_
  refine JC_region ?_
  refine JL_val _ (Ev_move rfl) rfl ?_
  refine JL_step (Step_callP 84 [.slice none 0 0] (.slice none 0 0) (Cl_func [.slice none 0 0] Tryd.call84 rfl) (fun w1 hw1 => scloneNil_c w1)) rfl ?_
  rintro v1 L1 ⟨rfl, rfl⟩
  show JL _ _ _ _ ((6, .slice none 0 0) :: _) []
  refine JL_step (Step_buildSlice 5 1 _ [(0, U8 (128:UInt8))] (cu8 ([(128:UInt8)])) Tryd.underlying22 Tryd.sizeOf5 Tryd.zeroValue5 rfl rfl rfl (by kernel_rfl)) rfl ?_
  rintro v1 L1 ⟨nb1, hnb1, rfl, rfl⟩
  show JL _ _ _ _ ((7, Slc nb1 0 1 1) :: _) [⟨nb1, cu8 ([(128:UInt8)]), 5, (0, 0)⟩]
  refine JL_step (Step_appM8 22 5 [false] (.slice none 0 0) 0 ([] : List UInt8) ([(128:UInt8)]) (some ⟨nb1, 0, none⟩) 1 1 1 Tryd.underlying22 Tryd.info5 rfl (.inl ⟨rfl, rfl, rfl, rfl, by omega⟩) rfl (by simp) (SrcAt.mem (MemAt.ent 0 rfl (Seg.whole _))) (by omega) (by unfold maxLen; omega) (by omega)) rfl ?_
  rintro v1 L1 ⟨nb2, sp1, cp1, hg1, rfl, rfl, ha1, ha2, ha3, ha4⟩
  show JL _ _ _ _ ((8, Slc nb2 0 1 cp1) :: _) [⟨nb1, cu8 ([(128:UInt8)]), 5, (0, 0)⟩, ⟨nb2, cu8 (([] : List UInt8) ++ ([(128:UInt8)])) ++ sp1, 5, (0, 0)⟩]
  refine JL_val _ (Ev_assign rfl) rfl ?_
  refine JL_nil ?_
  refine JQ_then ?_
  refine JC_seq ?_
  refine JC_block ?_
  refine K_mask [false, true] ?_
  show JC _ _ _ _ [⟨nb2, cu8 (([] : List UInt8) ++ ([(128:UInt8)])) ++ sp1, 5, (0, 0)⟩]
  refine JC_loop (ι := Nat × List UInt8 × Nat × List Value × Nat) (fun ⟨j, o, g1, sp1, cp1⟩ => [(0, .slice none 0 0), (2, .slice none 0 0), (3, Slc g1 0 (j + 1) cp1)]) (fun ⟨j, o, g1, sp1, cp1⟩ => [⟨g1, cu8 o ++ sp1, 5, (0, 0)⟩]) (fun ⟨j, o, g1, sp1, cp1⟩ => j ≤ nzP 0 ∧ o = (([] : List UInt8) ++ [(128:UInt8)]) ++ zr8 j ∧ o.length = (j + 1) ∧ sp1.length = cp1 - (j + 1) ∧ (j + 1) ≤ cp1 ∧ cp1 ≤ maxLen) (fun ⟨j, o, g1, sp1, cp1⟩ => nzP 0 - j) (0, ([] : List UInt8) ++ ([(128:UInt8)]), nb2, sp1, cp1) ⟨by omega, by simp [zr8], by simp, by have := ha2; omega, by omega, ha4⟩ (Sub.cons rfl (Sub.cons rfl (Sub.cons (some_slc (by omega)) (Sub.nil)))) rfl ?_
  rintro ⟨j, o, g1, sp1, cp1⟩ ⟨hx1, hx2, ho, hx4, hx5, hx6⟩
  show JC _ _ _ [(0, .slice none 0 0), (2, .slice none 0 0), (3, Slc g1 0 (j + 1) cp1)] [⟨g1, cu8 o ++ sp1, 5, (0, 0)⟩]
  refine JC_seq ?_
  refine JC_seq ?_
  refine JC_region ?_
  refine JL_val _ (Ev_move rfl) rfl ?_
  refine JL_val (I64 ((j:Int) + 1)) (Ev_lenX Tryd.underlying22 rfl (by omega)) rfl ?_
  obtain ⟨dq1, hdq1, hdq1a, hdq1b⟩ : ∃ q : Nat, q = (j + 1) % 64 ∧ (q : Int) = ((j:Int) + 1) % 64 ∧ (q < 64) := ⟨_, rfl, by first | rfl | omega, by omega⟩
  refine JL_val (I64 ((dq1:Int))) (Ev_bini rfl rfl fun _ => bin_rem_i _ _ ((dq1:Int)) (by omega) (by omega) (by omega)) rfl ?_
  refine JL_val (.bool (decide (((dq1:Int)) ≠ (56:Int)))) (Ev_bini rfl rfl fun _ => bin_neq_i _ _) rfl ?_
  refine JL_nil ?_
  refine JQ_then ?_
  refine JC_cond (decide (((dq1:Int)) ≠ (56:Int))) rfl (fun hb1 => ?_) (fun hb1 => ?_)
  ·
    have hp1 : ((dq1:Int)) ≠ (56:Int) := of_decide_eq_true hb1
    refine JC_skip ?_
    refine JQ_then ?_
    refine JC_block ?_
    refine JC_region ?_
    refine JL_val _ (Ev_move rfl) rfl ?_
    refine JL_step (Step_buildSlice 5 1 _ [(0, U8 (0:UInt8))] (cu8 ([(0:UInt8)])) Tryd.underlying22 Tryd.sizeOf5 Tryd.zeroValue5 rfl rfl rfl (by kernel_rfl)) rfl ?_
    rintro v1 L1 ⟨nb3, hnb3, rfl, rfl⟩
    show JL _ _ _ _ ((14, Slc nb3 0 1 1) :: _) [⟨g1, cu8 o ++ sp1, 5, (0, 0)⟩, ⟨nb3, cu8 ([(0:UInt8)]), 5, (0, 0)⟩]
    refine JL_step (Step_appM8 22 5 [true, false] (Slc g1 0 (j + 1) cp1) (j + 1) o ([(0:UInt8)]) (some ⟨nb3, 0, none⟩) 1 1 (j + 2) Tryd.underlying22 Tryd.info5 rfl (.inr ⟨g1, sp1, cp1, rfl, rfl, (by first | exact ho | simp [ho]), hx4, (by omega), (by omega)⟩) rfl (by simp) (SrcAt.mem (MemAt.ent 1 rfl (Seg.whole _))) (by omega) (by unfold maxLen; omega) (by omega)) rfl ?_
    rintro v1 L1 ⟨nb4, sp2, cp2, hg2, rfl, rfl, ha5, ha6, ha7, ha8⟩
    show JL _ _ _ _ ((15, Slc nb4 0 (j + 2) cp2) :: _) [⟨nb3, cu8 ([(0:UInt8)]), 5, (0, 0)⟩, ⟨nb4, cu8 (o ++ ([(0:UInt8)])) ++ sp2, 5, (0, 0)⟩]
    refine JL_val _ (Ev_assign rfl) rfl ?_
    refine JL_nil ?_
    refine JQ_in_normal ?_
    refine JQ_thenK ?_
    refine K_mask [false, true] ?_
    show K _ _ [⟨nb4, cu8 (o ++ ([(0:UInt8)])) ++ sp2, 5, (0, 0)⟩] _
    refine K_next (j + 1, o ++ ([(0:UInt8)]), nb4, sp2, cp2) ⟨by omega, by rw [hx2, zr8_succ, List.append_assoc], (ha5).trans (by first | rfl | simp +arith), (ha6).trans (by first | rfl | simp +arith), by omega, ha8⟩ (by first | (simp; omega) | simp) (Sub.cons rfl (Sub.cons rfl (Sub.cons (some_slc (by omega)) (Sub.nil)))) rfl
  ·
    have hp1 : ¬ (((dq1:Int)) ≠ (56:Int)) := of_decide_eq_false hb1
    refine JC_exit ?_
    refine JQ_then_exit ?_
    refine JQ_then_exit ?_
    refine JQ_in_same ?_
    refine JQ_then ?_
    refine JC_seq ?_
    refine JC_seq ?_
    refine JC_region ?_
    refine JL_val _ (Ev_assign rfl) rfl ?_
    refine JL_nil ?_
    refine JQ_then ?_
    refine JC_block ?_
    have ej : j = nzP 0 := by omega
    have ejb : nzP 0 < 64 := by omega
    refine JC_loop (ι := Nat × List UInt8 × Nat × List Value × Nat) (fun ⟨i, o2, g2, sp2, cp2⟩ => [(0, .slice none 0 0), (2, .slice none 0 0), (3, Slc g2 0 (i + j + 1) cp2), (4, I64 (-8*(i:Int) + 56))]) (fun ⟨i, o2, g2, sp2, cp2⟩ => [⟨g2, cu8 o2 ++ sp2, 5, (0, 0)⟩]) (fun ⟨i, o2, g2, sp2, cp2⟩ => i ≤ 8 ∧ o2 = o ++ lenN 0 i ∧ o2.length = (i + j + 1) ∧ sp2.length = cp2 - (i + j + 1) ∧ (i + j + 1) ≤ cp2 ∧ cp2 ≤ maxLen) (fun ⟨i, o2, g2, sp2, cp2⟩ => 8 - i) (0, o, g1, sp1, cp1) ⟨by omega, by simp [lenN], by omega, by omega, by omega, hx6⟩ (Sub.cons rfl (Sub.cons rfl (Sub.cons (some_slc (by omega)) (Sub.cons (some_i64 (by omega)) (Sub.nil))))) rfl ?_
    rintro ⟨i, o2, g2, sp2, cp2⟩ ⟨hy1, hy2, ho2, hy4, hy5, hy6⟩
    show JC _ _ _ [(0, .slice none 0 0), (2, .slice none 0 0), (3, Slc g2 0 (i + j + 1) cp2), (4, I64 (-8*(i:Int) + 56))] [⟨g2, cu8 o2 ++ sp2, 5, (0, 0)⟩]
    refine JC_seq ?_
    refine JC_seq ?_
    refine JC_region ?_
    refine JL_val _ (Ev_move rfl) rfl ?_
    refine JL_val (.bool (decide ((0:Int) ≤ (-8*(i:Int) + 56)))) (Ev_bini rfl rfl fun _ => bin_geq_i _ _) rfl ?_
    refine JL_nil ?_
    refine JQ_then ?_
    refine JC_cond (decide ((0:Int) ≤ (-8*(i:Int) + 56))) rfl (fun hb2 => ?_) (fun hb2 => ?_)
    ·
      have hp2 : (0:Int) ≤ (-8*(i:Int) + 56) := of_decide_eq_true hb2
      refine JC_skip ?_
      refine JQ_then ?_
      refine JC_seq ?_
      refine JC_block ?_
      refine JC_region ?_
      refine JL_val _ (Ev_move rfl) rfl ?_
      refine JL_val _ (Ev_move rfl) rfl ?_
      refine JL_val (I64 (0:Int)) (Ev_len Tryd.underlying22 rfl) rfl ?_
      refine JL_val (U64 (0:UInt64)) (Ev_conv _ _ rfl fun _ => conv_lit (by rw [Tryd.underlying3]; rfl) Tryd.underlying58 rfl) rfl ?_
      refine JL_val (U64 ((8:UInt64) * (0:UInt64))) (Ev_bini rfl rfl fun _ => bin_mul_u64 (8:UInt64) (0:UInt64)) rfl ?_
      refine JL_val _ (Ev_move rfl) rfl ?_
      refine JL_val (U64 (((8:UInt64) * (0:UInt64)) >>> UInt64.ofNat (56 - 8*i))) (Ev_bini rfl rfl fun _ => bin_shr_u64 ((8:UInt64) * (0:UInt64)) _ _ (56 - 8*i) (by omega) (by omega)) rfl ?_
      refine JL_val (U8 ((((8:UInt64) * (0:UInt64)) >>> UInt64.ofNat (56 - 8*i)).toUInt8)) (Ev_conv _ _ rfl fun _ => conv_u64_u8 (by rw [Tryd.underlying58]; rfl) Tryd.underlying5 _) rfl ?_
      refine JL_step (Step_buildSlice 5 1 _ [(0, U8 ((((8:UInt64) * (0:UInt64)) >>> UInt64.ofNat (56 - 8*i)).toUInt8))] (cu8 ([(((8:UInt64) * (0:UInt64)) >>> UInt64.ofNat (56 - 8*i)).toUInt8])) Tryd.underlying22 Tryd.sizeOf5 Tryd.zeroValue5 rfl rfl rfl (by kernel_rfl)) rfl ?_
      rintro v1 L1 ⟨nb5, hnb5, rfl, rfl⟩
      show JL _ _ _ _ ((28, Slc nb5 0 1 1) :: _) [⟨g2, cu8 o2 ++ sp2, 5, (0, 0)⟩, ⟨nb5, cu8 ([(((8:UInt64) * (0:UInt64)) >>> UInt64.ofNat (56 - 8*i)).toUInt8]), 5, (0, 0)⟩]
      refine JL_step (Step_appM8 22 5 [true, false] (Slc g2 0 (i + j + 1) cp2) (i + j + 1) o2 ([(((8:UInt64) * (0:UInt64)) >>> UInt64.ofNat (56 - 8*i)).toUInt8]) (some ⟨nb5, 0, none⟩) 1 1 (i + j + 2) Tryd.underlying22 Tryd.info5 rfl (.inr ⟨g2, sp2, cp2, rfl, rfl, (by first | exact ho2 | simp [ho2]), hy4, (by omega), (by omega)⟩) rfl (by simp) (SrcAt.mem (MemAt.ent 1 rfl (Seg.whole _))) (by omega) (by unfold maxLen; omega) (by omega)) rfl ?_
      rintro v1 L1 ⟨nb6, sp3, cp3, hg3, rfl, rfl, ha9, ha10, ha11, ha12⟩
      show JL _ _ _ _ ((29, Slc nb6 0 (i + j + 2) cp3) :: _) [⟨nb5, cu8 ([(((8:UInt64) * (0:UInt64)) >>> UInt64.ofNat (56 - 8*i)).toUInt8]), 5, (0, 0)⟩, ⟨nb6, cu8 (o2 ++ ([(((8:UInt64) * (0:UInt64)) >>> UInt64.ofNat (56 - 8*i)).toUInt8])) ++ sp3, 5, (0, 0)⟩]
      refine JL_val _ (Ev_assign rfl) rfl ?_
      refine JL_nil ?_
      refine JQ_in_normal ?_
      refine JQ_then ?_
      refine JC_region ?_
      refine JL_val _ (Ev_move rfl) rfl ?_
      refine JL_val (I64 (-8*(i:Int) + 48)) (Ev_bini rfl rfl fun _ => bin_sub_i _ _ (-8*(i:Int) + 48) (by omega) (by omega)) rfl ?_
      refine JL_val _ (Ev_assign rfl) rfl ?_
      refine JL_nil ?_
      refine JQ_thenK ?_
      refine K_mask [false, true] ?_
      show K _ _ [⟨nb6, cu8 (o2 ++ ([(((8:UInt64) * (0:UInt64)) >>> UInt64.ofNat (56 - 8*i)).toUInt8])) ++ sp3, 5, (0, 0)⟩] _
      refine K_next (i + 1, o2 ++ ([(((8:UInt64) * (0:UInt64)) >>> UInt64.ofNat (56 - 8*i)).toUInt8]), nb6, sp3, cp3) ⟨by omega, by rw [hy2, lenN, List.append_assoc]; rfl, (ha9).trans (by first | rfl | simp +arith), (ha10).trans (by first | rfl | simp +arith), by omega, ha12⟩ (by first | (simp; omega) | simp) (Sub.cons rfl (Sub.cons rfl (Sub.cons (some_slc (by omega)) (Sub.cons (some_i64 (by omega)) (Sub.nil))))) rfl
    ·
      have hp2 : ¬ ((0:Int) ≤ (-8*(i:Int) + 56)) := of_decide_eq_false hb2
      refine JC_exit ?_
      refine JQ_then_exit ?_
      refine JQ_then_exit ?_
      refine JQ_in_same ?_
      refine JQ_then ?_
      refine JC_seq ?_
      refine JC_region ?_
      refine JL_val _ (Ev_move rfl) rfl ?_
      refine JL_val _ (Ev_assign rfl) rfl ?_
      refine JL_nil ?_
      refine JQ_then ?_
      refine JC_ret ?_
      refine JQ_ret (Slc g2 0 (i + j + 1) cp2) (res1 Tryd.results26 (RV_tmp rfl)) fun w1 hw1 => ?_
      have e1 : i = 8 := by omega
      subst e1
      have e2 : o2 = padL ([] : List UInt8) := by rw [hy2, hx2, padL, List.length_nil, ej]
      rw [e2] at hw1
      exact ⟨_, _, rfl, ⟨g2, sp2, cp2, slc_len (by rw [padL_len, List.length_nil, ← ej]; simp +arith), rfl, by rw [hy4]; rw [padL_len, List.length_nil, ← ej]; simp +arith, by refine Nat.le_trans (Nat.le_of_eq ?_) hy5; rw [padL_len, List.length_nil, ← ej]; simp +arith, hy6⟩, hw1.sub (by simp) (by simp)⟩

theorem pad_c (ao : Option Addr) (n cb : Nat) (b : List UInt8) (w : World) (ha : ao.isNone = false) (hb : b.length = n) (hn : n ≤ 17592186044416) (hr : RdB w [] ao b) : Calls Tryd.prog 26 #[.slice ao n cb] w (Post w [] (fun v L => ∃ g sp cap, v = Slc g 0 (padL b).length cap ∧ L = [⟨g, cu8 (padL b) ++ sp, 5, (0, 0)⟩] ∧ sp.length = cap - (padL b).length ∧ (padL b).length ≤ cap ∧ cap ≤ maxLen)) := by
  have hnz := nzP_lt n
  have hnd := nzP_def n
  refine enter w [] 31 [] [.slice ao n cb] Tryd.func26 rfl rfl (by simp) (Hp.start (by simp) (by simp) (by simp)) ?_
  show JC _ _ _ [(0, .slice ao n cb)] _
  refine JC_seq ?_
  refine JC_region ?_
  refine JL_val _ (Ev_assign rfl) rfl ?_
  refine JL_nil ?_
  refine JQ_then ?_
  refine JC_seq ?_
  refine JC_region ?_
  refine JL_val _ (Ev_move rfl) rfl ?_
  refine JL_step (Step_callN 84 [.slice ao n cb] _ (Cl_func [.slice ao n cb] Tryd.call84 rfl) (fun w1 hw1 => sclone_c ao n cb b w1 ha hb (by omega) (hr.at (M' := []) hw1 (by simp)))) rfl ?_
  rintro v1 L1 ⟨_, ⟨nb1, sp1, cp1, rfl, rfl, hc1, hc2, hc3⟩, rfl⟩
  show JL _ _ _ _ ((6, Slc nb1 0 n cp1) :: _) [⟨nb1, cu8 b ++ sp1, 5, (0, 0)⟩]
  refine JL_step (Step_buildSlice 5 1 _ [(0, U8 (128:UInt8))] (cu8 ([(128:UInt8)])) Tryd.underlying22 Tryd.sizeOf5 Tryd.zeroValue5 rfl rfl rfl (by kernel_rfl)) rfl ?_
  rintro v1 L1 ⟨nb2, hnb2, rfl, rfl⟩
  show JL _ _ _ _ ((7, Slc nb2 0 1 1) :: _) [⟨nb1, cu8 b ++ sp1, 5, (0, 0)⟩, ⟨nb2, cu8 ([(128:UInt8)]), 5, (0, 0)⟩]
  refine JL_step (Step_appM8 22 5 [true, false] (Slc nb1 0 n cp1) n b ([(128:UInt8)]) (some ⟨nb2, 0, none⟩) 1 1 (n + 1) Tryd.underlying22 Tryd.info5 rfl (.inr ⟨nb1, sp1, cp1, rfl, rfl, (by first | exact hb | simp [hb]), hc1, (by omega), (by omega)⟩) rfl (by simp) (SrcAt.mem (MemAt.ent 1 rfl (Seg.whole _))) (by omega) (by unfold maxLen; omega) (by omega)) rfl ?_
  rintro v1 L1 ⟨nb3, sp2, cp2, hg1, rfl, rfl, ha1, ha2, ha3, ha4⟩
  show JL _ _ _ _ ((8, Slc nb3 0 (n + 1) cp2) :: _) [⟨nb2, cu8 ([(128:UInt8)]), 5, (0, 0)⟩, ⟨nb3, cu8 (b ++ ([(128:UInt8)])) ++ sp2, 5, (0, 0)⟩]
  refine JL_val _ (Ev_assign rfl) rfl ?_
  refine JL_nil ?_
  refine JQ_then ?_
  refine JC_seq ?_
  refine JC_block ?_
  refine K_mask [false, true] ?_
  show JC _ _ _ _ [⟨nb3, cu8 (b ++ ([(128:UInt8)])) ++ sp2, 5, (0, 0)⟩]
  refine JC_loop (ι := Nat × List UInt8 × Nat × List Value × Nat) (fun ⟨j, o, g1, sp1, cp1⟩ => [(0, .slice ao n cb), (2, .slice none 0 0), (3, Slc g1 0 (j + n + 1) cp1)]) (fun ⟨j, o, g1, sp1, cp1⟩ => [⟨g1, cu8 o ++ sp1, 5, (0, 0)⟩]) (fun ⟨j, o, g1, sp1, cp1⟩ => j ≤ nzP n ∧ o = (b ++ [(128:UInt8)]) ++ zr8 j ∧ o.length = (j + n + 1) ∧ sp1.length = cp1 - (j + n + 1) ∧ (j + n + 1) ≤ cp1 ∧ cp1 ≤ maxLen) (fun ⟨j, o, g1, sp1, cp1⟩ => nzP n - j) (0, b ++ ([(128:UInt8)]), nb3, sp2, cp2) ⟨by omega, by simp [zr8], by simp [hb], by have := ha2; omega, by omega, ha4⟩ (Sub.cons rfl (Sub.cons rfl (Sub.cons (some_slc (by omega)) (Sub.nil)))) rfl ?_
  rintro ⟨j, o, g1, sp1, cp1⟩ ⟨hx1, hx2, ho, hx4, hx5, hx6⟩
  show JC _ _ _ [(0, .slice ao n cb), (2, .slice none 0 0), (3, Slc g1 0 (j + n + 1) cp1)] [⟨g1, cu8 o ++ sp1, 5, (0, 0)⟩]
  refine JC_seq ?_
  refine JC_seq ?_
  refine JC_region ?_
  refine JL_val _ (Ev_move rfl) rfl ?_
  refine JL_val (I64 ((j:Int) + (n:Int) + 1)) (Ev_lenX Tryd.underlying22 rfl (by omega)) rfl ?_
  obtain ⟨dq1, hdq1, hdq1a, hdq1b⟩ : ∃ q : Nat, q = (j + n + 1) % 64 ∧ (q : Int) = ((j:Int) + (n:Int) + 1) % 64 ∧ (q < 64) := ⟨_, rfl, by first | rfl | omega, by omega⟩
  refine JL_val (I64 ((dq1:Int))) (Ev_bini rfl rfl fun _ => bin_rem_i _ _ ((dq1:Int)) (by omega) (by omega) (by omega)) rfl ?_
  refine JL_val (.bool (decide (((dq1:Int)) ≠ (56:Int)))) (Ev_bini rfl rfl fun _ => bin_neq_i _ _) rfl ?_
  refine JL_nil ?_
  refine JQ_then ?_
  refine JC_cond (decide (((dq1:Int)) ≠ (56:Int))) rfl (fun hb1 => ?_) (fun hb1 => ?_)
  ·
    have hp1 : ((dq1:Int)) ≠ (56:Int) := of_decide_eq_true hb1
    refine JC_skip ?_
    refine JQ_then ?_
    refine JC_block ?_
    refine JC_region ?_
    refine JL_val _ (Ev_move rfl) rfl ?_
    refine JL_step (Step_buildSlice 5 1 _ [(0, U8 (0:UInt8))] (cu8 ([(0:UInt8)])) Tryd.underlying22 Tryd.sizeOf5 Tryd.zeroValue5 rfl rfl rfl (by kernel_rfl)) rfl ?_
    rintro v1 L1 ⟨nb4, hnb4, rfl, rfl⟩
    show JL _ _ _ _ ((14, Slc nb4 0 1 1) :: _) [⟨g1, cu8 o ++ sp1, 5, (0, 0)⟩, ⟨nb4, cu8 ([(0:UInt8)]), 5, (0, 0)⟩]
    refine JL_step (Step_appM8 22 5 [true, false] (Slc g1 0 (j + n + 1) cp1) (j + n + 1) o ([(0:UInt8)]) (some ⟨nb4, 0, none⟩) 1 1 (j + n + 2) Tryd.underlying22 Tryd.info5 rfl (.inr ⟨g1, sp1, cp1, rfl, rfl, (by first | exact ho | simp [ho]), hx4, (by omega), (by omega)⟩) rfl (by simp) (SrcAt.mem (MemAt.ent 1 rfl (Seg.whole _))) (by omega) (by unfold maxLen; omega) (by omega)) rfl ?_
    rintro v1 L1 ⟨nb5, sp3, cp3, hg2, rfl, rfl, ha5, ha6, ha7, ha8⟩
    show JL _ _ _ _ ((15, Slc nb5 0 (j + n + 2) cp3) :: _) [⟨nb4, cu8 ([(0:UInt8)]), 5, (0, 0)⟩, ⟨nb5, cu8 (o ++ ([(0:UInt8)])) ++ sp3, 5, (0, 0)⟩]
    refine JL_val _ (Ev_assign rfl) rfl ?_
    refine JL_nil ?_
    refine JQ_in_normal ?_
    refine JQ_thenK ?_
    refine K_mask [false, true] ?_
    show K _ _ [⟨nb5, cu8 (o ++ ([(0:UInt8)])) ++ sp3, 5, (0, 0)⟩] _
    refine K_next (j + 1, o ++ ([(0:UInt8)]), nb5, sp3, cp3) ⟨by omega, by rw [hx2, zr8_succ, List.append_assoc], (ha5).trans (by first | rfl | simp +arith), (ha6).trans (by first | rfl | simp +arith), by omega, ha8⟩ (by first | (simp; omega) | simp) (Sub.cons rfl (Sub.cons rfl (Sub.cons (some_slc (by omega)) (Sub.nil)))) rfl
  ·
    have hp1 : ¬ (((dq1:Int)) ≠ (56:Int)) := of_decide_eq_false hb1
    refine JC_exit ?_
    refine JQ_then_exit ?_
    refine JQ_then_exit ?_
    refine JQ_in_same ?_
    refine JQ_then ?_
    refine JC_seq ?_
    refine JC_seq ?_
    refine JC_region ?_
    refine JL_val _ (Ev_assign rfl) rfl ?_
    refine JL_nil ?_
    refine JQ_then ?_
    refine JC_block ?_
    have ej : j = nzP n := by omega
    have ejb : nzP n < 64 := by omega
    refine JC_loop (ι := Nat × List UInt8 × Nat × List Value × Nat) (fun ⟨i, o2, g2, sp2, cp2⟩ => [(0, .slice ao n cb), (2, .slice none 0 0), (3, Slc g2 0 (i + j + n + 1) cp2), (4, I64 (-8*(i:Int) + 56))]) (fun ⟨i, o2, g2, sp2, cp2⟩ => [⟨g2, cu8 o2 ++ sp2, 5, (0, 0)⟩]) (fun ⟨i, o2, g2, sp2, cp2⟩ => i ≤ 8 ∧ o2 = o ++ lenN n i ∧ o2.length = (i + j + n + 1) ∧ sp2.length = cp2 - (i + j + n + 1) ∧ (i + j + n + 1) ≤ cp2 ∧ cp2 ≤ maxLen) (fun ⟨i, o2, g2, sp2, cp2⟩ => 8 - i) (0, o, g1, sp1, cp1) ⟨by omega, by simp [lenN], by omega, by omega, by omega, hx6⟩ (Sub.cons rfl (Sub.cons rfl (Sub.cons (some_slc (by omega)) (Sub.cons (some_i64 (by omega)) (Sub.nil))))) rfl ?_
    rintro ⟨i, o2, g2, sp2, cp2⟩ ⟨hy1, hy2, ho2, hy4, hy5, hy6⟩
    show JC _ _ _ [(0, .slice ao n cb), (2, .slice none 0 0), (3, Slc g2 0 (i + j + n + 1) cp2), (4, I64 (-8*(i:Int) + 56))] [⟨g2, cu8 o2 ++ sp2, 5, (0, 0)⟩]
    refine JC_seq ?_
    refine JC_seq ?_
    refine JC_region ?_
    refine JL_val _ (Ev_move rfl) rfl ?_
    refine JL_val (.bool (decide ((0:Int) ≤ (-8*(i:Int) + 56)))) (Ev_bini rfl rfl fun _ => bin_geq_i _ _) rfl ?_
    refine JL_nil ?_
    refine JQ_then ?_
    refine JC_cond (decide ((0:Int) ≤ (-8*(i:Int) + 56))) rfl (fun hb2 => ?_) (fun hb2 => ?_)
    ·
      have hp2 : (0:Int) ≤ (-8*(i:Int) + 56) := of_decide_eq_true hb2
      refine JC_skip ?_
      refine JQ_then ?_
      refine JC_seq ?_
      refine JC_block ?_
      refine JC_region ?_
      refine JL_val _ (Ev_move rfl) rfl ?_
      refine JL_val _ (Ev_move rfl) rfl ?_
      refine JL_val (I64 ((n:Int))) (Ev_len Tryd.underlying22 rfl) rfl ?_
      refine JL_val (U64 (UInt64.ofNat n)) (Ev_conv _ _ rfl fun _ => conv_i64_u64 (by rw [Tryd.underlying3]; rfl) Tryd.underlying58 n _ (by omega)) rfl ?_
      refine JL_val (U64 ((8:UInt64) * (UInt64.ofNat n))) (Ev_bini rfl rfl fun _ => bin_mul_u64 (8:UInt64) (UInt64.ofNat n)) rfl ?_
      refine JL_val _ (Ev_move rfl) rfl ?_
      refine JL_val (U64 (((8:UInt64) * (UInt64.ofNat n)) >>> UInt64.ofNat (56 - 8*i))) (Ev_bini rfl rfl fun _ => bin_shr_u64 ((8:UInt64) * (UInt64.ofNat n)) _ _ (56 - 8*i) (by omega) (by omega)) rfl ?_
      refine JL_val (U8 ((((8:UInt64) * (UInt64.ofNat n)) >>> UInt64.ofNat (56 - 8*i)).toUInt8)) (Ev_conv _ _ rfl fun _ => conv_u64_u8 (by rw [Tryd.underlying58]; rfl) Tryd.underlying5 _) rfl ?_
      refine JL_step (Step_buildSlice 5 1 _ [(0, U8 ((((8:UInt64) * (UInt64.ofNat n)) >>> UInt64.ofNat (56 - 8*i)).toUInt8))] (cu8 ([(((8:UInt64) * (UInt64.ofNat n)) >>> UInt64.ofNat (56 - 8*i)).toUInt8])) Tryd.underlying22 Tryd.sizeOf5 Tryd.zeroValue5 rfl rfl rfl (by kernel_rfl)) rfl ?_
      rintro v1 L1 ⟨nb6, hnb6, rfl, rfl⟩
      show JL _ _ _ _ ((28, Slc nb6 0 1 1) :: _) [⟨g2, cu8 o2 ++ sp2, 5, (0, 0)⟩, ⟨nb6, cu8 ([(((8:UInt64) * (UInt64.ofNat n)) >>> UInt64.ofNat (56 - 8*i)).toUInt8]), 5, (0, 0)⟩]
      refine JL_step (Step_appM8 22 5 [true, false] (Slc g2 0 (i + j + n + 1) cp2) (i + j + n + 1) o2 ([(((8:UInt64) * (UInt64.ofNat n)) >>> UInt64.ofNat (56 - 8*i)).toUInt8]) (some ⟨nb6, 0, none⟩) 1 1 (i + j + n + 2) Tryd.underlying22 Tryd.info5 rfl (.inr ⟨g2, sp2, cp2, rfl, rfl, (by first | exact ho2 | simp [ho2]), hy4, (by omega), (by omega)⟩) rfl (by simp) (SrcAt.mem (MemAt.ent 1 rfl (Seg.whole _))) (by omega) (by unfold maxLen; omega) (by omega)) rfl ?_
      rintro v1 L1 ⟨nb7, sp4, cp4, hg3, rfl, rfl, ha9, ha10, ha11, ha12⟩
      show JL _ _ _ _ ((29, Slc nb7 0 (i + j + n + 2) cp4) :: _) [⟨nb6, cu8 ([(((8:UInt64) * (UInt64.ofNat n)) >>> UInt64.ofNat (56 - 8*i)).toUInt8]), 5, (0, 0)⟩, ⟨nb7, cu8 (o2 ++ ([(((8:UInt64) * (UInt64.ofNat n)) >>> UInt64.ofNat (56 - 8*i)).toUInt8])) ++ sp4, 5, (0, 0)⟩]
      refine JL_val _ (Ev_assign rfl) rfl ?_
      refine JL_nil ?_
      refine JQ_in_normal ?_
      refine JQ_then ?_
      refine JC_region ?_
      refine JL_val _ (Ev_move rfl) rfl ?_
      refine JL_val (I64 (-8*(i:Int) + 48)) (Ev_bini rfl rfl fun _ => bin_sub_i _ _ (-8*(i:Int) + 48) (by omega) (by omega)) rfl ?_
      refine JL_val _ (Ev_assign rfl) rfl ?_
      refine JL_nil ?_
      refine JQ_thenK ?_
      refine K_mask [false, true] ?_
      show K _ _ [⟨nb7, cu8 (o2 ++ ([(((8:UInt64) * (UInt64.ofNat n)) >>> UInt64.ofNat (56 - 8*i)).toUInt8])) ++ sp4, 5, (0, 0)⟩] _
      refine K_next (i + 1, o2 ++ ([(((8:UInt64) * (UInt64.ofNat n)) >>> UInt64.ofNat (56 - 8*i)).toUInt8]), nb7, sp4, cp4) ⟨by omega, by rw [hy2, lenN, List.append_assoc], (ha9).trans (by first | rfl | simp +arith), (ha10).trans (by first | rfl | simp +arith), by omega, ha12⟩ (by first | (simp; omega) | simp) (Sub.cons rfl (Sub.cons rfl (Sub.cons (some_slc (by omega)) (Sub.cons (some_i64 (by omega)) (Sub.nil))))) rfl
    ·
      have hp2 : ¬ ((0:Int) ≤ (-8*(i:Int) + 56)) := of_decide_eq_false hb2
      refine JC_exit ?_
      refine JQ_then_exit ?_
      refine JQ_then_exit ?_
      refine JQ_in_same ?_
      refine JQ_then ?_
      refine JC_seq ?_
      refine JC_region ?_
      refine JL_val _ (Ev_move rfl) rfl ?_
      refine JL_val _ (Ev_assign rfl) rfl ?_
      refine JL_nil ?_
      refine JQ_then ?_
      refine JC_ret ?_
      refine JQ_ret (Slc g2 0 (i + j + n + 1) cp2) (res1 Tryd.results26 (RV_tmp rfl)) fun w1 hw1 => ?_
      have e1 : i = 8 := by omega
      subst e1
      have e2 : o2 = padL b := by rw [hy2, hx2, padL, hb, ej]
      rw [e2] at hw1
      exact ⟨_, _, rfl, ⟨g2, sp2, cp2, slc_len (by rw [padL_len, hb, ← ej]; simp +arith), rfl, by rw [hy4]; rw [padL_len, hb, ← ej]; simp +arith, by refine Nat.le_trans (Nat.le_of_eq ?_) hy5; rw [padL_len, hb, ← ej]; simp +arith, hy6⟩, hw1.sub (by simp) (by simp)⟩

theorem rpadNil_c  (w : World) : Calls Tryd.prog 27 #[.slice none 0 0] w (Post w [] (fun v L => ∃ g sp cap, v = Slc g 0 (padL ([] : List UInt8)).length cap ∧ L = [⟨g, cu8 (padL ([] : List UInt8)) ++ sp, 5, (0, 0)⟩] ∧ sp.length = cap - (padL ([] : List UInt8)).length ∧ (padL ([] : List UInt8)).length ≤ cap ∧ cap ≤ maxLen)) := by
  have hnz := nzP_lt 0
  have hnd := nzP_def 0
  refine enter w [] 45 [] [.slice none 0 0] Tryd.func27 rfl rfl (by simp) (Hp.start (by simp) (by simp) (by simp)) ?_
  show JC _ _ _ [(0, .slice none 0 0)] _
  refine JC_seq ?_
  refine JC_region ?_
  refine JL_val _ (Ev_assign rfl) rfl ?_
  refine JL_nil ?_
  refine JQ_then ?_
  refine JC_seq ?_
  refine JC_region ?_
  refine JL_val _ (Ev_move rfl) rfl ?_
  refine JL_val (I64 (0:Int)) (Ev_len Tryd.underlying22 rfl) rfl ?_
  refine JL_val (I64 (0:Int)) (Ev_bini rfl rfl fun _ => bin_rem_i _ _ (0:Int) (by omega) (by omega) (by omega)) rfl ?_
  refine JL_val (I64 (119:Int)) (Ev_bini rfl rfl fun _ => bin_sub_i _ _ (119:Int) (by omega) (by omega)) rfl ?_
  refine JL_val (I64 (55:Int)) (Ev_bini rfl rfl fun _ => bin_rem_i _ _ (55:Int) (by omega) (by omega) (by omega)) rfl ?_
  refine JL_val _ (Ev_assign rfl) rfl ?_
  refine JL_nil ?_
  refine JQ_then ?_
  refine JC_seq ?_
  refine JC_region ?_
  refine JL_step (Step_buildSlice0 5 1 Tryd.underlying22 Tryd.sizeOf5) rfl ?_
  rintro v1 L1 ⟨nb1, hnb1, rfl, rfl⟩
  show JL _ _ _ _ ((13, Slc nb1 0 0 0) :: _) [⟨nb1, [], 5, (0, 0)⟩]
  refine JL_val _ (Ev_move rfl) rfl ?_
  refine JL_step (Step_appM8 22 5 [true] (Slc nb1 0 0 0) 0 ([] : List UInt8) ([] : List UInt8) none 0 0 0 Tryd.underlying22 Tryd.info5 rfl (.inr ⟨nb1, [], 0, rfl, (by simp [take?, cu8, cu32, cu64]), rfl, (by simp), (by omega), (by unfold maxLen; omega)⟩) rfl rfl (SrcAt.nil) (by omega) (by unfold maxLen; omega) (by omega)) rfl ?_
  rintro v1 L1 ⟨nb2, sp1, cp1, hg1, rfl, rfl, ha1, ha2, ha3, ha4⟩
  show JL _ _ _ _ ((15, Slc nb2 0 0 cp1) :: _) [⟨nb2, cu8 (([] : List UInt8) ++ ([] : List UInt8)) ++ sp1, 5, (0, 0)⟩]
  refine JL_val _ (Ev_assign rfl) rfl ?_
  refine JL_nil ?_
  refine JQ_then ?_
  refine JC_seq ?_
  refine JC_region ?_
  refine JL_val _ (Ev_move rfl) rfl ?_
  refine JL_step (Step_buildSlice 5 1 _ [(0, U8 (128:UInt8))] (cu8 ([(128:UInt8)])) Tryd.underlying22 Tryd.sizeOf5 Tryd.zeroValue5 rfl rfl rfl (by kernel_rfl)) rfl ?_
  rintro v1 L1 ⟨nb3, hnb3, rfl, rfl⟩
  show JL _ _ _ _ ((17, Slc nb3 0 1 1) :: _) [⟨nb2, cu8 (([] : List UInt8) ++ ([] : List UInt8)) ++ sp1, 5, (0, 0)⟩, ⟨nb3, cu8 ([(128:UInt8)]), 5, (0, 0)⟩]
  refine JL_step (Step_appM8 22 5 [true, false] (Slc nb2 0 0 cp1) 0 (([] : List UInt8) ++ ([] : List UInt8)) ([(128:UInt8)]) (some ⟨nb3, 0, none⟩) 1 1 1 Tryd.underlying22 Tryd.info5 rfl (.inr ⟨nb2, sp1, cp1, rfl, rfl, (by first | exact ha1 | simp [ha1]), ha2, (by omega), (by omega)⟩) rfl (by simp) (SrcAt.mem (MemAt.ent 1 rfl (Seg.whole _))) (by omega) (by unfold maxLen; omega) (by omega)) rfl ?_
  rintro v1 L1 ⟨nb4, sp2, cp2, hg2, rfl, rfl, ha5, ha6, ha7, ha8⟩
  show JL _ _ _ _ ((18, Slc nb4 0 1 cp2) :: _) [⟨nb3, cu8 ([(128:UInt8)]), 5, (0, 0)⟩, ⟨nb4, cu8 ((([] : List UInt8) ++ ([] : List UInt8)) ++ ([(128:UInt8)])) ++ sp2, 5, (0, 0)⟩]
  refine JL_val _ (Ev_assign rfl) rfl ?_
  refine JL_nil ?_
  refine JQ_then ?_
  refine JC_seq ?_
  refine JC_seq ?_
  refine JC_region ?_
  refine JL_val _ (Ev_assign rfl) rfl ?_
  refine JL_nil ?_
  refine JQ_then ?_
  refine JC_block ?_
  refine K_mask [false, true] ?_
  show JC _ _ _ _ [⟨nb4, cu8 ((([] : List UInt8) ++ ([] : List UInt8)) ++ ([(128:UInt8)])) ++ sp2, 5, (0, 0)⟩]
  refine JC_loop (ι := Nat × List UInt8 × Nat × List Value × Nat) (fun ⟨j, o, g1, sp1, cp1⟩ => [(0, .slice none 0 0), (2, .slice none 0 0), (3, I64 (55:Int)), (4, Slc g1 0 (j + 1) cp1), (5, I64 ((j:Int)))]) (fun ⟨j, o, g1, sp1, cp1⟩ => [⟨g1, cu8 o ++ sp1, 5, (0, 0)⟩]) (fun ⟨j, o, g1, sp1, cp1⟩ => j ≤ nzP 0 ∧ o = (([] : List UInt8) ++ [(128:UInt8)]) ++ zr8 j ∧ o.length = (j + 1) ∧ sp1.length = cp1 - (j + 1) ∧ (j + 1) ≤ cp1 ∧ cp1 ≤ maxLen) (fun ⟨j, o, g1, sp1, cp1⟩ => nzP 0 - j) (0, (([] : List UInt8) ++ ([] : List UInt8)) ++ ([(128:UInt8)]), nb4, sp2, cp2) ⟨by omega, by simp [zr8], by simp, by have := ha6; omega, by omega, ha8⟩ (Sub.cons rfl (Sub.cons rfl (Sub.cons rfl (Sub.cons (some_slc (by omega)) (Sub.cons rfl (Sub.nil)))))) rfl ?_
  rintro ⟨j, o, g1, sp1, cp1⟩ ⟨hx1, hx2, ho, hx4, hx5, hx6⟩
  show JC _ _ _ [(0, .slice none 0 0), (2, .slice none 0 0), (3, I64 (55:Int)), (4, Slc g1 0 (j + 1) cp1), (5, I64 ((j:Int)))] [⟨g1, cu8 o ++ sp1, 5, (0, 0)⟩]
  refine JC_seq ?_
  refine JC_seq ?_
  refine JC_region ?_
  refine JL_val _ (Ev_move rfl) rfl ?_
  refine JL_val _ (Ev_move rfl) rfl ?_
  refine JL_val (.bool (decide (((j:Int)) < (55:Int)))) (Ev_bini rfl rfl fun _ => bin_lss_i _ _) rfl ?_
  refine JL_nil ?_
  refine JQ_then ?_
  refine JC_cond (decide (((j:Int)) < (55:Int))) rfl (fun hb1 => ?_) (fun hb1 => ?_)
  ·
    have hp1 : ((j:Int)) < (55:Int) := of_decide_eq_true hb1
    refine JC_skip ?_
    refine JQ_then ?_
    refine JC_seq ?_
    refine JC_block ?_
    refine JC_region ?_
    refine JL_val _ (Ev_move rfl) rfl ?_
    refine JL_step (Step_buildSlice 5 1 _ [(0, U8 (0:UInt8))] (cu8 ([(0:UInt8)])) Tryd.underlying22 Tryd.sizeOf5 Tryd.zeroValue5 rfl rfl rfl (by kernel_rfl)) rfl ?_
    rintro v1 L1 ⟨nb5, hnb5, rfl, rfl⟩
    show JL _ _ _ _ ((25, Slc nb5 0 1 1) :: _) [⟨g1, cu8 o ++ sp1, 5, (0, 0)⟩, ⟨nb5, cu8 ([(0:UInt8)]), 5, (0, 0)⟩]
    refine JL_step (Step_appM8 22 5 [true, false] (Slc g1 0 (j + 1) cp1) (j + 1) o ([(0:UInt8)]) (some ⟨nb5, 0, none⟩) 1 1 (j + 2) Tryd.underlying22 Tryd.info5 rfl (.inr ⟨g1, sp1, cp1, rfl, rfl, (by first | exact ho | simp [ho]), hx4, (by omega), (by omega)⟩) rfl (by simp) (SrcAt.mem (MemAt.ent 1 rfl (Seg.whole _))) (by omega) (by unfold maxLen; omega) (by omega)) rfl ?_
    rintro v1 L1 ⟨nb6, sp3, cp3, hg3, rfl, rfl, ha9, ha10, ha11, ha12⟩
    show JL _ _ _ _ ((26, Slc nb6 0 (j + 2) cp3) :: _) [⟨nb5, cu8 ([(0:UInt8)]), 5, (0, 0)⟩, ⟨nb6, cu8 (o ++ ([(0:UInt8)])) ++ sp3, 5, (0, 0)⟩]
    refine JL_val _ (Ev_assign rfl) rfl ?_
    refine JL_nil ?_
    refine JQ_in_normal ?_
    refine JQ_then ?_
    refine JC_region ?_
    refine JL_val _ (Ev_move rfl) rfl ?_
    refine JL_val (I64 ((j:Int) + 1)) (Ev_bini rfl rfl fun _ => bin_add_i _ _ ((j:Int) + 1) (by omega) (by omega)) rfl ?_
    refine JL_val _ (Ev_assign rfl) rfl ?_
    refine JL_nil ?_
    refine JQ_thenK ?_
    refine K_mask [false, true] ?_
    show K _ _ [⟨nb6, cu8 (o ++ ([(0:UInt8)])) ++ sp3, 5, (0, 0)⟩] _
    refine K_next (j + 1, o ++ ([(0:UInt8)]), nb6, sp3, cp3) ⟨by omega, by rw [hx2, zr8_succ, List.append_assoc], (ha9).trans (by first | rfl | simp +arith), (ha10).trans (by first | rfl | simp +arith), by omega, ha12⟩ (by first | (simp; omega) | simp) (Sub.cons rfl (Sub.cons rfl (Sub.cons rfl (Sub.cons (some_slc (by omega)) (Sub.cons rfl (Sub.nil)))))) rfl
  ·
    have hp1 : ¬ (((j:Int)) < (55:Int)) := of_decide_eq_false hb1
    refine JC_exit ?_
    refine JQ_then_exit ?_
    refine JQ_then_exit ?_
    refine JQ_in_same ?_
    refine JQ_then ?_
    refine JC_seq ?_
    refine JC_region ?_
    refine JL_val _ (Ev_move rfl) rfl ?_
    refine JL_val (I64 (0:Int)) (Ev_len Tryd.underlying22 rfl) rfl ?_
    refine JL_val (U64 (0:UInt64)) (Ev_conv _ _ rfl fun _ => conv_lit (by rw [Tryd.underlying3]; rfl) Tryd.underlying58 rfl) rfl ?_
    refine JL_val (U64 ((0:UInt64) * (8:UInt64))) (Ev_bini rfl rfl fun _ => bin_mul_u64 (0:UInt64) (8:UInt64)) rfl ?_
    refine JL_val _ (Ev_assign rfl) rfl ?_
    refine JL_nil ?_
    refine JQ_then ?_
    refine JC_seq ?_
    refine JC_seq ?_
    refine JC_region ?_
    refine JL_val _ (Ev_assign rfl) rfl ?_
    refine JL_nil ?_
    refine JQ_then ?_
    refine JC_block ?_
    have ej : j = nzP 0 := by omega
    have ejb : nzP 0 < 64 := by omega
    refine JC_loop (ι := Nat × List UInt8 × Nat × List Value × Nat) (fun ⟨i, o2, g2, sp2, cp2⟩ => [(2, .slice none 0 0), (6, U64 ((0:UInt64) * (8:UInt64))), (4, Slc g2 0 (i + j + 1) cp2), (7, I64 (-(i:Int) + 7))]) (fun ⟨i, o2, g2, sp2, cp2⟩ => [⟨g2, cu8 o2 ++ sp2, 5, (0, 0)⟩]) (fun ⟨i, o2, g2, sp2, cp2⟩ => i ≤ 8 ∧ o2 = o ++ lenN 0 i ∧ o2.length = (i + j + 1) ∧ sp2.length = cp2 - (i + j + 1) ∧ (i + j + 1) ≤ cp2 ∧ cp2 ≤ maxLen) (fun ⟨i, o2, g2, sp2, cp2⟩ => 8 - i) (0, o, g1, sp1, cp1) ⟨by omega, by simp [lenN], by omega, by omega, by omega, hx6⟩ (Sub.cons rfl (Sub.cons rfl (Sub.cons (some_slc (by omega)) (Sub.cons (some_i64 (by omega)) (Sub.nil))))) rfl ?_
    rintro ⟨i, o2, g2, sp2, cp2⟩ ⟨hy1, hy2, ho2, hy4, hy5, hy6⟩
    show JC _ _ _ [(2, .slice none 0 0), (6, U64 ((0:UInt64) * (8:UInt64))), (4, Slc g2 0 (i + j + 1) cp2), (7, I64 (-(i:Int) + 7))] [⟨g2, cu8 o2 ++ sp2, 5, (0, 0)⟩]
    refine JC_seq ?_
    refine JC_seq ?_
    refine JC_region ?_
    refine JL_val _ (Ev_move rfl) rfl ?_
    refine JL_val (.bool (decide ((0:Int) ≤ (-(i:Int) + 7)))) (Ev_bini rfl rfl fun _ => bin_geq_i _ _) rfl ?_
    refine JL_nil ?_
    refine JQ_then ?_
    refine JC_cond (decide ((0:Int) ≤ (-(i:Int) + 7))) rfl (fun hb2 => ?_) (fun hb2 => ?_)
    ·
      have hp2 : (0:Int) ≤ (-(i:Int) + 7) := of_decide_eq_true hb2
      refine JC_skip ?_
      refine JQ_then ?_
      refine JC_seq ?_
      refine JC_block ?_
      refine JC_region ?_
      refine JL_val _ (Ev_move rfl) rfl ?_
      refine JL_val _ (Ev_move rfl) rfl ?_
      refine JL_val _ (Ev_move rfl) rfl ?_
      refine JL_val (I64 (-8*(i:Int) + 56)) (Ev_bini rfl rfl fun _ => bin_mul_i _ _ (-8*(i:Int) + 56) (by omega) (by omega)) rfl ?_
      refine JL_val (U64 (UInt64.ofNat (56 - 8*i))) (Ev_conv _ _ rfl fun _ => conv_i64_u64 (by rw [Tryd.underlying3]; rfl) Tryd.underlying52 (56 - 8*i) _ (by omega)) rfl ?_
      refine JL_val (U64 (((0:UInt64) * (8:UInt64)) >>> UInt64.ofNat (56 - 8*i))) (Ev_bini rfl rfl fun _ => bin_shr_u64 ((0:UInt64) * (8:UInt64)) _ _ (56 - 8*i) (by omega) (ofN_i (by omega))) rfl ?_
      refine JL_val (U8 ((((0:UInt64) * (8:UInt64)) >>> UInt64.ofNat (56 - 8*i)).toUInt8)) (Ev_conv _ _ rfl fun _ => conv_u64_u8 (by rw [Tryd.underlying58]; rfl) Tryd.underlying5 _) rfl ?_
      refine JL_step (Step_buildSlice 5 1 _ [(0, U8 ((((0:UInt64) * (8:UInt64)) >>> UInt64.ofNat (56 - 8*i)).toUInt8))] (cu8 ([(((0:UInt64) * (8:UInt64)) >>> UInt64.ofNat (56 - 8*i)).toUInt8])) Tryd.underlying22 Tryd.sizeOf5 Tryd.zeroValue5 rfl rfl rfl (by kernel_rfl)) rfl ?_
      rintro v1 L1 ⟨nb7, hnb7, rfl, rfl⟩
      show JL _ _ _ _ ((42, Slc nb7 0 1 1) :: _) [⟨g2, cu8 o2 ++ sp2, 5, (0, 0)⟩, ⟨nb7, cu8 ([(((0:UInt64) * (8:UInt64)) >>> UInt64.ofNat (56 - 8*i)).toUInt8]), 5, (0, 0)⟩]
      refine JL_step (Step_appM8 22 5 [true, false] (Slc g2 0 (i + j + 1) cp2) (i + j + 1) o2 ([(((0:UInt64) * (8:UInt64)) >>> UInt64.ofNat (56 - 8*i)).toUInt8]) (some ⟨nb7, 0, none⟩) 1 1 (i + j + 2) Tryd.underlying22 Tryd.info5 rfl (.inr ⟨g2, sp2, cp2, rfl, rfl, (by first | exact ho2 | simp [ho2]), hy4, (by omega), (by omega)⟩) rfl (by simp) (SrcAt.mem (MemAt.ent 1 rfl (Seg.whole _))) (by omega) (by unfold maxLen; omega) (by omega)) rfl ?_
      rintro v1 L1 ⟨nb8, sp4, cp4, hg4, rfl, rfl, ha13, ha14, ha15, ha16⟩
      show JL _ _ _ _ ((43, Slc nb8 0 (i + j + 2) cp4) :: _) [⟨nb7, cu8 ([(((0:UInt64) * (8:UInt64)) >>> UInt64.ofNat (56 - 8*i)).toUInt8]), 5, (0, 0)⟩, ⟨nb8, cu8 (o2 ++ ([(((0:UInt64) * (8:UInt64)) >>> UInt64.ofNat (56 - 8*i)).toUInt8])) ++ sp4, 5, (0, 0)⟩]
      refine JL_val _ (Ev_assign rfl) rfl ?_
      refine JL_nil ?_
      refine JQ_in_normal ?_
      refine JQ_then ?_
      refine JC_region ?_
      refine JL_val _ (Ev_move rfl) rfl ?_
      refine JL_val (I64 (-(i:Int) + 6)) (Ev_bini rfl rfl fun _ => bin_sub_i _ _ (-(i:Int) + 6) (by omega) (by omega)) rfl ?_
      refine JL_val _ (Ev_assign rfl) rfl ?_
      refine JL_nil ?_
      refine JQ_thenK ?_
      refine K_mask [false, true] ?_
      show K _ _ [⟨nb8, cu8 (o2 ++ ([(((0:UInt64) * (8:UInt64)) >>> UInt64.ofNat (56 - 8*i)).toUInt8])) ++ sp4, 5, (0, 0)⟩] _
      refine K_next (i + 1, o2 ++ ([(((0:UInt64) * (8:UInt64)) >>> UInt64.ofNat (56 - 8*i)).toUInt8]), nb8, sp4, cp4) ⟨by omega, by rw [hy2, lenN, List.append_assoc]; rfl, (ha13).trans (by first | rfl | simp +arith), (ha14).trans (by first | rfl | simp +arith), by omega, ha16⟩ (by first | (simp; omega) | simp) (Sub.cons rfl (Sub.cons rfl (Sub.cons (some_slc (by omega)) (Sub.cons (some_i64 (by omega)) (Sub.nil))))) rfl
    ·
      have hp2 : ¬ ((0:Int) ≤ (-(i:Int) + 7)) := of_decide_eq_false hb2
      refine JC_exit ?_
      refine JQ_then_exit ?_
      refine JQ_then_exit ?_
      refine JQ_in_same ?_
      refine JQ_then ?_
      refine JC_seq ?_
      refine JC_region ?_
      refine JL_val _ (Ev_move rfl) rfl ?_
      refine JL_val _ (Ev_assign rfl) rfl ?_
      refine JL_nil ?_
      refine JQ_then ?_
      refine JC_ret ?_
      refine JQ_ret (Slc g2 0 (i + j + 1) cp2) (res1 Tryd.results27 (RV_tmp rfl)) fun w1 hw1 => ?_
      have e1 : i = 8 := by omega
      subst e1
      have e2 : o2 = padL ([] : List UInt8) := by rw [hy2, hx2, padL, List.length_nil, ej]
      rw [e2] at hw1
      exact ⟨_, _, rfl, ⟨g2, sp2, cp2, slc_len (by rw [padL_len, List.length_nil, ← ej]; simp +arith), rfl, by rw [hy4]; rw [padL_len, List.length_nil, ← ej]; simp +arith, by refine Nat.le_trans (Nat.le_of_eq ?_) hy5; rw [padL_len, List.length_nil, ← ej]; simp +arith, hy6⟩, hw1.sub (by simp) (by simp)⟩

theorem rpad_c (ao : Option Addr) (n cb : Nat) (b : List UInt8) (w : World) (hb : b.length = n) (hn : n ≤ 17592186044416) (hr : RdB w [] ao b) : Calls Tryd.prog 27 #[.slice ao n cb] w (Post w [] (fun v L => ∃ g sp cap, v = Slc g 0 (padL b).length cap ∧ L = [⟨g, cu8 (padL b) ++ sp, 5, (0, 0)⟩] ∧ sp.length = cap - (padL b).length ∧ (padL b).length ≤ cap ∧ cap ≤ maxLen)) := by
  have hnz := nzP_lt n
  have hnd := nzP_def n
  refine enter w [] 45 [] [.slice ao n cb] Tryd.func27 rfl rfl (by simp) (Hp.start (by simp) (by simp) (by simp)) ?_
  show JC _ _ _ [(0, .slice ao n cb)] _
  refine JC_seq ?_
  refine JC_region ?_
  refine JL_val _ (Ev_assign rfl) rfl ?_
  refine JL_nil ?_
  refine JQ_then ?_
  refine JC_seq ?_
  refine JC_region ?_
  refine JL_val _ (Ev_move rfl) rfl ?_
  refine JL_val (I64 ((n:Int))) (Ev_len Tryd.underlying22 rfl) rfl ?_
  refine JL_val (I64 ((n % 64:Int))) (Ev_bini rfl rfl fun _ => bin_rem_i _ _ ((n % 64:Int)) (by omega) (by omega) (by omega)) rfl ?_
  refine JL_val (I64 (-(n % 64:Int) + 119)) (Ev_bini rfl rfl fun _ => bin_sub_i _ _ (-(n % 64:Int) + 119) (by omega) (by omega)) rfl ?_
  refine JL_val (I64 (((-(n % 64:Int) + 119) % 64))) (Ev_bini rfl rfl fun _ => bin_rem_i _ _ (((-(n % 64:Int) + 119) % 64)) (by omega) (by omega) (by omega)) rfl ?_
  refine JL_val _ (Ev_assign rfl) rfl ?_
  refine JL_nil ?_
  refine JQ_then ?_
  refine JC_seq ?_
  refine JC_region ?_
  refine JL_step (Step_buildSlice0 5 1 Tryd.underlying22 Tryd.sizeOf5) rfl ?_
  rintro v1 L1 ⟨nb1, hnb1, rfl, rfl⟩
  show JL _ _ _ _ ((13, Slc nb1 0 0 0) :: _) [⟨nb1, [], 5, (0, 0)⟩]
  refine JL_val _ (Ev_move rfl) rfl ?_
  refine JL_step (Step_appM8 22 5 [true] (Slc nb1 0 0 0) 0 ([] : List UInt8) b ao n cb n Tryd.underlying22 Tryd.info5 rfl (.inr ⟨nb1, [], 0, rfl, (by simp [take?, cu8, cu32, cu64]), rfl, (by simp), (by omega), (by unfold maxLen; omega)⟩) rfl (by simp [hb]; try omega) (hr.src) (by omega) (by unfold maxLen; omega) (by omega)) rfl ?_
  rintro v1 L1 ⟨nb2, sp1, cp1, hg1, rfl, rfl, ha1, ha2, ha3, ha4⟩
  show JL _ _ _ _ ((15, Slc nb2 0 n cp1) :: _) [⟨nb2, cu8 (([] : List UInt8) ++ b) ++ sp1, 5, (0, 0)⟩]
  refine JL_val _ (Ev_assign rfl) rfl ?_
  refine JL_nil ?_
  refine JQ_then ?_
  refine JC_seq ?_
  refine JC_region ?_
  refine JL_val _ (Ev_move rfl) rfl ?_
  refine JL_step (Step_buildSlice 5 1 _ [(0, U8 (128:UInt8))] (cu8 ([(128:UInt8)])) Tryd.underlying22 Tryd.sizeOf5 Tryd.zeroValue5 rfl rfl rfl (by kernel_rfl)) rfl ?_
  rintro v1 L1 ⟨nb3, hnb3, rfl, rfl⟩
  show JL _ _ _ _ ((17, Slc nb3 0 1 1) :: _) [⟨nb2, cu8 (([] : List UInt8) ++ b) ++ sp1, 5, (0, 0)⟩, ⟨nb3, cu8 ([(128:UInt8)]), 5, (0, 0)⟩]
  refine JL_step (Step_appM8 22 5 [true, false] (Slc nb2 0 n cp1) n (([] : List UInt8) ++ b) ([(128:UInt8)]) (some ⟨nb3, 0, none⟩) 1 1 (n + 1) Tryd.underlying22 Tryd.info5 rfl (.inr ⟨nb2, sp1, cp1, rfl, rfl, (by first | exact ha1 | simp [ha1]), ha2, (by omega), (by omega)⟩) rfl (by simp) (SrcAt.mem (MemAt.ent 1 rfl (Seg.whole _))) (by omega) (by unfold maxLen; omega) (by omega)) rfl ?_
  rintro v1 L1 ⟨nb4, sp2, cp2, hg2, rfl, rfl, ha5, ha6, ha7, ha8⟩
  show JL _ _ _ _ ((18, Slc nb4 0 (n + 1) cp2) :: _) [⟨nb3, cu8 ([(128:UInt8)]), 5, (0, 0)⟩, ⟨nb4, cu8 ((([] : List UInt8) ++ b) ++ ([(128:UInt8)])) ++ sp2, 5, (0, 0)⟩]
  refine JL_val _ (Ev_assign rfl) rfl ?_
  refine JL_nil ?_
  refine JQ_then ?_
  refine JC_seq ?_
  refine JC_seq ?_
  refine JC_region ?_
  refine JL_val _ (Ev_assign rfl) rfl ?_
  refine JL_nil ?_
  refine JQ_then ?_
  refine JC_block ?_
  refine K_mask [false, true] ?_
  show JC _ _ _ _ [⟨nb4, cu8 ((([] : List UInt8) ++ b) ++ ([(128:UInt8)])) ++ sp2, 5, (0, 0)⟩]
  refine JC_loop (ι := Nat × List UInt8 × Nat × List Value × Nat) (fun ⟨j, o, g1, sp1, cp1⟩ => [(0, .slice ao n cb), (2, .slice none 0 0), (3, I64 (((-(n % 64:Int) + 119) % 64))), (4, Slc g1 0 (j + n + 1) cp1), (5, I64 ((j:Int)))]) (fun ⟨j, o, g1, sp1, cp1⟩ => [⟨g1, cu8 o ++ sp1, 5, (0, 0)⟩]) (fun ⟨j, o, g1, sp1, cp1⟩ => j ≤ nzP n ∧ o = (b ++ [(128:UInt8)]) ++ zr8 j ∧ o.length = (j + n + 1) ∧ sp1.length = cp1 - (j + n + 1) ∧ (j + n + 1) ≤ cp1 ∧ cp1 ≤ maxLen) (fun ⟨j, o, g1, sp1, cp1⟩ => nzP n - j) (0, (([] : List UInt8) ++ b) ++ ([(128:UInt8)]), nb4, sp2, cp2) ⟨by omega, by simp [zr8], by simp [hb], by have := ha6; omega, by omega, ha8⟩ (Sub.cons rfl (Sub.cons rfl (Sub.cons rfl (Sub.cons (some_slc (by omega)) (Sub.cons rfl (Sub.nil)))))) rfl ?_
  rintro ⟨j, o, g1, sp1, cp1⟩ ⟨hx1, hx2, ho, hx4, hx5, hx6⟩
  show JC _ _ _ [(0, .slice ao n cb), (2, .slice none 0 0), (3, I64 (((-(n % 64:Int) + 119) % 64))), (4, Slc g1 0 (j + n + 1) cp1), (5, I64 ((j:Int)))] [⟨g1, cu8 o ++ sp1, 5, (0, 0)⟩]
  refine JC_seq ?_
  refine JC_seq ?_
  refine JC_region ?_
  refine JL_val _ (Ev_move rfl) rfl ?_
  refine JL_val _ (Ev_move rfl) rfl ?_
  refine JL_val (.bool (decide (((j:Int)) < (((-(n % 64:Int) + 119) % 64))))) (Ev_bini rfl rfl fun _ => bin_lss_i _ _) rfl ?_
  refine JL_nil ?_
  refine JQ_then ?_
  refine JC_cond (decide (((j:Int)) < (((-(n % 64:Int) + 119) % 64)))) rfl (fun hb1 => ?_) (fun hb1 => ?_)
  ·
    have hp1 : ((j:Int)) < (((-(n % 64:Int) + 119) % 64)) := of_decide_eq_true hb1
    refine JC_skip ?_
    refine JQ_then ?_
    refine JC_seq ?_
    refine JC_block ?_
    refine JC_region ?_
    refine JL_val _ (Ev_move rfl) rfl ?_
    refine JL_step (Step_buildSlice 5 1 _ [(0, U8 (0:UInt8))] (cu8 ([(0:UInt8)])) Tryd.underlying22 Tryd.sizeOf5 Tryd.zeroValue5 rfl rfl rfl (by kernel_rfl)) rfl ?_
    rintro v1 L1 ⟨nb5, hnb5, rfl, rfl⟩
    show JL _ _ _ _ ((25, Slc nb5 0 1 1) :: _) [⟨g1, cu8 o ++ sp1, 5, (0, 0)⟩, ⟨nb5, cu8 ([(0:UInt8)]), 5, (0, 0)⟩]
    refine JL_step (Step_appM8 22 5 [true, false] (Slc g1 0 (j + n + 1) cp1) (j + n + 1) o ([(0:UInt8)]) (some ⟨nb5, 0, none⟩) 1 1 (j + n + 2) Tryd.underlying22 Tryd.info5 rfl (.inr ⟨g1, sp1, cp1, rfl, rfl, (by first | exact ho | simp [ho]), hx4, (by omega), (by omega)⟩) rfl (by simp) (SrcAt.mem (MemAt.ent 1 rfl (Seg.whole _))) (by omega) (by unfold maxLen; omega) (by omega)) rfl ?_
    rintro v1 L1 ⟨nb6, sp3, cp3, hg3, rfl, rfl, ha9, ha10, ha11, ha12⟩
    show JL _ _ _ _ ((26, Slc nb6 0 (j + n + 2) cp3) :: _) [⟨nb5, cu8 ([(0:UInt8)]), 5, (0, 0)⟩, ⟨nb6, cu8 (o ++ ([(0:UInt8)])) ++ sp3, 5, (0, 0)⟩]
    refine JL_val _ (Ev_assign rfl) rfl ?_
    refine JL_nil ?_
    refine JQ_in_normal ?_
    refine JQ_then ?_
    refine JC_region ?_
    refine JL_val _ (Ev_move rfl) rfl ?_
    refine JL_val (I64 ((j:Int) + 1)) (Ev_bini rfl rfl fun _ => bin_add_i _ _ ((j:Int) + 1) (by omega) (by omega)) rfl ?_
    refine JL_val _ (Ev_assign rfl) rfl ?_
    refine JL_nil ?_
    refine JQ_thenK ?_
    refine K_mask [false, true] ?_
    show K _ _ [⟨nb6, cu8 (o ++ ([(0:UInt8)])) ++ sp3, 5, (0, 0)⟩] _
    refine K_next (j + 1, o ++ ([(0:UInt8)]), nb6, sp3, cp3) ⟨by omega, by rw [hx2, zr8_succ, List.append_assoc], (ha9).trans (by first | rfl | simp +arith), (ha10).trans (by first | rfl | simp +arith), by omega, ha12⟩ (by first | (simp; omega) | simp) (Sub.cons rfl (Sub.cons rfl (Sub.cons rfl (Sub.cons (some_slc (by omega)) (Sub.cons rfl (Sub.nil)))))) rfl
  ·
    have hp1 : ¬ (((j:Int)) < (((-(n % 64:Int) + 119) % 64))) := of_decide_eq_false hb1
    refine JC_exit ?_
    refine JQ_then_exit ?_
    refine JQ_then_exit ?_
    refine JQ_in_same ?_
    refine JQ_then ?_
    refine JC_seq ?_
    refine JC_region ?_
    refine JL_val _ (Ev_move rfl) rfl ?_
    refine JL_val (I64 ((n:Int))) (Ev_len Tryd.underlying22 rfl) rfl ?_
    refine JL_val (U64 (UInt64.ofNat n)) (Ev_conv _ _ rfl fun _ => conv_i64_u64 (by rw [Tryd.underlying3]; rfl) Tryd.underlying58 n _ (by omega)) rfl ?_
    refine JL_val (U64 ((UInt64.ofNat n) * (8:UInt64))) (Ev_bini rfl rfl fun _ => bin_mul_u64 (UInt64.ofNat n) (8:UInt64)) rfl ?_
    refine JL_val _ (Ev_assign rfl) rfl ?_
    refine JL_nil ?_
    refine JQ_then ?_
    refine JC_seq ?_
    refine JC_seq ?_
    refine JC_region ?_
    refine JL_val _ (Ev_assign rfl) rfl ?_
    refine JL_nil ?_
    refine JQ_then ?_
    refine JC_block ?_
    have ej : j = nzP n := by omega
    have ejb : nzP n < 64 := by omega
    refine JC_loop (ι := Nat × List UInt8 × Nat × List Value × Nat) (fun ⟨i, o2, g2, sp2, cp2⟩ => [(2, .slice none 0 0), (6, U64 ((UInt64.ofNat n) * (8:UInt64))), (4, Slc g2 0 (i + j + n + 1) cp2), (7, I64 (-(i:Int) + 7))]) (fun ⟨i, o2, g2, sp2, cp2⟩ => [⟨g2, cu8 o2 ++ sp2, 5, (0, 0)⟩]) (fun ⟨i, o2, g2, sp2, cp2⟩ => i ≤ 8 ∧ o2 = o ++ lenN n i ∧ o2.length = (i + j + n + 1) ∧ sp2.length = cp2 - (i + j + n + 1) ∧ (i + j + n + 1) ≤ cp2 ∧ cp2 ≤ maxLen) (fun ⟨i, o2, g2, sp2, cp2⟩ => 8 - i) (0, o, g1, sp1, cp1) ⟨by omega, by simp [lenN], by omega, by omega, by omega, hx6⟩ (Sub.cons rfl (Sub.cons rfl (Sub.cons (some_slc (by omega)) (Sub.cons (some_i64 (by omega)) (Sub.nil))))) rfl ?_
    rintro ⟨i, o2, g2, sp2, cp2⟩ ⟨hy1, hy2, ho2, hy4, hy5, hy6⟩
    show JC _ _ _ [(2, .slice none 0 0), (6, U64 ((UInt64.ofNat n) * (8:UInt64))), (4, Slc g2 0 (i + j + n + 1) cp2), (7, I64 (-(i:Int) + 7))] [⟨g2, cu8 o2 ++ sp2, 5, (0, 0)⟩]
    refine JC_seq ?_
    refine JC_seq ?_
    refine JC_region ?_
    refine JL_val _ (Ev_move rfl) rfl ?_
    refine JL_val (.bool (decide ((0:Int) ≤ (-(i:Int) + 7)))) (Ev_bini rfl rfl fun _ => bin_geq_i _ _) rfl ?_
    refine JL_nil ?_
    refine JQ_then ?_
    refine JC_cond (decide ((0:Int) ≤ (-(i:Int) + 7))) rfl (fun hb2 => ?_) (fun hb2 => ?_)
    ·
      have hp2 : (0:Int) ≤ (-(i:Int) + 7) := of_decide_eq_true hb2
      refine JC_skip ?_
      refine JQ_then ?_
      refine JC_seq ?_
      refine JC_block ?_
      refine JC_region ?_
      refine JL_val _ (Ev_move rfl) rfl ?_
      refine JL_val _ (Ev_move rfl) rfl ?_
      refine JL_val _ (Ev_move rfl) rfl ?_
      refine JL_val (I64 (-8*(i:Int) + 56)) (Ev_bini rfl rfl fun _ => bin_mul_i _ _ (-8*(i:Int) + 56) (by omega) (by omega)) rfl ?_
      refine JL_val (U64 (UInt64.ofNat (56 - 8*i))) (Ev_conv _ _ rfl fun _ => conv_i64_u64 (by rw [Tryd.underlying3]; rfl) Tryd.underlying52 (56 - 8*i) _ (by omega)) rfl ?_
      refine JL_val (U64 (((UInt64.ofNat n) * (8:UInt64)) >>> UInt64.ofNat (56 - 8*i))) (Ev_bini rfl rfl fun _ => bin_shr_u64 ((UInt64.ofNat n) * (8:UInt64)) _ _ (56 - 8*i) (by omega) (ofN_i (by omega))) rfl ?_
      refine JL_val (U8 ((((UInt64.ofNat n) * (8:UInt64)) >>> UInt64.ofNat (56 - 8*i)).toUInt8)) (Ev_conv _ _ rfl fun _ => conv_u64_u8 (by rw [Tryd.underlying58]; rfl) Tryd.underlying5 _) rfl ?_
      refine JL_step (Step_buildSlice 5 1 _ [(0, U8 ((((UInt64.ofNat n) * (8:UInt64)) >>> UInt64.ofNat (56 - 8*i)).toUInt8))] (cu8 ([(((UInt64.ofNat n) * (8:UInt64)) >>> UInt64.ofNat (56 - 8*i)).toUInt8])) Tryd.underlying22 Tryd.sizeOf5 Tryd.zeroValue5 rfl rfl rfl (by kernel_rfl)) rfl ?_
      rintro v1 L1 ⟨nb7, hnb7, rfl, rfl⟩
      show JL _ _ _ _ ((42, Slc nb7 0 1 1) :: _) [⟨g2, cu8 o2 ++ sp2, 5, (0, 0)⟩, ⟨nb7, cu8 ([(((UInt64.ofNat n) * (8:UInt64)) >>> UInt64.ofNat (56 - 8*i)).toUInt8]), 5, (0, 0)⟩]
      refine JL_step (Step_appM8 22 5 [true, false] (Slc g2 0 (i + j + n + 1) cp2) (i + j + n + 1) o2 ([(((UInt64.ofNat n) * (8:UInt64)) >>> UInt64.ofNat (56 - 8*i)).toUInt8]) (some ⟨nb7, 0, none⟩) 1 1 (i + j + n + 2) Tryd.underlying22 Tryd.info5 rfl (.inr ⟨g2, sp2, cp2, rfl, rfl, (by first | exact ho2 | simp [ho2]), hy4, (by omega), (by omega)⟩) rfl (by simp) (SrcAt.mem (MemAt.ent 1 rfl (Seg.whole _))) (by omega) (by unfold maxLen; omega) (by omega)) rfl ?_
      rintro v1 L1 ⟨nb8, sp4, cp4, hg4, rfl, rfl, ha13, ha14, ha15, ha16⟩
      show JL _ _ _ _ ((43, Slc nb8 0 (i + j + n + 2) cp4) :: _) [⟨nb7, cu8 ([(((UInt64.ofNat n) * (8:UInt64)) >>> UInt64.ofNat (56 - 8*i)).toUInt8]), 5, (0, 0)⟩, ⟨nb8, cu8 (o2 ++ ([(((UInt64.ofNat n) * (8:UInt64)) >>> UInt64.ofNat (56 - 8*i)).toUInt8])) ++ sp4, 5, (0, 0)⟩]
      refine JL_val _ (Ev_assign rfl) rfl ?_
      refine JL_nil ?_
      refine JQ_in_normal ?_
      refine JQ_then ?_
      refine JC_region ?_
      refine JL_val _ (Ev_move rfl) rfl ?_
      refine JL_val (I64 (-(i:Int) + 6)) (Ev_bini rfl rfl fun _ => bin_sub_i _ _ (-(i:Int) + 6) (by omega) (by omega)) rfl ?_
      refine JL_val _ (Ev_assign rfl) rfl ?_
      refine JL_nil ?_
      refine JQ_thenK ?_
      refine K_mask [false, true] ?_
      show K _ _ [⟨nb8, cu8 (o2 ++ ([(((UInt64.ofNat n) * (8:UInt64)) >>> UInt64.ofNat (56 - 8*i)).toUInt8])) ++ sp4, 5, (0, 0)⟩] _
      refine K_next (i + 1, o2 ++ ([(((UInt64.ofNat n) * (8:UInt64)) >>> UInt64.ofNat (56 - 8*i)).toUInt8]), nb8, sp4, cp4) ⟨by omega, by rw [hy2, lenN, UInt64.mul_comm, List.append_assoc], (ha13).trans (by first | rfl | simp +arith), (ha14).trans (by first | rfl | simp +arith), by omega, ha16⟩ (by first | (simp; omega) | simp) (Sub.cons rfl (Sub.cons rfl (Sub.cons (some_slc (by omega)) (Sub.cons (some_i64 (by omega)) (Sub.nil))))) rfl
    ·
      have hp2 : ¬ ((0:Int) ≤ (-(i:Int) + 7)) := of_decide_eq_false hb2
      refine JC_exit ?_
      refine JQ_then_exit ?_
      refine JQ_then_exit ?_
      refine JQ_in_same ?_
      refine JQ_then ?_
      refine JC_seq ?_
      refine JC_region ?_
      refine JL_val _ (Ev_move rfl) rfl ?_
      refine JL_val _ (Ev_assign rfl) rfl ?_
      refine JL_nil ?_
      refine JQ_then ?_
      refine JC_ret ?_
      refine JQ_ret (Slc g2 0 (i + j + n + 1) cp2) (res1 Tryd.results27 (RV_tmp rfl)) fun w1 hw1 => ?_
      have e1 : i = 8 := by omega
      subst e1
      have e2 : o2 = padL b := by rw [hy2, hx2, padL, hb, ej]
      rw [e2] at hw1
      exact ⟨_, _, rfl, ⟨g2, sp2, cp2, slc_len (by rw [padL_len, hb, ← ej]; simp +arith), rfl, by rw [hy4]; rw [padL_len, hb, ← ej]; simp +arith, by refine Nat.le_trans (Nat.le_of_eq ?_) hy5; rw [padL_len, hb, ← ej]; simp +arith, hy6⟩, hw1.sub (by simp) (by simp)⟩

end Go.Proofs.YtncoifiafklkjaaDoor
