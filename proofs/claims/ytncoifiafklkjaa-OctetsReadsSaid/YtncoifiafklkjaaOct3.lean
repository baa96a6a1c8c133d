import Derived.Test.YtncoifiafklkjaaOct2
import Derived.Test.YtncoifiafklkjaaRdLaw
namespace Go.Proofs.Ytncoifiafklkjaa
open Go Go.Sx
set_option linter.unusedVariables false
set_option linter.unusedSimpArgs false
set_option maxRecDepth 100000
attribute [local irreducible] mid zr8 zr32 zr64 numK rnK ftN valK rvalK
theorem leftZ_c (rb e : Nat) (ao : Option Addr) (n c : Nat) (w : World) (hw : RdA w rb 0 [errV 36 e, .slice ao n c]) (he : e = 0) : Calls Try.prog 64 #[Ptr rb 0] w (Post w [] (fun v L => v = I64 (n : Int) ∧ L = [])) := by
  refine enter w [] 18 [] [Ptr rb 0] Try.func64 rfl rfl (by simp) (Hp.start (by simp) (by simp) (by simp)) ?_
  show JC _ _ _ [(0, Ptr rb 0)] _
  refine JC_seq ?_
  refine JC_region ?_
  refine JL_val _ (Ev_assign rfl) rfl ?_
  refine JL_nil ?_
  refine JQ_then ?_
  refine JC_seq ?_
  refine JC_seq ?_
  refine JC_region ?_
  refine JL_val _ (Ev_move rfl) rfl ?_
  refine JL_val (.bool false) (Ev_bin _ _ _ rfl rfl (fun _ => eqGuard_ptr ..) fun _ => eql_ptr_nil Try.underlying83) rfl ?_
  refine JL_val _ (Ev_move rfl) rfl ?_
  refine JL_gval 2 5 false _ _ rfl rfl rfl (Ev_move rfl) rfl ?_
  refine JL_gval 2 5 false _ _ rfl rfl rfl (Ev_nilCheck rfl) rfl ?_
  refine JL_gval 2 5 false _ (Ptr rb 0) rfl rfl rfl (Ev_fieldAddr 0 64 1 Try.underlying123 rfl Try.sizeOf64 rfl rfl) rfl ?_
  refine JL_gval 2 5 false _ (Ptr rb 0) rfl rfl rfl (Ev_fieldAddr 0 30 1 Try.underlying64 rfl Try.sizeOf30 rfl rfl) rfl ?_
  refine JL_gval 2 5 false _ (errV 36 e) rfl rfl rfl (Ev_load rfl (Ld_one Try.isAgg30 (MemAt.seg (hw.mem (by simp)) (Seg.head) (by omega)))) rfl ?_
  refine JL_gval 2 5 false _ (.bool (!(decide (e = 0)))) rfl rfl rfl (Ev_bin _ _ _ rfl rfl (fun _ => eqGuard_errV ..) fun _ => neq_errV Try.underlying30 _ _) rfl ?_
  refine JL_val _ (Ev_pickF _ rfl rfl rfl) rfl ?_
  refine JL_nil ?_
  refine JQ_then ?_
  refine JC_condF _ rfl (by rw [show (decide (e = 0)) = true from (decide_eq_true he)]; rfl) ?_
  refine JC_skip ?_
  refine JQ_then ?_
  refine JC_seq ?_
  refine JC_region ?_
  refine JL_val _ (Ev_move rfl) rfl ?_
  refine JL_val _ (Ev_nilCheck rfl) rfl ?_
  refine JL_val (Ptr rb 1) (Ev_fieldAddr 1 38 1 Try.underlying123 rfl Try.sizeOf38 rfl rfl) rfl ?_
  refine JL_val (.slice ao n c) (Ev_load rfl (Ld_one Try.isAgg38 (MemAt.seg (hw.mem (by simp)) (Seg.tail (Seg.head)) (by omega)))) rfl ?_
  refine JL_val (I64 ((n:Int))) (Ev_len Try.underlying38 rfl) rfl ?_
  refine JL_val _ (Ev_assign rfl) rfl ?_
  refine JL_nil ?_
  refine JQ_then ?_
  refine JC_ret ?_
  refine JQ_ret (I64 ((n:Int))) (res1 Try.results64 (RV_tmp rfl)) fun w1 hw1 => ?_
  exact ⟨_, [], rfl, ⟨rfl, rfl⟩, hw1.sub (by simp) (by simp)⟩

theorem leftE_c (rb e : Nat) (sv : Value) (w : World) (hw : RdA w rb 0 [errV 36 e, sv]) (he : e ≠ 0) : Calls Try.prog 64 #[Ptr rb 0] w (Post w [] (fun v L => v = I64 0 ∧ L = [])) := by
  refine enter w [] 18 [] [Ptr rb 0] Try.func64 rfl rfl (by simp) (Hp.start (by simp) (by simp) (by simp)) ?_
  show JC _ _ _ [(0, Ptr rb 0)] _
  refine JC_seq ?_
  refine JC_region ?_
  refine JL_val _ (Ev_assign rfl) rfl ?_
  refine JL_nil ?_
  refine JQ_then ?_
  refine JC_seq ?_
  refine JC_seq ?_
  refine JC_region ?_
  refine JL_val _ (Ev_move rfl) rfl ?_
  refine JL_val (.bool false) (Ev_bin _ _ _ rfl rfl (fun _ => eqGuard_ptr ..) fun _ => eql_ptr_nil Try.underlying83) rfl ?_
  refine JL_val _ (Ev_move rfl) rfl ?_
  refine JL_gval 2 5 false _ _ rfl rfl rfl (Ev_move rfl) rfl ?_
  refine JL_gval 2 5 false _ _ rfl rfl rfl (Ev_nilCheck rfl) rfl ?_
  refine JL_gval 2 5 false _ (Ptr rb 0) rfl rfl rfl (Ev_fieldAddr 0 64 1 Try.underlying123 rfl Try.sizeOf64 rfl rfl) rfl ?_
  refine JL_gval 2 5 false _ (Ptr rb 0) rfl rfl rfl (Ev_fieldAddr 0 30 1 Try.underlying64 rfl Try.sizeOf30 rfl rfl) rfl ?_
  refine JL_gval 2 5 false _ (errV 36 e) rfl rfl rfl (Ev_load rfl (Ld_one Try.isAgg30 (MemAt.seg (hw.mem (by simp)) (Seg.head) (by omega)))) rfl ?_
  refine JL_gval 2 5 false _ (.bool (!(decide (e = 0)))) rfl rfl rfl (Ev_bin _ _ _ rfl rfl (fun _ => eqGuard_errV ..) fun _ => neq_errV Try.underlying30 _ _) rfl ?_
  refine JL_val _ (Ev_pickF _ rfl rfl rfl) rfl ?_
  refine JL_nil ?_
  refine JQ_then ?_
  refine JC_condT _ rfl (by rw [show (decide (e = 0)) = false from (decide_eq_false he)]; rfl) ?_
  refine JC_seq ?_
  refine JC_region ?_
  refine JL_val _ (Ev_assign rfl) rfl ?_
  refine JL_nil ?_
  refine JQ_then ?_
  refine JC_ret ?_
  refine JQ_then_ret ?_
  refine JQ_ret (I64 (0:Int)) (res1 Try.results64 (RV_tmp rfl)) fun w1 hw1 => ?_
  exact ⟨_, [], rfl, ⟨rfl, rfl⟩, hw1.sub (by simp) (by simp)⟩

theorem leftNil_c  (w : World) : Calls Try.prog 64 #[.pointer none] w (Post w [] (fun v L => v = I64 0 ∧ L = [])) := by
  refine enter w [] 18 [] [.pointer none] Try.func64 rfl rfl (by simp) (Hp.start (by simp) (by simp) (by simp)) ?_
  show JC _ _ _ [(0, .pointer none)] _
  refine JC_seq ?_
  refine JC_region ?_
  refine JL_val _ (Ev_assign rfl) rfl ?_
  refine JL_nil ?_
  refine JQ_then ?_
  refine JC_seq ?_
  refine JC_seq ?_
  refine JC_region ?_
  refine JL_val _ (Ev_move rfl) rfl ?_
  refine JL_val (.bool true) (Ev_bin _ _ _ rfl rfl (fun _ => eqGuard_ptr ..) fun _ => eql_ptr_nil_nil Try.underlying83) rfl ?_
  refine JL_val _ (Ev_move rfl) rfl ?_
  refine JL_gskip 2 5 false _ rfl rfl rfl rfl ?_
  refine JL_gskip 2 5 false _ rfl rfl rfl rfl ?_
  refine JL_gskip 2 5 false _ rfl rfl rfl rfl ?_
  refine JL_gskip 2 5 false _ rfl rfl rfl rfl ?_
  refine JL_gskip 2 5 false _ rfl rfl rfl rfl ?_
  refine JL_gskip 2 5 false _ rfl rfl rfl rfl ?_
  refine JL_val _ (Ev_pickT _ rfl rfl rfl) rfl ?_
  refine JL_nil ?_
  refine JQ_then ?_
  refine JC_condT _ rfl rfl ?_
  refine JC_seq ?_
  refine JC_region ?_
  refine JL_val _ (Ev_assign rfl) rfl ?_
  refine JL_nil ?_
  refine JQ_then ?_
  refine JC_ret ?_
  refine JQ_then_ret ?_
  refine JQ_ret (I64 (0:Int)) (res1 Try.results64 (RV_tmp rfl)) fun w1 hw1 => ?_
  exact ⟨_, [], rfl, ⟨rfl, rfl⟩, hw1.sub (by simp) (by simp)⟩

theorem left_w (rb e : Nat) (ao : Option Addr) (n c : Nat) (w : World) (hw : RdA w rb 0 [errV 36 e, .slice ao n c]) : Calls Try.prog 64 #[Ptr rb 0] w (Post w [] (fun v L => v = I64 ((leftN e n : Nat) : Int) ∧ L = [])) := by
  by_cases he : e = 0
  · rw [leftN, if_pos he]; exact leftZ_c rb e ao n c w hw he
  · rw [leftN, if_neg he]; exact leftE_c rb e _ w hw he

theorem failRd_c (rb e k : Nat) (sv : Value) (w : World) (h0 : w.heap[rb]? = some (.cells [errV 36 e, sv].toArray 123 (0, 0)))  : Calls Try.prog 63 #[Ptr rb 0, errV 36 k] w (Post w [rb] (fun v L => v = .tuple #[] ∧ L = [⟨rb, [errV 36 (erN e k), sv], 123, (0, 0)⟩])) := by
  refine enter w [rb] 11 [⟨rb, [errV 36 e, sv], 123, (0, 0)⟩] [Ptr rb 0, errV 36 k] Try.func63 rfl rfl (by simp) (Hp.start (by simpa using h0) (by simp) (by simp)) ?_
  show JC _ _ _ [(0, Ptr rb 0), (1, errV 36 k)] _
  refine JC_seq ?_
  refine JC_region ?_
  refine JL_val _ (Ev_move rfl) rfl ?_
  refine JL_val (.bool true) (Ev_bin _ _ _ rfl rfl (fun _ => eqGuard_ptr ..) fun _ => neq_ptr_nil Try.underlying83) rfl ?_
  refine JL_nil ?_
  refine JQ_then ?_
  refine JC_condT _ rfl rfl ?_
  refine JC_region ?_
  refine JL_val _ (Ev_move rfl) rfl ?_
  refine JL_val _ (Ev_nilCheck rfl) rfl ?_
  refine JL_val (Ptr rb 0) (Ev_fieldAddr 0 64 1 Try.underlying123 rfl Try.sizeOf64 rfl rfl) rfl ?_
  refine JL_val _ (Ev_move rfl) rfl ?_
  refine JL_step (Step_callW 80 [Ptr rb 0, errV 36 k] 0 ⟨rb, [errV 36 e, sv], 123, (0, 0)⟩ _ (fun v e' l' => v = .tuple #[] ∧ e' = ⟨rb, [errV 36 (erN e k), sv], 123, (0, 0)⟩ ∧ l' = []) (Cl_func [Ptr rb 0, errV 36 k] Try.call80 rfl) rfl (by rintro v l ⟨rfl, rfl⟩; exact ⟨_, _, rfl, rfl, rfl, rfl, rfl⟩) (fun w1 hw1 => failR_c rb e k sv w1 (hw1.ent _ (List.mem_of_getElem? (i := 0) rfl)))) rfl ?_
  rintro v1 L1 ⟨_, _, ⟨rfl, rfl, rfl⟩, rfl⟩
  show JL _ _ _ _ ((10, .tuple #[]) :: _) [⟨rb, [errV 36 (erN e k), sv], 123, (0, 0)⟩]
  refine JL_nil ?_
  refine JQ_end (.tuple #[]) (res0 Try.results63 ) fun w1 hw1 => ?_
  exact ⟨_, _, rfl, ⟨rfl, rfl⟩, hw1⟩

theorem failRdi_c (rb e k : Nat) (sv : Value) (w : World) (hk : k ≠ 0) (h0 : w.heap[rb]? = some (.cells [errV 36 e, sv].toArray 123 (0, 0))) : Calls Try.prog 63 #[Ptr rb 0, .iface 36 (I64 (k : Int))] w (Post w [rb] (fun v L => v = .tuple #[] ∧ L = [⟨rb, [errV 36 (erN e k), sv], 123, (0, 0)⟩])) := by
  have h := failRd_c rb e k sv w h0
  rw [errV_pos hk] at h
  exact h

theorem failRdNil_c (v : Value) (w : World) : Calls Try.prog 63 #[.pointer none, v] w (Post w [] (fun v L => v = .tuple #[] ∧ L = [])) := by
  refine enter w [] 11 [] [.pointer none, v] Try.func63 rfl rfl (by simp) (Hp.start (by simp) (by simp) (by simp)) ?_
  show JC _ _ _ [(0, .pointer none), (1, v)] _
  refine JC_seq ?_
  refine JC_region ?_
  refine JL_val _ (Ev_move rfl) rfl ?_
  refine JL_val (.bool false) (Ev_bin _ _ _ rfl rfl (fun _ => eqGuard_ptr ..) fun _ => neq_ptr_nil_nil Try.underlying83) rfl ?_
  refine JL_nil ?_
  refine JQ_then ?_
  refine JC_condF _ rfl rfl ?_
  refine JC_skip ?_
  refine JQ_end (.tuple #[]) (res0 Try.results63 ) fun w1 hw1 => ?_
  exact ⟨_, [], rfl, ⟨rfl, rfl⟩, hw1.sub (by simp) (by simp)⟩

theorem rawRB0_c (rb e : Nat) (ao : Option Addr) (n c : Nat) (s : Int) (w : World) (h0 : w.heap[rb]? = some (.cells [errV 36 e, .slice ao n c].toArray 123 (0, 0))) (he : e = 0) (hs : s < 0 ∨ (n:Int) < s) : Calls Try.prog 58 #[Ptr rb 0, I64 (s)] w (Post w [rb] (fun v L => v = .slice none 0 0 ∧ L = [⟨rb, [errV 36 (erN e 2), .slice ao n c], 123, (0, 0)⟩])) := by
  refine enter w [rb] 36 [⟨rb, [errV 36 e, .slice ao n c], 123, (0, 0)⟩] [Ptr rb 0, I64 (s)] Try.func58 rfl rfl (by simp) (Hp.start (by simpa using h0) (by simp) (by simp)) ?_
  show JC _ _ _ [(0, Ptr rb 0), (1, I64 (s))] _
  refine JC_seq ?_
  refine JC_region ?_
  refine JL_val _ (Ev_assign rfl) rfl ?_
  refine JL_nil ?_
  refine JQ_then ?_
  refine JC_seq ?_
  refine JC_seq ?_
  refine JC_region ?_
  refine JL_val _ (Ev_move rfl) rfl ?_
  refine JL_val (.bool (decide ((s) < (0:Int)))) (Ev_bini rfl rfl fun _ => bin_lss_i _ _) rfl ?_
  refine JL_val _ (Ev_move rfl) rfl ?_
  rcases Bool.eq_false_or_eq_true (decide ((s) < (0:Int))) with hb1 | hb1
  ·
    have hp1 : (s) < (0:Int) := of_decide_eq_true hb1
    refine JL_gskip 2 8 false _ rfl rfl hb1 rfl ?_
    refine JL_gskip 2 8 false _ rfl rfl hb1 rfl ?_
    refine JL_gskip 2 8 false _ rfl rfl hb1 rfl ?_
    refine JL_gskip 2 8 false _ rfl rfl hb1 rfl ?_
    refine JL_val _ (Ev_pickT _ rfl hb1 rfl) rfl ?_
    refine JL_nil ?_
    refine JQ_then ?_
    refine JC_condT _ rfl rfl ?_
    refine JC_seq ?_
    refine JC_region ?_
    refine JL_val _ (Ev_move rfl) rfl ?_
    refine JL_val (.iface 36 (I64 (2:Int))) (Ev_iface Try.underlying36 rfl rfl) rfl ?_
    refine JL_step (Step_callW 63 [Ptr rb 0, .iface 36 (I64 (2:Int))] 0 ⟨rb, [errV 36 e, .slice ao n c], 123, (0, 0)⟩ _ (fun v e' l' => v = .tuple #[] ∧ e' = ⟨rb, [errV 36 (erN e 2), .slice ao n c], 123, (0, 0)⟩ ∧ l' = []) (Cl_func [Ptr rb 0, .iface 36 (I64 (2:Int))] Try.call63 rfl) rfl (by rintro v l ⟨rfl, rfl⟩; exact ⟨_, _, rfl, rfl, rfl, rfl, rfl⟩) (fun w1 hw1 => failRdi_c rb e 2 (.slice ao n c) w1 (by decide) (hw1.ent _ (List.mem_of_getElem? (i := 0) rfl)))) rfl ?_
    rintro v1 L1 ⟨_, _, ⟨rfl, rfl, rfl⟩, rfl⟩
    show JL _ _ _ _ ((16, .tuple #[]) :: _) [⟨rb, [errV 36 (erN e 2), .slice ao n c], 123, (0, 0)⟩]
    refine JL_nil ?_
    refine JQ_then ?_
    refine JC_seq ?_
    refine JC_region ?_
    refine JL_val _ (Ev_assign rfl) rfl ?_
    refine JL_nil ?_
    refine JQ_then ?_
    refine JC_ret ?_
    refine JQ_then_ret ?_
    refine JQ_ret (.slice none 0 0) (res1 Try.results58 (RV_tmp rfl)) fun w1 hw1 => ?_
    exact ⟨_, _, rfl, ⟨rfl, rfl⟩, hw1⟩
  ·
    have hp1 : ¬ ((s) < (0:Int)) := of_decide_eq_false hb1
    refine JL_gval 2 8 false _ _ rfl rfl hb1 (Ev_move rfl) rfl ?_
    refine JL_gval 2 8 false _ _ rfl rfl hb1 (Ev_move rfl) rfl ?_
    refine JL_gstep 2 8 false _ rfl rfl hb1 (Step_callP 64 [Ptr rb 0] (I64 ((n:Int))) (Cl_func [Ptr rb 0] Try.call64 rfl) (fun w1 hw1 => leftZ_c rb e ao n c w1 (RdA.of hw1 (MemAt.ent 0 rfl (Seg.whole _)) (by simp)) he)) rfl ?_
    rintro v1 L1 ⟨rfl, rfl⟩
    show JL _ _ _ _ ((11, I64 ((n:Int))) :: _) [⟨rb, [errV 36 e, .slice ao n c], 123, (0, 0)⟩]
    refine JL_gval 2 8 false _ (.bool (decide (((n:Int)) < (s)))) rfl rfl hb1 (Ev_bini rfl rfl fun _ => bin_gtr_i _ _) rfl ?_
    refine JL_val _ (Ev_pickF _ rfl hb1 rfl) rfl ?_
    refine JL_nil ?_
    refine JQ_then ?_
    refine JC_condT _ rfl (decide_eq_true (by omega)) ?_
    refine JC_seq ?_
    refine JC_region ?_
    refine JL_val _ (Ev_move rfl) rfl ?_
    refine JL_val (.iface 36 (I64 (2:Int))) (Ev_iface Try.underlying36 rfl rfl) rfl ?_
    refine JL_step (Step_callW 63 [Ptr rb 0, .iface 36 (I64 (2:Int))] 0 ⟨rb, [errV 36 e, .slice ao n c], 123, (0, 0)⟩ _ (fun v e' l' => v = .tuple #[] ∧ e' = ⟨rb, [errV 36 (erN e 2), .slice ao n c], 123, (0, 0)⟩ ∧ l' = []) (Cl_func [Ptr rb 0, .iface 36 (I64 (2:Int))] Try.call63 rfl) rfl (by rintro v l ⟨rfl, rfl⟩; exact ⟨_, _, rfl, rfl, rfl, rfl, rfl⟩) (fun w1 hw1 => failRdi_c rb e 2 (.slice ao n c) w1 (by decide) (hw1.ent _ (List.mem_of_getElem? (i := 0) rfl)))) rfl ?_
    rintro v1 L1 ⟨_, _, ⟨rfl, rfl, rfl⟩, rfl⟩
    show JL _ _ _ _ ((16, .tuple #[]) :: _) [⟨rb, [errV 36 (erN e 2), .slice ao n c], 123, (0, 0)⟩]
    refine JL_nil ?_
    refine JQ_then ?_
    refine JC_seq ?_
    refine JC_region ?_
    refine JL_val _ (Ev_assign rfl) rfl ?_
    refine JL_nil ?_
    refine JQ_then ?_
    refine JC_ret ?_
    refine JQ_then_ret ?_
    refine JQ_ret (.slice none 0 0) (res1 Try.results58 (RV_tmp rfl)) fun w1 hw1 => ?_
    exact ⟨_, _, rfl, ⟨rfl, rfl⟩, hw1⟩

theorem rawRB1_c (rb e : Nat) (sv : Value) (s : Int) (w : World) (h0 : w.heap[rb]? = some (.cells [errV 36 e, sv].toArray 123 (0, 0))) (he : e ≠ 0) (hs : s ≠ 0) : Calls Try.prog 58 #[Ptr rb 0, I64 (s)] w (Post w [rb] (fun v L => v = .slice none 0 0 ∧ L = [⟨rb, [errV 36 (erN e 2), sv], 123, (0, 0)⟩])) := by
  refine enter w [rb] 36 [⟨rb, [errV 36 e, sv], 123, (0, 0)⟩] [Ptr rb 0, I64 (s)] Try.func58 rfl rfl (by simp) (Hp.start (by simpa using h0) (by simp) (by simp)) ?_
  show JC _ _ _ [(0, Ptr rb 0), (1, I64 (s))] _
  refine JC_seq ?_
  refine JC_region ?_
  refine JL_val _ (Ev_assign rfl) rfl ?_
  refine JL_nil ?_
  refine JQ_then ?_
  refine JC_seq ?_
  refine JC_seq ?_
  refine JC_region ?_
  refine JL_val _ (Ev_move rfl) rfl ?_
  refine JL_val (.bool (decide ((s) < (0:Int)))) (Ev_bini rfl rfl fun _ => bin_lss_i _ _) rfl ?_
  refine JL_val _ (Ev_move rfl) rfl ?_
  rcases Bool.eq_false_or_eq_true (decide ((s) < (0:Int))) with hb1 | hb1
  ·
    have hp1 : (s) < (0:Int) := of_decide_eq_true hb1
    refine JL_gskip 2 8 false _ rfl rfl hb1 rfl ?_
    refine JL_gskip 2 8 false _ rfl rfl hb1 rfl ?_
    refine JL_gskip 2 8 false _ rfl rfl hb1 rfl ?_
    refine JL_gskip 2 8 false _ rfl rfl hb1 rfl ?_
    refine JL_val _ (Ev_pickT _ rfl hb1 rfl) rfl ?_
    refine JL_nil ?_
    refine JQ_then ?_
    refine JC_condT _ rfl rfl ?_
    refine JC_seq ?_
    refine JC_region ?_
    refine JL_val _ (Ev_move rfl) rfl ?_
    refine JL_val (.iface 36 (I64 (2:Int))) (Ev_iface Try.underlying36 rfl rfl) rfl ?_
    refine JL_step (Step_callW 63 [Ptr rb 0, .iface 36 (I64 (2:Int))] 0 ⟨rb, [errV 36 e, sv], 123, (0, 0)⟩ _ (fun v e' l' => v = .tuple #[] ∧ e' = ⟨rb, [errV 36 (erN e 2), sv], 123, (0, 0)⟩ ∧ l' = []) (Cl_func [Ptr rb 0, .iface 36 (I64 (2:Int))] Try.call63 rfl) rfl (by rintro v l ⟨rfl, rfl⟩; exact ⟨_, _, rfl, rfl, rfl, rfl, rfl⟩) (fun w1 hw1 => failRdi_c rb e 2 sv w1 (by decide) (hw1.ent _ (List.mem_of_getElem? (i := 0) rfl)))) rfl ?_
    rintro v1 L1 ⟨_, _, ⟨rfl, rfl, rfl⟩, rfl⟩
    show JL _ _ _ _ ((16, .tuple #[]) :: _) [⟨rb, [errV 36 (erN e 2), sv], 123, (0, 0)⟩]
    refine JL_nil ?_
    refine JQ_then ?_
    refine JC_seq ?_
    refine JC_region ?_
    refine JL_val _ (Ev_assign rfl) rfl ?_
    refine JL_nil ?_
    refine JQ_then ?_
    refine JC_ret ?_
    refine JQ_then_ret ?_
    refine JQ_ret (.slice none 0 0) (res1 Try.results58 (RV_tmp rfl)) fun w1 hw1 => ?_
    exact ⟨_, _, rfl, ⟨rfl, rfl⟩, hw1⟩
  ·
    have hp1 : ¬ ((s) < (0:Int)) := of_decide_eq_false hb1
    refine JL_gval 2 8 false _ _ rfl rfl hb1 (Ev_move rfl) rfl ?_
    refine JL_gval 2 8 false _ _ rfl rfl hb1 (Ev_move rfl) rfl ?_
    refine JL_gstep 2 8 false _ rfl rfl hb1 (Step_callP 64 [Ptr rb 0] (I64 (0:Int)) (Cl_func [Ptr rb 0] Try.call64 rfl) (fun w1 hw1 => leftE_c rb e sv w1 (RdA.of hw1 (MemAt.ent 0 rfl (Seg.whole _)) (by simp)) he)) rfl ?_
    rintro v1 L1 ⟨rfl, rfl⟩
    show JL _ _ _ _ ((11, I64 (0:Int)) :: _) [⟨rb, [errV 36 e, sv], 123, (0, 0)⟩]
    refine JL_gval 2 8 false _ (.bool (decide ((0:Int) < (s)))) rfl rfl hb1 (Ev_bini rfl rfl fun _ => bin_gtr_i _ _) rfl ?_
    refine JL_val _ (Ev_pickF _ rfl hb1 rfl) rfl ?_
    refine JL_nil ?_
    refine JQ_then ?_
    refine JC_condT _ rfl (decide_eq_true (by omega)) ?_
    refine JC_seq ?_
    refine JC_region ?_
    refine JL_val _ (Ev_move rfl) rfl ?_
    refine JL_val (.iface 36 (I64 (2:Int))) (Ev_iface Try.underlying36 rfl rfl) rfl ?_
    refine JL_step (Step_callW 63 [Ptr rb 0, .iface 36 (I64 (2:Int))] 0 ⟨rb, [errV 36 e, sv], 123, (0, 0)⟩ _ (fun v e' l' => v = .tuple #[] ∧ e' = ⟨rb, [errV 36 (erN e 2), sv], 123, (0, 0)⟩ ∧ l' = []) (Cl_func [Ptr rb 0, .iface 36 (I64 (2:Int))] Try.call63 rfl) rfl (by rintro v l ⟨rfl, rfl⟩; exact ⟨_, _, rfl, rfl, rfl, rfl, rfl⟩) (fun w1 hw1 => failRdi_c rb e 2 sv w1 (by decide) (hw1.ent _ (List.mem_of_getElem? (i := 0) rfl)))) rfl ?_
    rintro v1 L1 ⟨_, _, ⟨rfl, rfl, rfl⟩, rfl⟩
    show JL _ _ _ _ ((16, .tuple #[]) :: _) [⟨rb, [errV 36 (erN e 2), sv], 123, (0, 0)⟩]
    refine JL_nil ?_
    refine JQ_then ?_
    refine JC_seq ?_
    refine JC_region ?_
    refine JL_val _ (Ev_assign rfl) rfl ?_
    refine JL_nil ?_
    refine JQ_then ?_
    refine JC_ret ?_
    refine JQ_then_ret ?_
    refine JQ_ret (.slice none 0 0) (res1 Try.results58 (RV_tmp rfl)) fun w1 hw1 => ?_
    exact ⟨_, _, rfl, ⟨rfl, rfl⟩, hw1⟩

theorem rawRZ0_c (rb e : Nat) (ao : Option Addr) (n c : Nat) (s : Int) (w : World) (h0 : w.heap[rb]? = some (.cells [errV 36 e, .slice ao n c].toArray 123 (0, 0))) (he : e = 0) (hs : s = 0) : Calls Try.prog 58 #[Ptr rb 0, I64 (s)] w (Post w [rb] (fun v L => v = .slice none 0 0 ∧ L = [⟨rb, [errV 36 e, .slice ao n c], 123, (0, 0)⟩])) := by
  refine enter w [rb] 36 [⟨rb, [errV 36 e, .slice ao n c], 123, (0, 0)⟩] [Ptr rb 0, I64 (s)] Try.func58 rfl rfl (by simp) (Hp.start (by simpa using h0) (by simp) (by simp)) ?_
  show JC _ _ _ [(0, Ptr rb 0), (1, I64 (s))] _
  refine JC_seq ?_
  refine JC_region ?_
  refine JL_val _ (Ev_assign rfl) rfl ?_
  refine JL_nil ?_
  refine JQ_then ?_
  refine JC_seq ?_
  refine JC_seq ?_
  refine JC_region ?_
  refine JL_val _ (Ev_move rfl) rfl ?_
  refine JL_val (.bool (decide ((s) < (0:Int)))) (Ev_bini rfl rfl fun _ => bin_lss_i _ _) rfl ?_
  refine JL_val _ (Ev_move rfl) rfl ?_
  refine JL_gval 2 8 false _ _ rfl rfl (decide_eq_false (by omega)) (Ev_move rfl) rfl ?_
  refine JL_gval 2 8 false _ _ rfl rfl (decide_eq_false (by omega)) (Ev_move rfl) rfl ?_
  refine JL_gstep 2 8 false _ rfl rfl (decide_eq_false (by omega)) (Step_callP 64 [Ptr rb 0] (I64 ((n:Int))) (Cl_func [Ptr rb 0] Try.call64 rfl) (fun w1 hw1 => leftZ_c rb e ao n c w1 (RdA.of hw1 (MemAt.ent 0 rfl (Seg.whole _)) (by simp)) he)) rfl ?_
  rintro v1 L1 ⟨rfl, rfl⟩
  show JL _ _ _ _ ((11, I64 ((n:Int))) :: _) [⟨rb, [errV 36 e, .slice ao n c], 123, (0, 0)⟩]
  refine JL_gval 2 8 false _ (.bool (decide (((n:Int)) < (s)))) rfl rfl (decide_eq_false (by omega)) (Ev_bini rfl rfl fun _ => bin_gtr_i _ _) rfl ?_
  refine JL_val _ (Ev_pickF _ rfl (decide_eq_false (by omega)) rfl) rfl ?_
  refine JL_nil ?_
  refine JQ_then ?_
  refine JC_condF _ rfl (decide_eq_false (by omega)) ?_
  refine JC_skip ?_
  refine JQ_then ?_
  refine JC_seq ?_
  refine JC_seq ?_
  refine JC_region ?_
  refine JL_val _ (Ev_move rfl) rfl ?_
  refine JL_val (.bool (decide ((s) = (0:Int)))) (Ev_bini rfl rfl fun _ => bin_eql_i _ _) rfl ?_
  refine JL_nil ?_
  refine JQ_then ?_
  refine JC_condT _ rfl (decide_eq_true (by omega)) ?_
  refine JC_seq ?_
  refine JC_region ?_
  refine JL_val _ (Ev_assign rfl) rfl ?_
  refine JL_nil ?_
  refine JQ_then ?_
  refine JC_ret ?_
  refine JQ_then_ret ?_
  refine JQ_ret (.slice none 0 0) (res1 Try.results58 (RV_tmp rfl)) fun w1 hw1 => ?_
  exact ⟨_, _, rfl, ⟨rfl, rfl⟩, hw1⟩

theorem rawRZ1_c (rb e : Nat) (sv : Value) (s : Int) (w : World) (h0 : w.heap[rb]? = some (.cells [errV 36 e, sv].toArray 123 (0, 0))) (he : e ≠ 0) (hs : s = 0) : Calls Try.prog 58 #[Ptr rb 0, I64 (s)] w (Post w [rb] (fun v L => v = .slice none 0 0 ∧ L = [⟨rb, [errV 36 e, sv], 123, (0, 0)⟩])) := by
  refine enter w [rb] 36 [⟨rb, [errV 36 e, sv], 123, (0, 0)⟩] [Ptr rb 0, I64 (s)] Try.func58 rfl rfl (by simp) (Hp.start (by simpa using h0) (by simp) (by simp)) ?_
  show JC _ _ _ [(0, Ptr rb 0), (1, I64 (s))] _
  refine JC_seq ?_
  refine JC_region ?_
  refine JL_val _ (Ev_assign rfl) rfl ?_
  refine JL_nil ?_
  refine JQ_then ?_
  refine JC_seq ?_
  refine JC_seq ?_
  refine JC_region ?_
  refine JL_val _ (Ev_move rfl) rfl ?_
  refine JL_val (.bool (decide ((s) < (0:Int)))) (Ev_bini rfl rfl fun _ => bin_lss_i _ _) rfl ?_
  refine JL_val _ (Ev_move rfl) rfl ?_
  refine JL_gval 2 8 false _ _ rfl rfl (decide_eq_false (by omega)) (Ev_move rfl) rfl ?_
  refine JL_gval 2 8 false _ _ rfl rfl (decide_eq_false (by omega)) (Ev_move rfl) rfl ?_
  refine JL_gstep 2 8 false _ rfl rfl (decide_eq_false (by omega)) (Step_callP 64 [Ptr rb 0] (I64 (0:Int)) (Cl_func [Ptr rb 0] Try.call64 rfl) (fun w1 hw1 => leftE_c rb e sv w1 (RdA.of hw1 (MemAt.ent 0 rfl (Seg.whole _)) (by simp)) he)) rfl ?_
  rintro v1 L1 ⟨rfl, rfl⟩
  show JL _ _ _ _ ((11, I64 (0:Int)) :: _) [⟨rb, [errV 36 e, sv], 123, (0, 0)⟩]
  refine JL_gval 2 8 false _ (.bool (decide ((0:Int) < (s)))) rfl rfl (decide_eq_false (by omega)) (Ev_bini rfl rfl fun _ => bin_gtr_i _ _) rfl ?_
  refine JL_val _ (Ev_pickF _ rfl (decide_eq_false (by omega)) rfl) rfl ?_
  refine JL_nil ?_
  refine JQ_then ?_
  refine JC_condF _ rfl (decide_eq_false (by omega)) ?_
  refine JC_skip ?_
  refine JQ_then ?_
  refine JC_seq ?_
  refine JC_seq ?_
  refine JC_region ?_
  refine JL_val _ (Ev_move rfl) rfl ?_
  refine JL_val (.bool (decide ((s) = (0:Int)))) (Ev_bini rfl rfl fun _ => bin_eql_i _ _) rfl ?_
  refine JL_nil ?_
  refine JQ_then ?_
  refine JC_condT _ rfl (decide_eq_true (by omega)) ?_
  refine JC_seq ?_
  refine JC_region ?_
  refine JL_val _ (Ev_assign rfl) rfl ?_
  refine JL_nil ?_
  refine JQ_then ?_
  refine JC_ret ?_
  refine JQ_then_ret ?_
  refine JQ_ret (.slice none 0 0) (res1 Try.results58 (RV_tmp rfl)) fun w1 hw1 => ?_
  exact ⟨_, _, rfl, ⟨rfl, rfl⟩, hw1⟩

theorem rawROk_c (rb e : Nat) (ao : Option Addr) (n c : Nat) (z : List UInt8) (s n2 c2 : Nat) (w : World) (h0 : w.heap[rb]? = some (.cells [errV 36 e, .slice ao n c].toArray 123 (0, 0))) (hz : z.length = n) (hn : n ≤ 2000000000) (hc : n ≤ c) (hcm : c ≤ maxLen) (hr : RdB w [rb] ao z) (he : e = 0) (h1 : 0 < s) (h2 : s ≤ n) (ht1 : s + n2 = n) (ht2 : s + c2 = c) : Calls Try.prog 58 #[Ptr rb 0, I64 ((s:Int))] w (Post w [rb] (fun v L => ∃ g sp cap, v = Slc g 0 s cap ∧ L = [⟨rb, [errV 36 e, .slice (advA ao c s) n2 c2], 123, (0, 0)⟩, ⟨g, cu8 (mid z 0 s) ++ sp, 5, (0, 0)⟩] ∧ sp.length = cap - s ∧ s ≤ cap ∧ cap ≤ maxLen)) := by
  have hsome : ao.isNone = false := by
    obtain ⟨_, _, ha, _⟩ := hr.pos (by omega)
    rw [ha]; rfl
  refine enter w [rb] 36 [⟨rb, [errV 36 e, .slice ao n c], 123, (0, 0)⟩] [Ptr rb 0, I64 ((s:Int))] Try.func58 rfl rfl (by simp) (Hp.start (by simpa using h0) (by simp) (by simp)) ?_
  show JC _ _ _ [(0, Ptr rb 0), (1, I64 ((s:Int)))] _
  refine JC_seq ?_
  refine JC_region ?_
  refine JL_val _ (Ev_assign rfl) rfl ?_
  refine JL_nil ?_
  refine JQ_then ?_
  refine JC_seq ?_
  refine JC_seq ?_
  refine JC_region ?_
  refine JL_val _ (Ev_move rfl) rfl ?_
  refine JL_val (.bool (decide (((s:Int)) < (0:Int)))) (Ev_bini rfl rfl fun _ => bin_lss_i _ _) rfl ?_
  refine JL_val _ (Ev_move rfl) rfl ?_
  refine JL_gval 2 8 false _ _ rfl rfl (decide_eq_false (by omega)) (Ev_move rfl) rfl ?_
  refine JL_gval 2 8 false _ _ rfl rfl (decide_eq_false (by omega)) (Ev_move rfl) rfl ?_
  refine JL_gstep 2 8 false _ rfl rfl (decide_eq_false (by omega)) (Step_callP 64 [Ptr rb 0] (I64 ((n:Int))) (Cl_func [Ptr rb 0] Try.call64 rfl) (fun w1 hw1 => leftZ_c rb e ao n c w1 (RdA.of hw1 (MemAt.ent 0 rfl (Seg.whole _)) (by simp)) he)) rfl ?_
  rintro v1 L1 ⟨rfl, rfl⟩
  show JL _ _ _ _ ((11, I64 ((n:Int))) :: _) [⟨rb, [errV 36 e, .slice ao n c], 123, (0, 0)⟩]
  refine JL_gval 2 8 false _ (.bool (decide (((n:Int)) < ((s:Int))))) rfl rfl (decide_eq_false (by omega)) (Ev_bini rfl rfl fun _ => bin_gtr_i _ _) rfl ?_
  refine JL_val _ (Ev_pickF _ rfl (decide_eq_false (by omega)) rfl) rfl ?_
  refine JL_nil ?_
  refine JQ_then ?_
  refine JC_condF _ rfl (decide_eq_false (by omega)) ?_
  refine JC_skip ?_
  refine JQ_then ?_
  refine JC_seq ?_
  refine JC_seq ?_
  refine JC_region ?_
  refine JL_val _ (Ev_move rfl) rfl ?_
  refine JL_val (.bool (decide (((s:Int)) = (0:Int)))) (Ev_bini rfl rfl fun _ => bin_eql_i _ _) rfl ?_
  refine JL_nil ?_
  refine JQ_then ?_
  refine JC_condF _ rfl (decide_eq_false (by omega)) ?_
  refine JC_skip ?_
  refine JQ_then ?_
  refine JC_seq ?_
  refine JC_region ?_
  refine JL_val _ (Ev_move rfl) rfl ?_
  refine JL_val _ (Ev_nilCheck rfl) rfl ?_
  refine JL_val (Ptr rb 1) (Ev_fieldAddr 1 38 1 Try.underlying123 rfl Try.sizeOf38 rfl rfl) rfl ?_
  refine JL_val (.slice ao n c) (Ev_load rfl (Ld_one Try.isAgg38 (MemAt.ent 0 rfl (Seg.tail (Seg.head))))) rfl ?_
  refine JL_val _ (Ev_move rfl) rfl ?_
  have hl1 : (mid z 0 s).length = s := mid_len (by rw [hz]; omega)
  have hr1 := RdB.pre hr s
  refine JL_val (.slice ao s c) (Ev_sliceHi 5 1 s Try.underlying38 Try.sizeOf5 rfl rfl (by omega)) rfl ?_
  refine JL_step (Step_callN 83 [.slice ao s c] _ (Cl_func [.slice ao s c] Try.call83 rfl) (fun w1 hw1 => sclone_c ao s c (mid z 0 s) w1 hsome hl1 (by omega) (hr1.at (M' := []) hw1 (by simp)))) rfl ?_
  rintro v1 L1 ⟨_, ⟨nb1, sp1, cp1, rfl, rfl, hc1, hc2, hc3⟩, rfl⟩
  show JL _ _ _ _ ((25, Slc nb1 0 s cp1) :: _) [⟨rb, [errV 36 e, .slice ao n c], 123, (0, 0)⟩, ⟨nb1, cu8 (mid z 0 s) ++ sp1, 5, (0, 0)⟩]
  refine JL_val _ (Ev_assign rfl) rfl ?_
  refine JL_nil ?_
  refine JQ_then ?_
  refine JC_seq ?_
  refine JC_region ?_
  refine JL_val _ (Ev_move rfl) rfl ?_
  refine JL_val _ (Ev_move rfl) rfl ?_
  refine JL_val _ (Ev_nilCheck rfl) rfl ?_
  refine JL_val (Ptr rb 1) (Ev_fieldAddr 1 38 1 Try.underlying123 rfl Try.sizeOf38 rfl rfl) rfl ?_
  refine JL_val (.slice ao n c) (Ev_load rfl (Ld_one Try.isAgg38 (MemAt.ent 0 rfl (Seg.tail (Seg.head))))) rfl ?_
  refine JL_val _ (Ev_move rfl) rfl ?_
  have hl2 : (z.drop s).length = (n - s) := by rw [List.length_drop, hz] <;> omega
  have hr2 := RdB.adv (c := c) hr s (by rw [hz]; omega) (by rw [hz]; omega)
  refine JL_val (.slice (advA ao c s) (n - s) (c - s)) (Ev_sliceLo 5 s (n - s) (c - s) Try.underlying38 Try.sizeOf5 rfl rfl (by omega) (by omega) (by omega) (by omega)) rfl ?_
  refine JL_val _ (Ev_nilCheck rfl) rfl ?_
  refine JL_val (Ptr rb 1) (Ev_fieldAddr 1 38 1 Try.underlying123 rfl Try.sizeOf38 rfl rfl) rfl ?_
  refine JL_step (Step_store 0 rb 1 1 ([errV 36 e, .slice ao n c]) 123 (.slice (advA ao c s) (n - s) (c - s)) ([.slice (advA ao c s) (n - s) (c - s)]) ([errV 36 e, .slice (advA ao c s) (n - s) (c - s)]) rfl rfl rfl rfl Try.sizeOf38 rfl (by simp [Value.oneCell']) (Nat.le_of_ble_eq_true rfl) (rfl)) rfl ?_
  rintro v1 L1 ⟨rfl, rfl⟩
  show JL _ _ _ _ _ [⟨rb, [errV 36 e, .slice (advA ao c s) (n - s) (c - s)], 123, (0, 0)⟩, ⟨nb1, cu8 (mid z 0 s) ++ sp1, 5, (0, 0)⟩]
  refine JL_nil ?_
  refine JQ_then ?_
  refine JC_seq ?_
  refine JC_region ?_
  refine JL_val _ (Ev_move rfl) rfl ?_
  refine JL_val _ (Ev_assign rfl) rfl ?_
  refine JL_nil ?_
  refine JQ_then ?_
  refine JC_ret ?_
  refine JQ_ret (Slc nb1 0 s cp1) (res1 Try.results58 (RV_tmp rfl)) fun w1 hw1 => ?_
  obtain rfl : n2 = (n - s) := by omega
  obtain rfl : c2 = (c - s) := by omega
  exact ⟨_, _, rfl, ⟨nb1, sp1, cp1, rfl, rfl, hc1, hc2, hc3⟩, hw1⟩

theorem rawRNil_c (s : Int) (w : World) : Calls Try.prog 58 #[.pointer none, I64 (s)] w (Post w [] (fun v L => v = .slice none 0 0 ∧ L = [])) := by
  refine enter w [] 36 [] [.pointer none, I64 (s)] Try.func58 rfl rfl (by simp) (Hp.start (by simp) (by simp) (by simp)) ?_
  show JC _ _ _ [(0, .pointer none), (1, I64 (s))] _
  refine JC_seq ?_
  refine JC_region ?_
  refine JL_val _ (Ev_assign rfl) rfl ?_
  refine JL_nil ?_
  refine JQ_then ?_
  refine JC_seq ?_
  refine JC_seq ?_
  refine JC_region ?_
  refine JL_val _ (Ev_move rfl) rfl ?_
  refine JL_val (.bool (decide ((s) < (0:Int)))) (Ev_bini rfl rfl fun _ => bin_lss_i _ _) rfl ?_
  refine JL_val _ (Ev_move rfl) rfl ?_
  rcases Bool.eq_false_or_eq_true (decide ((s) < (0:Int))) with hb1 | hb1
  ·
    have hp1 : (s) < (0:Int) := of_decide_eq_true hb1
    refine JL_gskip 2 8 false _ rfl rfl hb1 rfl ?_
    refine JL_gskip 2 8 false _ rfl rfl hb1 rfl ?_
    refine JL_gskip 2 8 false _ rfl rfl hb1 rfl ?_
    refine JL_gskip 2 8 false _ rfl rfl hb1 rfl ?_
    refine JL_val _ (Ev_pickT _ rfl hb1 rfl) rfl ?_
    refine JL_nil ?_
    refine JQ_then ?_
    refine JC_condT _ rfl rfl ?_
    refine JC_seq ?_
    refine JC_region ?_
    refine JL_val _ (Ev_move rfl) rfl ?_
    refine JL_val (.iface 36 (I64 (2:Int))) (Ev_iface Try.underlying36 rfl rfl) rfl ?_
    refine JL_step (Step_callP 63 [.pointer none, .iface 36 (I64 (2:Int))] (.tuple #[]) (Cl_func [.pointer none, .iface 36 (I64 (2:Int))] Try.call63 rfl) (fun w1 hw1 => failRdNil_c (.iface 36 (I64 (2:Int))) w1)) rfl ?_
    rintro v1 L1 ⟨rfl, rfl⟩
    show JL _ _ _ _ ((16, .tuple #[]) :: _) []
    refine JL_nil ?_
    refine JQ_then ?_
    refine JC_seq ?_
    refine JC_region ?_
    refine JL_val _ (Ev_assign rfl) rfl ?_
    refine JL_nil ?_
    refine JQ_then ?_
    refine JC_ret ?_
    refine JQ_then_ret ?_
    refine JQ_ret (.slice none 0 0) (res1 Try.results58 (RV_tmp rfl)) fun w1 hw1 => ?_
    exact ⟨_, [], rfl, ⟨rfl, rfl⟩, hw1.sub (by simp) (by simp)⟩
  ·
    have hp1 : ¬ ((s) < (0:Int)) := of_decide_eq_false hb1
    refine JL_gval 2 8 false _ _ rfl rfl hb1 (Ev_move rfl) rfl ?_
    refine JL_gval 2 8 false _ _ rfl rfl hb1 (Ev_move rfl) rfl ?_
    refine JL_gstep 2 8 false _ rfl rfl hb1 (Step_callP 64 [.pointer none] (I64 (0:Int)) (Cl_func [.pointer none] Try.call64 rfl) (fun w1 hw1 => leftNil_c w1)) rfl ?_
    rintro v1 L1 ⟨rfl, rfl⟩
    show JL _ _ _ _ ((11, I64 (0:Int)) :: _) []
    refine JL_gval 2 8 false _ (.bool (decide ((0:Int) < (s)))) rfl rfl hb1 (Ev_bini rfl rfl fun _ => bin_gtr_i _ _) rfl ?_
    refine JL_val _ (Ev_pickF _ rfl hb1 rfl) rfl ?_
    refine JL_nil ?_
    refine JQ_then ?_
    refine JC_cond (decide ((0:Int) < (s))) rfl (fun hb2 => ?_) (fun hb2 => ?_)
    ·
      have hp2 : (0:Int) < (s) := of_decide_eq_true hb2
      refine JC_seq ?_
      refine JC_region ?_
      refine JL_val _ (Ev_move rfl) rfl ?_
      refine JL_val (.iface 36 (I64 (2:Int))) (Ev_iface Try.underlying36 rfl rfl) rfl ?_
      refine JL_step (Step_callP 63 [.pointer none, .iface 36 (I64 (2:Int))] (.tuple #[]) (Cl_func [.pointer none, .iface 36 (I64 (2:Int))] Try.call63 rfl) (fun w1 hw1 => failRdNil_c (.iface 36 (I64 (2:Int))) w1)) rfl ?_
      rintro v1 L1 ⟨rfl, rfl⟩
      show JL _ _ _ _ ((16, .tuple #[]) :: _) []
      refine JL_nil ?_
      refine JQ_then ?_
      refine JC_seq ?_
      refine JC_region ?_
      refine JL_val _ (Ev_assign rfl) rfl ?_
      refine JL_nil ?_
      refine JQ_then ?_
      refine JC_ret ?_
      refine JQ_then_ret ?_
      refine JQ_ret (.slice none 0 0) (res1 Try.results58 (RV_tmp rfl)) fun w1 hw1 => ?_
      exact ⟨_, [], rfl, ⟨rfl, rfl⟩, hw1.sub (by simp) (by simp)⟩
    ·
      have hp2 : ¬ ((0:Int) < (s)) := of_decide_eq_false hb2
      refine JC_skip ?_
      refine JQ_then ?_
      refine JC_seq ?_
      refine JC_seq ?_
      refine JC_region ?_
      refine JL_val _ (Ev_move rfl) rfl ?_
      refine JL_val (.bool (decide ((s) = (0:Int)))) (Ev_bini rfl rfl fun _ => bin_eql_i _ _) rfl ?_
      refine JL_nil ?_
      refine JQ_then ?_
      refine JC_condT _ rfl (decide_eq_true (by omega)) ?_
      refine JC_seq ?_
      refine JC_region ?_
      refine JL_val _ (Ev_assign rfl) rfl ?_
      refine JL_nil ?_
      refine JQ_then ?_
      refine JC_ret ?_
      refine JQ_then_ret ?_
      refine JQ_ret (.slice none 0 0) (res1 Try.results58 (RV_tmp rfl)) fun w1 hw1 => ?_
      exact ⟨_, [], rfl, ⟨rfl, rfl⟩, hw1.sub (by simp) (by simp)⟩

theorem numRF_c (rb e : Nat) (sv : Value) (s : Int) (w : World) (h0 : w.heap[rb]? = some (.cells [errV 36 e, sv].toArray 123 (0, 0))) (hs : ¬ Szd s) : Calls Try.prog 54 #[Ptr rb 0, I64 (s)] w (Post w [rb] (fun v L => v = U64 0 ∧ L = [⟨rb, [errV 36 (erN e 2), sv], 123, (0, 0)⟩])) := by
  refine enter w [rb] 29 [⟨rb, [errV 36 e, sv], 123, (0, 0)⟩] [Ptr rb 0, I64 (s)] Try.func54 rfl rfl (by simp) (Hp.start (by simpa using h0) (by simp) (by simp)) ?_
  show JC _ _ _ [(0, Ptr rb 0), (1, I64 (s))] _
  refine JC_seq ?_
  refine JC_region ?_
  refine JL_val _ (Ev_assign rfl) rfl ?_
  refine JL_nil ?_
  refine JQ_then ?_
  refine JC_seq ?_
  refine JC_seq ?_
  refine JC_region ?_
  refine JL_val _ (Ev_move rfl) rfl ?_
  refine JL_step (Step_callP 79 [I64 (s)] (.bool false) (Cl_func [I64 (s)] Try.call79 rfl) (fun w1 _ => sizedF_c (s) w1 hs)) rfl ?_
  rintro v1 L1 ⟨rfl, rfl⟩
  show JL _ _ _ _ ((9, .bool false) :: _) [⟨rb, [errV 36 e, sv], 123, (0, 0)⟩]
  refine JL_val (.bool (!false)) (Ev_not rfl) rfl ?_
  refine JL_nil ?_
  refine JQ_then ?_
  refine JC_condT _ rfl rfl ?_
  refine JC_seq ?_
  refine JC_region ?_
  refine JL_val _ (Ev_move rfl) rfl ?_
  refine JL_val (.iface 36 (I64 (2:Int))) (Ev_iface Try.underlying36 rfl rfl) rfl ?_
  refine JL_step (Step_callW 63 [Ptr rb 0, .iface 36 (I64 (2:Int))] 0 ⟨rb, [errV 36 e, sv], 123, (0, 0)⟩ _ (fun v e' l' => v = .tuple #[] ∧ e' = ⟨rb, [errV 36 (erN e 2), sv], 123, (0, 0)⟩ ∧ l' = []) (Cl_func [Ptr rb 0, .iface 36 (I64 (2:Int))] Try.call63 rfl) rfl (by rintro v l ⟨rfl, rfl⟩; exact ⟨_, _, rfl, rfl, rfl, rfl, rfl⟩) (fun w1 hw1 => failRdi_c rb e 2 sv w1 (by decide) (hw1.ent _ (List.mem_of_getElem? (i := 0) rfl)))) rfl ?_
  rintro v1 L1 ⟨_, _, ⟨rfl, rfl, rfl⟩, rfl⟩
  show JL _ _ _ _ ((13, .tuple #[]) :: _) [⟨rb, [errV 36 (erN e 2), sv], 123, (0, 0)⟩]
  refine JL_nil ?_
  refine JQ_then ?_
  refine JC_seq ?_
  refine JC_region ?_
  refine JL_val _ (Ev_assign rfl) rfl ?_
  refine JL_nil ?_
  refine JQ_then ?_
  refine JC_ret ?_
  refine JQ_then_ret ?_
  refine JQ_ret (U64 (0:UInt64)) (res1 Try.results54 (RV_tmp rfl)) fun w1 hw1 => ?_
  exact ⟨_, _, rfl, ⟨rfl, rfl⟩, hw1⟩

theorem numRS_c (rb e : Nat) (ao : Option Addr) (n c : Nat) (s : Int) (w : World) (h0 : w.heap[rb]? = some (.cells [errV 36 e, .slice ao n c].toArray 123 (0, 0))) (he : e = 0) (hs : Szd s) (hn : (n:Int) < s) : Calls Try.prog 54 #[Ptr rb 0, I64 (s)] w (Post w [rb] (fun v L => v = U64 0 ∧ L = [⟨rb, [errV 36 (erN e 2), .slice ao n c], 123, (0, 0)⟩])) := by
  refine enter w [rb] 29 [⟨rb, [errV 36 e, .slice ao n c], 123, (0, 0)⟩] [Ptr rb 0, I64 (s)] Try.func54 rfl rfl (by simp) (Hp.start (by simpa using h0) (by simp) (by simp)) ?_
  show JC _ _ _ [(0, Ptr rb 0), (1, I64 (s))] _
  refine JC_seq ?_
  refine JC_region ?_
  refine JL_val _ (Ev_assign rfl) rfl ?_
  refine JL_nil ?_
  refine JQ_then ?_
  refine JC_seq ?_
  refine JC_seq ?_
  refine JC_region ?_
  refine JL_val _ (Ev_move rfl) rfl ?_
  refine JL_step (Step_callP 79 [I64 (s)] (.bool true) (Cl_func [I64 (s)] Try.call79 rfl) (fun w1 _ => sizedT_c (s) w1 hs)) rfl ?_
  rintro v1 L1 ⟨rfl, rfl⟩
  show JL _ _ _ _ ((9, .bool true) :: _) [⟨rb, [errV 36 e, .slice ao n c], 123, (0, 0)⟩]
  refine JL_val (.bool (!true)) (Ev_not rfl) rfl ?_
  refine JL_nil ?_
  refine JQ_then ?_
  refine JC_condF _ rfl rfl ?_
  refine JC_skip ?_
  refine JQ_then ?_
  refine JC_seq ?_
  refine JC_region ?_
  refine JL_val _ (Ev_assign rfl) rfl ?_
  refine JL_nil ?_
  refine JQ_then ?_
  refine JC_seq ?_
  refine JC_seq ?_
  refine JC_region ?_
  refine JL_val _ (Ev_move rfl) rfl ?_
  refine JL_val _ (Ev_move rfl) rfl ?_
  refine JL_step (Step_callW 58 [Ptr rb 0, I64 (s)] 0 ⟨rb, [errV 36 e, .slice ao n c], 123, (0, 0)⟩ _ (fun v e' l' => v = .slice none 0 0 ∧ e' = ⟨rb, [errV 36 (erN e 2), .slice ao n c], 123, (0, 0)⟩ ∧ l' = []) (Cl_func [Ptr rb 0, I64 (s)] Try.call58 rfl) rfl (by rintro v l ⟨rfl, rfl⟩; exact ⟨_, _, rfl, rfl, rfl, rfl, rfl⟩) (fun w1 hw1 => rawRB0_c rb e ao n c (s) w1 (hw1.ent _ (List.mem_of_getElem? (i := 0) rfl)) he (.inr hn))) rfl ?_
  rintro v1 L1 ⟨_, _, ⟨rfl, rfl, rfl⟩, rfl⟩
  show JL _ _ _ _ ((16, .slice none 0 0) :: _) [⟨rb, [errV 36 (erN e 2), .slice ao n c], 123, (0, 0)⟩]
  refine JL_val (I64 (0:Int)) (Ev_len Try.underlying38 rfl) rfl ?_
  refine JL_val _ (Ev_move rfl) rfl ?_
  refine JL_nil ?_
  refine JQ_then ?_
  refine JC_block ?_
  refine JC_loop (ι := Unit) (fun _ => [(4, U64 (0:UInt64)), (16, .slice none 0 0), (17, I64 (0:Int)), (18, I64 (0:Int)), (5, U64 (0:UInt64))]) (fun _ => [⟨rb, [errV 36 (erN e 2), .slice ao n c], 123, (0, 0)⟩]) (fun _ => True) (fun _ => 1) () trivial (Sub.cons rfl (Sub.cons rfl (Sub.cons rfl (Sub.cons rfl (Sub.cons rfl (Sub.nil)))))) rfl ?_
  rintro _ _
  show JC _ _ _ [(4, U64 (0:UInt64)), (16, .slice none 0 0), (17, I64 (0:Int)), (18, I64 (0:Int)), (5, U64 (0:UInt64))] [⟨rb, [errV 36 (erN e 2), .slice ao n c], 123, (0, 0)⟩]
  refine JC_seq ?_
  refine JC_region ?_
  refine JL_val (.bool (decide ((0:Int) < (0:Int)))) (Ev_bini rfl rfl fun _ => bin_lss_i _ _) rfl ?_
  refine JL_nil ?_
  refine JQ_then ?_
  refine JC_seq ?_
  refine JC_condF _ rfl (by decide) ?_
  refine JC_exit ?_
  refine JQ_then_exit ?_
  refine JQ_then_exit ?_
  refine JQ_in_same ?_
  refine JQ_then ?_
  refine JC_seq ?_
  refine JC_region ?_
  refine JL_val _ (Ev_move rfl) rfl ?_
  refine JL_val _ (Ev_assign rfl) rfl ?_
  refine JL_nil ?_
  refine JQ_then ?_
  refine JC_ret ?_
  refine JQ_ret (U64 (0:UInt64)) (res1 Try.results54 (RV_tmp rfl)) fun w1 hw1 => ?_
  exact ⟨_, _, rfl, ⟨rfl, rfl⟩, hw1⟩

theorem numRE_c (rb e : Nat) (sv : Value) (s : Int) (w : World) (h0 : w.heap[rb]? = some (.cells [errV 36 e, sv].toArray 123 (0, 0))) (he : e ≠ 0) (hs : Szd s) : Calls Try.prog 54 #[Ptr rb 0, I64 (s)] w (Post w [rb] (fun v L => v = U64 0 ∧ L = [⟨rb, [errV 36 (erN e 2), sv], 123, (0, 0)⟩])) := by
  refine enter w [rb] 29 [⟨rb, [errV 36 e, sv], 123, (0, 0)⟩] [Ptr rb 0, I64 (s)] Try.func54 rfl rfl (by simp) (Hp.start (by simpa using h0) (by simp) (by simp)) ?_
  show JC _ _ _ [(0, Ptr rb 0), (1, I64 (s))] _
  refine JC_seq ?_
  refine JC_region ?_
  refine JL_val _ (Ev_assign rfl) rfl ?_
  refine JL_nil ?_
  refine JQ_then ?_
  refine JC_seq ?_
  refine JC_seq ?_
  refine JC_region ?_
  refine JL_val _ (Ev_move rfl) rfl ?_
  refine JL_step (Step_callP 79 [I64 (s)] (.bool true) (Cl_func [I64 (s)] Try.call79 rfl) (fun w1 _ => sizedT_c (s) w1 hs)) rfl ?_
  rintro v1 L1 ⟨rfl, rfl⟩
  show JL _ _ _ _ ((9, .bool true) :: _) [⟨rb, [errV 36 e, sv], 123, (0, 0)⟩]
  refine JL_val (.bool (!true)) (Ev_not rfl) rfl ?_
  refine JL_nil ?_
  refine JQ_then ?_
  refine JC_condF _ rfl rfl ?_
  refine JC_skip ?_
  refine JQ_then ?_
  refine JC_seq ?_
  refine JC_region ?_
  refine JL_val _ (Ev_assign rfl) rfl ?_
  refine JL_nil ?_
  refine JQ_then ?_
  refine JC_seq ?_
  refine JC_seq ?_
  refine JC_region ?_
  refine JL_val _ (Ev_move rfl) rfl ?_
  refine JL_val _ (Ev_move rfl) rfl ?_
  refine JL_step (Step_callW 58 [Ptr rb 0, I64 (s)] 0 ⟨rb, [errV 36 e, sv], 123, (0, 0)⟩ _ (fun v e' l' => v = .slice none 0 0 ∧ e' = ⟨rb, [errV 36 (erN e 2), sv], 123, (0, 0)⟩ ∧ l' = []) (Cl_func [Ptr rb 0, I64 (s)] Try.call58 rfl) rfl (by rintro v l ⟨rfl, rfl⟩; exact ⟨_, _, rfl, rfl, rfl, rfl, rfl⟩) (fun w1 hw1 => rawRB1_c rb e sv (s) w1 (hw1.ent _ (List.mem_of_getElem? (i := 0) rfl)) he (by unfold Szd at hs; omega))) rfl ?_
  rintro v1 L1 ⟨_, _, ⟨rfl, rfl, rfl⟩, rfl⟩
  show JL _ _ _ _ ((16, .slice none 0 0) :: _) [⟨rb, [errV 36 (erN e 2), sv], 123, (0, 0)⟩]
  refine JL_val (I64 (0:Int)) (Ev_len Try.underlying38 rfl) rfl ?_
  refine JL_val _ (Ev_move rfl) rfl ?_
  refine JL_nil ?_
  refine JQ_then ?_
  refine JC_block ?_
  refine JC_loop (ι := Unit) (fun _ => [(4, U64 (0:UInt64)), (16, .slice none 0 0), (17, I64 (0:Int)), (18, I64 (0:Int)), (5, U64 (0:UInt64))]) (fun _ => [⟨rb, [errV 36 (erN e 2), sv], 123, (0, 0)⟩]) (fun _ => True) (fun _ => 1) () trivial (Sub.cons rfl (Sub.cons rfl (Sub.cons rfl (Sub.cons rfl (Sub.cons rfl (Sub.nil)))))) rfl ?_
  rintro _ _
  show JC _ _ _ [(4, U64 (0:UInt64)), (16, .slice none 0 0), (17, I64 (0:Int)), (18, I64 (0:Int)), (5, U64 (0:UInt64))] [⟨rb, [errV 36 (erN e 2), sv], 123, (0, 0)⟩]
  refine JC_seq ?_
  refine JC_region ?_
  refine JL_val (.bool (decide ((0:Int) < (0:Int)))) (Ev_bini rfl rfl fun _ => bin_lss_i _ _) rfl ?_
  refine JL_nil ?_
  refine JQ_then ?_
  refine JC_seq ?_
  refine JC_condF _ rfl (by decide) ?_
  refine JC_exit ?_
  refine JQ_then_exit ?_
  refine JQ_then_exit ?_
  refine JQ_in_same ?_
  refine JQ_then ?_
  refine JC_seq ?_
  refine JC_region ?_
  refine JL_val _ (Ev_move rfl) rfl ?_
  refine JL_val _ (Ev_assign rfl) rfl ?_
  refine JL_nil ?_
  refine JQ_then ?_
  refine JC_ret ?_
  refine JQ_ret (U64 (0:UInt64)) (res1 Try.results54 (RV_tmp rfl)) fun w1 hw1 => ?_
  exact ⟨_, _, rfl, ⟨rfl, rfl⟩, hw1⟩

theorem numROk_c (rb e : Nat) (ao : Option Addr) (n c : Nat) (z : List UInt8) (k n2 c2 : Nat) (w : World) (h0 : w.heap[rb]? = some (.cells [errV 36 e, .slice ao n c].toArray 123 (0, 0))) (hz : z.length = n) (hn : n ≤ 2000000000) (hc : n ≤ c) (hcm : c ≤ maxLen) (hr : RdB w [rb] ao z) (he : e = 0) (hs : Szd (k:Int)) (h2 : k ≤ n) (ht1 : k + n2 = n) (ht2 : k + c2 = c) : Calls Try.prog 54 #[Ptr rb 0, I64 ((k:Int))] w (Post w [rb] (fun v L => v = U64 (valK z k) ∧ L = [⟨rb, [errV 36 e, .slice (advA ao c k) n2 c2], 123, (0, 0)⟩])) := by
  have hs4 : k = 1 ∨ k = 2 ∨ k = 4 ∨ k = 8 := by have := hs; unfold Szd at this; omega
  refine enter w [rb] 29 [⟨rb, [errV 36 e, .slice ao n c], 123, (0, 0)⟩] [Ptr rb 0, I64 ((k:Int))] Try.func54 rfl rfl (by simp) (Hp.start (by simpa using h0) (by simp) (by simp)) ?_
  show JC _ _ _ [(0, Ptr rb 0), (1, I64 ((k:Int)))] _
  refine JC_seq ?_
  refine JC_region ?_
  refine JL_val _ (Ev_assign rfl) rfl ?_
  refine JL_nil ?_
  refine JQ_then ?_
  refine JC_seq ?_
  refine JC_seq ?_
  refine JC_region ?_
  refine JL_val _ (Ev_move rfl) rfl ?_
  refine JL_step (Step_callP 79 [I64 ((k:Int))] (.bool true) (Cl_func [I64 ((k:Int))] Try.call79 rfl) (fun w1 _ => sizedT_c ((k:Int)) w1 hs)) rfl ?_
  rintro v1 L1 ⟨rfl, rfl⟩
  show JL _ _ _ _ ((9, .bool true) :: _) [⟨rb, [errV 36 e, .slice ao n c], 123, (0, 0)⟩]
  refine JL_val (.bool (!true)) (Ev_not rfl) rfl ?_
  refine JL_nil ?_
  refine JQ_then ?_
  refine JC_condF _ rfl rfl ?_
  refine JC_skip ?_
  refine JQ_then ?_
  refine JC_seq ?_
  refine JC_region ?_
  refine JL_val _ (Ev_assign rfl) rfl ?_
  refine JL_nil ?_
  refine JQ_then ?_
  refine JC_seq ?_
  refine JC_seq ?_
  refine JC_region ?_
  refine JL_val _ (Ev_move rfl) rfl ?_
  refine JL_val _ (Ev_move rfl) rfl ?_
  have hl1 : (z.drop k).length = (n - k) := by rw [List.length_drop, hz] <;> omega
  have hr1 := RdB.adv (c := c) hr k (by rw [hz]; omega) (by rw [hz]; omega)
  have hl2 : (mid z 0 k).length = k := mid_len (by rw [hz]; omega)
  refine JL_step (Step_call 58 _ [true] [rb] _ (Cl_func [Ptr rb 0, I64 ((k:Int))] Try.call58 rfl) rfl (fun w1 hw1 => rawROk_c rb e ao n c z k (n - k) (c - k) w1 (hw1.ent _ (List.mem_of_getElem? (i := 0) rfl)) hz (by omega) (by omega) (by omega) (hr.at (M' := [rb]) hw1 (hw1.apart [0] _ rfl)) he (by unfold Szd at hs; omega) h2 (by omega) (by omega))) rfl ?_
  rintro v1 L1 ⟨_, ⟨nb1, sp1, cp1, rfl, rfl, hc1, hc2, hc3⟩, rfl⟩
  show JL _ _ _ _ ((16, Slc nb1 0 k cp1) :: _) [⟨rb, [errV 36 e, .slice (advA ao c k) (n - k) (c - k)], 123, (0, 0)⟩, ⟨nb1, cu8 (mid z 0 k) ++ sp1, 5, (0, 0)⟩]
  refine JL_val (I64 ((k:Int))) (Ev_len Try.underlying38 rfl) rfl ?_
  refine JL_val _ (Ev_move rfl) rfl ?_
  refine JL_nil ?_
  refine JQ_then ?_
  refine JC_block ?_
  refine JC_loop (ι := Nat × UInt64) (fun ⟨j, y⟩ => [(4, U64 (0:UInt64)), (16, Slc nb1 0 k cp1), (17, I64 ((k:Int))), (18, I64 ((j:Int))), (5, U64 y)]) (fun ⟨j, y⟩ => [⟨rb, [errV 36 e, .slice (advA ao c k) (n - k) (c - k)], 123, (0, 0)⟩, ⟨nb1, cu8 (mid z 0 k) ++ sp1, 5, (0, 0)⟩]) (fun ⟨j, y⟩ => j ≤ k ∧ y = valK (mid z 0 k) j) (fun ⟨j, y⟩ => k - j) (0, 0) ⟨by omega, by rw [valK]⟩ (Sub.cons rfl (Sub.cons rfl (Sub.cons rfl (Sub.cons rfl (Sub.cons rfl (Sub.nil)))))) rfl ?_
  rintro ⟨j, y⟩ ⟨hx1, hx2⟩
  show JC _ _ _ [(4, U64 (0:UInt64)), (16, Slc nb1 0 k cp1), (17, I64 ((k:Int))), (18, I64 ((j:Int))), (5, U64 y)] [⟨rb, [errV 36 e, .slice (advA ao c k) (n - k) (c - k)], 123, (0, 0)⟩, ⟨nb1, cu8 (mid z 0 k) ++ sp1, 5, (0, 0)⟩]
  refine JC_seq ?_
  refine JC_region ?_
  refine JL_val (.bool (decide (((j:Int)) < ((k:Int))))) (Ev_bini rfl rfl fun _ => bin_lss_i _ _) rfl ?_
  refine JL_nil ?_
  refine JQ_then ?_
  refine JC_seq ?_
  refine JC_cond (decide (((j:Int)) < ((k:Int)))) rfl (fun hb1 => ?_) (fun hb1 => ?_)
  ·
    have hp1 : ((j:Int)) < ((k:Int)) := of_decide_eq_true hb1
    refine JC_skip ?_
    refine JQ_then ?_
    refine JC_seq ?_
    refine JC_block ?_
    refine JC_seq ?_
    refine JC_region ?_
    refine JL_val (Ptr nb1 j) (Ev_indexSl 5 1 j Try.underlying38 Try.sizeOf5 rfl rfl (by omega) (by omega) (by omega)) rfl ?_
    refine JL_val (U8 (g8 (mid z 0 k) j)) (Ev_load rfl (Ld_one Try.isAgg5 (MemAt.ent 1 rfl (Seg.left (Seg.get (g8_get (i := j) (by rw [hl2]; omega))))))) rfl ?_
    refine JL_val _ (Ev_assign rfl) rfl ?_
    refine JL_nil ?_
    refine JQ_then ?_
    refine JC_region ?_
    refine JL_val _ (Ev_move rfl) rfl ?_
    refine JL_val (U64 (y <<< (8:UInt64))) (Ev_bini rfl rfl fun _ => bin_shl_u64 y _ _ 8 (by decide) rfl) rfl ?_
    refine JL_val _ (Ev_move rfl) rfl ?_
    refine JL_val (U64 ((g8 (mid z 0 k) j).toUInt64)) (Ev_conv _ _ rfl fun _ => conv_u8_u64 (by rw [Try.underlying5]; rfl) Try.underlying44 _) rfl ?_
    refine JL_val (U64 ((y <<< (8:UInt64)) ||| ((g8 (mid z 0 k) j).toUInt64))) (Ev_bini rfl rfl fun _ => bin_or_u64 (y <<< (8:UInt64)) ((g8 (mid z 0 k) j).toUInt64)) rfl ?_
    refine JL_val _ (Ev_assign rfl) rfl ?_
    refine JL_nil ?_
    refine JQ_in_normal ?_
    refine JQ_then ?_
    refine JC_region ?_
    refine JL_val (I64 ((j:Int) + 1)) (Ev_bini rfl rfl fun _ => bin_add_i _ _ ((j:Int) + 1) (by omega) (by omega)) rfl ?_
    refine JL_val _ (Ev_move rfl) rfl ?_
    refine JL_nil ?_
    refine JQ_thenK ?_
    refine K_next (j + 1, (y <<< (8:UInt64)) ||| ((g8 (mid z 0 k) j).toUInt64)) ⟨by omega, by rw [valK, ← hx2]⟩ (by first | (simp; omega) | simp | (dsimp only; omega) | omega) (Sub.cons rfl (Sub.cons rfl (Sub.cons rfl (Sub.cons rfl (Sub.cons rfl (Sub.nil)))))) rfl
  ·
    have hp1 : ¬ (((j:Int)) < ((k:Int))) := of_decide_eq_false hb1
    refine JC_exit ?_
    refine JQ_then_exit ?_
    refine JQ_then_exit ?_
    refine JQ_in_same ?_
    refine JQ_then ?_
    refine JC_seq ?_
    refine JC_region ?_
    refine JL_val _ (Ev_move rfl) rfl ?_
    refine JL_val _ (Ev_assign rfl) rfl ?_
    refine JL_nil ?_
    refine JQ_then ?_
    refine JC_ret ?_
    refine K_mask [true, false] ?_
    show JQ _ _ _ _ [⟨rb, [errV 36 e, .slice (advA ao c k) (n - k) (c - k)], 123, (0, 0)⟩]
    refine JQ_ret (U64 y) (res1 Try.results54 (RV_tmp rfl)) fun w1 hw1 => ?_
    have e1 : j = k := by omega
    have e2 : valK (mid z 0 k) k = valK z k := valK_congr k fun i hi => by rw [g8_mid hi, Nat.zero_add]
    obtain rfl : n2 = (n - k) := by omega
    obtain rfl : c2 = (c - k) := by omega
    exact ⟨_, _, rfl, ⟨by rw [hx2, e1, e2], rfl⟩, hw1⟩

theorem numRNil0_c (s : Int) (w : World) (hs : Szd s) : Calls Try.prog 54 #[.pointer none, I64 (s)] w (Post w [] (fun v L => v = U64 0 ∧ L = [])) := by
  refine enter w [] 29 [] [.pointer none, I64 (s)] Try.func54 rfl rfl (by simp) (Hp.start (by simp) (by simp) (by simp)) ?_
  show JC _ _ _ [(0, .pointer none), (1, I64 (s))] _
  refine JC_seq ?_
  refine JC_region ?_
  refine JL_val _ (Ev_assign rfl) rfl ?_
  refine JL_nil ?_
  refine JQ_then ?_
  refine JC_seq ?_
  refine JC_seq ?_
  refine JC_region ?_
  refine JL_val _ (Ev_move rfl) rfl ?_
  refine JL_step (Step_callP 79 [I64 (s)] (.bool true) (Cl_func [I64 (s)] Try.call79 rfl) (fun w1 _ => sizedT_c (s) w1 hs)) rfl ?_
  rintro v1 L1 ⟨rfl, rfl⟩
  show JL _ _ _ _ ((9, .bool true) :: _) []
  refine JL_val (.bool (!true)) (Ev_not rfl) rfl ?_
  refine JL_nil ?_
  refine JQ_then ?_
  refine JC_condF _ rfl rfl ?_
  refine JC_skip ?_
  refine JQ_then ?_
  refine JC_seq ?_
  refine JC_region ?_
  refine JL_val _ (Ev_assign rfl) rfl ?_
  refine JL_nil ?_
  refine JQ_then ?_
  refine JC_seq ?_
  refine JC_seq ?_
  refine JC_region ?_
  refine JL_val _ (Ev_move rfl) rfl ?_
  refine JL_val _ (Ev_move rfl) rfl ?_
  refine JL_step (Step_callP 58 [.pointer none, I64 (s)] (.slice none 0 0) (Cl_func [.pointer none, I64 (s)] Try.call58 rfl) (fun w1 hw1 => rawRNil_c (s) w1)) rfl ?_
  rintro v1 L1 ⟨rfl, rfl⟩
  show JL _ _ _ _ ((16, .slice none 0 0) :: _) []
  refine JL_val (I64 (0:Int)) (Ev_len Try.underlying38 rfl) rfl ?_
  refine JL_val _ (Ev_move rfl) rfl ?_
  refine JL_nil ?_
  refine JQ_then ?_
  refine JC_block ?_
  refine JC_loop (ι := Unit) (fun _ => [(4, U64 (0:UInt64)), (16, .slice none 0 0), (17, I64 (0:Int)), (18, I64 (0:Int)), (5, U64 (0:UInt64))]) (fun _ => []) (fun _ => True) (fun _ => 1) () trivial (Sub.cons rfl (Sub.cons rfl (Sub.cons rfl (Sub.cons rfl (Sub.cons rfl (Sub.nil)))))) rfl ?_
  rintro _ _
  show JC _ _ _ [(4, U64 (0:UInt64)), (16, .slice none 0 0), (17, I64 (0:Int)), (18, I64 (0:Int)), (5, U64 (0:UInt64))] []
  refine JC_seq ?_
  refine JC_region ?_
  refine JL_val (.bool (decide ((0:Int) < (0:Int)))) (Ev_bini rfl rfl fun _ => bin_lss_i _ _) rfl ?_
  refine JL_nil ?_
  refine JQ_then ?_
  refine JC_seq ?_
  refine JC_condF _ rfl (by decide) ?_
  refine JC_exit ?_
  refine JQ_then_exit ?_
  refine JQ_then_exit ?_
  refine JQ_in_same ?_
  refine JQ_then ?_
  refine JC_seq ?_
  refine JC_region ?_
  refine JL_val _ (Ev_move rfl) rfl ?_
  refine JL_val _ (Ev_assign rfl) rfl ?_
  refine JL_nil ?_
  refine JQ_then ?_
  refine JC_ret ?_
  refine JQ_ret (U64 (0:UInt64)) (res1 Try.results54 (RV_tmp rfl)) fun w1 hw1 => ?_
  exact ⟨_, [], rfl, ⟨rfl, rfl⟩, hw1.sub (by simp) (by simp)⟩

theorem numRNil1_c (s : Int) (w : World) (hs : ¬ Szd s) : Calls Try.prog 54 #[.pointer none, I64 (s)] w (Post w [] (fun v L => v = U64 0 ∧ L = [])) := by
  refine enter w [] 29 [] [.pointer none, I64 (s)] Try.func54 rfl rfl (by simp) (Hp.start (by simp) (by simp) (by simp)) ?_
  show JC _ _ _ [(0, .pointer none), (1, I64 (s))] _
  refine JC_seq ?_
  refine JC_region ?_
  refine JL_val _ (Ev_assign rfl) rfl ?_
  refine JL_nil ?_
  refine JQ_then ?_
  refine JC_seq ?_
  refine JC_seq ?_
  refine JC_region ?_
  refine JL_val _ (Ev_move rfl) rfl ?_
  refine JL_step (Step_callP 79 [I64 (s)] (.bool false) (Cl_func [I64 (s)] Try.call79 rfl) (fun w1 _ => sizedF_c (s) w1 hs)) rfl ?_
  rintro v1 L1 ⟨rfl, rfl⟩
  show JL _ _ _ _ ((9, .bool false) :: _) []
  refine JL_val (.bool (!false)) (Ev_not rfl) rfl ?_
  refine JL_nil ?_
  refine JQ_then ?_
  refine JC_condT _ rfl rfl ?_
  refine JC_seq ?_
  refine JC_region ?_
  refine JL_val _ (Ev_move rfl) rfl ?_
  refine JL_val (.iface 36 (I64 (2:Int))) (Ev_iface Try.underlying36 rfl rfl) rfl ?_
  refine JL_step (Step_callP 63 [.pointer none, .iface 36 (I64 (2:Int))] (.tuple #[]) (Cl_func [.pointer none, .iface 36 (I64 (2:Int))] Try.call63 rfl) (fun w1 hw1 => failRdNil_c (.iface 36 (I64 (2:Int))) w1)) rfl ?_
  rintro v1 L1 ⟨rfl, rfl⟩
  show JL _ _ _ _ ((13, .tuple #[]) :: _) []
  refine JL_nil ?_
  refine JQ_then ?_
  refine JC_seq ?_
  refine JC_region ?_
  refine JL_val _ (Ev_assign rfl) rfl ?_
  refine JL_nil ?_
  refine JQ_then ?_
  refine JC_ret ?_
  refine JQ_then_ret ?_
  refine JQ_ret (U64 (0:UInt64)) (res1 Try.results54 (RV_tmp rfl)) fun w1 hw1 => ?_
  exact ⟨_, [], rfl, ⟨rfl, rfl⟩, hw1.sub (by simp) (by simp)⟩

end Go.Proofs.Ytncoifiafklkjaa
