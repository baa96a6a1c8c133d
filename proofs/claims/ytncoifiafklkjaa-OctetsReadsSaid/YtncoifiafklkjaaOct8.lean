import Derived.Test.YtncoifiafklkjaaOct7
namespace Go.Proofs.Ytncoifiafklkjaa
open Go Go.Sx
set_option linter.unusedVariables false
set_option linter.unusedSimpArgs false
set_option maxRecDepth 100000
attribute [local irreducible] mid zr8 zr32 zr64 numK rnK ftN valK rvalK
theorem long_c (ab : Option Addr) (n cb : Nat) (al : List ActV) (w : World) (hlen : al.length = n) (hG : ∀ a ∈ al, ActG w a) (hv : RdV w ab (al.flatMap actC)) (hnb : n ≤ 140737488351232) : Calls Try.prog 39 #[.slice ab n cb] w (Post w [] (fun v L => v = .bool (decide (LongP al n)) ∧ L = [])) := by
  have hmx : maxLen = 9223372036854775807 := rfl
  refine enter w [] 25 [] [.slice ab n cb] Try.func39 rfl rfl (by simp) (Hp.start (by simp) (by simp) (by simp)) ?_
  show JC _ _ _ [(0, .slice ab n cb)] _
  refine JC_seq ?_
  refine JC_region ?_
  refine JL_val _ (Ev_assign rfl) rfl ?_
  refine JL_nil ?_
  refine JQ_then ?_
  refine JC_seq ?_
  refine JC_region ?_
  refine JL_val _ (Ev_assign rfl) rfl ?_
  refine JL_nil ?_
  refine JQ_then ?_
  refine JC_seq ?_
  refine JC_seq ?_
  refine JC_region ?_
  refine JL_val _ (Ev_move rfl) rfl ?_
  refine JL_val (I64 ((n:Int))) (Ev_len Try.underlying60 rfl) rfl ?_
  refine JL_val _ (Ev_move rfl) rfl ?_
  refine JL_nil ?_
  refine JQ_then ?_
  refine JC_block ?_
  refine JC_loop (ι := Nat) (fun i => [(6, .slice ab n cb), (7, I64 ((n:Int))), (8, I64 ((i:Int))), (3, I64 ((sumP al i:Int)))]) (fun i => []) (fun i => i ≤ n ∧ sumP al i ≤ 200000 ∧ i ≤ 41) (fun i => n - i) 0 ⟨by omega, by rw [sumP_zero]; omega, by omega⟩ (Sub.cons rfl (Sub.cons rfl (Sub.cons rfl (Sub.cons (some_i64 (by rw [sumP_zero]; rfl)) (Sub.nil))))) rfl ?_
  rintro i ⟨hx1, hx2, hx3⟩
  show JC _ _ _ [(6, .slice ab n cb), (7, I64 ((n:Int))), (8, I64 ((i:Int))), (3, I64 ((sumP al i:Int)))] []
  refine JC_seq ?_
  refine JC_region ?_
  refine JL_val (.bool (decide (((i:Int)) < ((n:Int))))) (Ev_bini rfl rfl fun _ => bin_lss_i _ _) rfl ?_
  refine JL_nil ?_
  refine JQ_then ?_
  refine JC_seq ?_
  refine JC_cond (decide (((i:Int)) < ((n:Int)))) rfl (fun hb1 => ?_) (fun hb1 => ?_)
  ·
    have hp1 : ((i:Int)) < ((n:Int)) := of_decide_eq_true hb1
    refine JC_skip ?_
    refine JQ_then ?_
    refine JC_seq ?_
    refine JC_block ?_
    refine JC_seq ?_
    obtain ⟨a, ha⟩ : ∃ a, al[i]? = some a := ⟨al[i]'(by omega), by simp⟩
    obtain ⟨rowb, rowo, hrowa, hrow⟩ := rows_at actC_len (by decide) hv ha
    have hG1 := hG _ (List.mem_of_getElem? ha)
    have hsum := sumP_succ ha
    have hsle : sumP al (i + 1) ≤ sumP al n := sumP_le al (by omega)
    obtain ⟨kd, s, nn, ax, p, cx, z⟩ := a
    obtain ⟨hkd, hsb, hz, hcn, hcc, hr, hp⟩ := hG1
    dsimp only [actC] at hkd hsb hz hcn hcc hr hp hrow hsum
    refine JC_region ?_
    refine JL_val _ (Ev_move rfl) rfl ?_
    refine JL_val (Ptr rowb (4*i + rowo)) (Ev_indexSlG 70 4 (4*i + rowo) Try.underlying60 Try.sizeOf70 rfl hrowa rfl (by omega) (by omega) (by omega)) rfl ?_
    refine JL_val (.agg (List.toArray (α := Value) ([I64 (kd), I64 (s), U64 nn, .slice ax p cx]))) (Ev_load rfl (Ld_agg Try.isAgg70 Try.sizeOf70 rfl (MemAt.seg (hrow.mem (by simp)) (Seg.whole _) (by omega)))) rfl ?_
    refine JL_step (Step_alloc _ ([I64 (0:Int), I64 (0:Int), U64 (0:UInt64), .slice none 0 0]) Try.zeroValue70 (by kernel_rfl)) rfl ?_
    rintro v1 L1 ⟨nb1, hnb1, rfl, rfl⟩
    show JL _ _ _ _ ((5, Ptr nb1 0) :: _) [⟨nb1, [I64 (0:Int), I64 (0:Int), U64 (0:UInt64), .slice none 0 0], 70, (0, 0)⟩]
    refine JL_val _ (Ev_assign rfl) rfl ?_
    refine JL_step (Step_store 0 nb1 0 4 ([I64 (0:Int), I64 (0:Int), U64 (0:UInt64), .slice none 0 0]) 70 (.agg (List.toArray (α := Value) ([I64 (kd), I64 (s), U64 nn, .slice ax p cx]))) ([I64 (kd), I64 (s), U64 nn, .slice ax p cx]) ([I64 (kd), I64 (s), U64 nn, .slice ax p cx]) rfl rfl rfl (by first | rfl | simp) Try.sizeOf70 rfl (by simp [Value.oneCell']) (Nat.le_of_ble_eq_true rfl) (lay_whole (by simp []))) rfl ?_
    rintro v1 L1 ⟨rfl, rfl⟩
    show JL _ _ _ _ _ [⟨nb1, [I64 (kd), I64 (s), U64 nn, .slice ax p cx], 70, (0, 0)⟩]
    refine JL_nil ?_
    refine JQ_then ?_
    refine JC_seq ?_
    refine JC_region ?_
    refine JL_val _ (Ev_move rfl) rfl ?_
    refine JL_val (Ptr nb1 3) (Ev_fieldAddr 3 38 1 Try.underlying70 rfl Try.sizeOf38 rfl rfl) rfl ?_
    refine JL_val (.slice ax p cx) (Ev_load rfl (Ld_one Try.isAgg38 (MemAt.ent 0 rfl (Seg.tail (Seg.tail (Seg.tail (Seg.head))))))) rfl ?_
    refine JL_val (I64 ((p:Int))) (Ev_len Try.underlying38 rfl) rfl ?_
    refine JL_val (I64 ((p:Int) + (sumP al i:Int))) (Ev_bini rfl rfl fun _ => bin_add_i _ _ ((p:Int) + (sumP al i:Int)) (by omega) (by omega)) rfl ?_
    refine JL_val _ (Ev_assign rfl) rfl ?_
    refine JL_nil ?_
    refine JQ_then ?_
    refine JC_seq ?_
    refine JC_region ?_
    refine JL_val _ (Ev_move rfl) rfl ?_
    refine JL_val (.bool (decide ((40:Int) < ((i:Int))))) (Ev_bini rfl rfl fun _ => bin_gtr_i _ _) rfl ?_
    refine JL_val _ (Ev_move rfl) rfl ?_
    rcases Bool.eq_false_or_eq_true (decide ((40:Int) < ((i:Int)))) with hb2 | hb2
    ·
      have hp2 : (40:Int) < ((i:Int)) := of_decide_eq_true hb2
      refine JL_gskip 2 20 false _ rfl rfl hb2 rfl ?_
      refine JL_gskip 2 20 false _ rfl rfl hb2 rfl ?_
      refine JL_val _ (Ev_pickT _ rfl hb2 rfl) rfl ?_
      refine JL_nil ?_
      refine JQ_then ?_
      refine JC_condT _ rfl rfl ?_
      refine JC_seq ?_
      refine JC_region ?_
      refine JL_val _ (Ev_assign rfl) rfl ?_
      refine JL_nil ?_
      refine JQ_then ?_
      refine JC_ret ?_
      refine JQ_in_ret ?_
      refine JQ_then_ret ?_
      refine JQ_then_ret ?_
      refine JQ_in_ret ?_
      refine JQ_then_ret ?_
      refine JQ_ret (.bool true) (res1 Try.results39 (RV_tmp rfl)) fun w1 hw1 => ?_
      exact ⟨_, [], rfl, ⟨congrArg Value.bool (Eq.symm (decide_eq_true (by unfold LongP; omega))), rfl⟩, hw1.sub (by simp) (by simp)⟩
    ·
      have hp2 : ¬ ((40:Int) < ((i:Int))) := of_decide_eq_false hb2
      refine JL_gval 2 20 false _ _ rfl rfl hb2 (Ev_move rfl) rfl ?_
      refine JL_gval 2 20 false _ (.bool (decide ((200000:Int) < ((p:Int) + (sumP al i:Int))))) rfl rfl hb2 (Ev_bini rfl rfl fun _ => bin_gtr_i _ _) rfl ?_
      refine JL_val _ (Ev_pickF _ rfl hb2 rfl) rfl ?_
      refine JL_nil ?_
      refine JQ_then ?_
      refine JC_cond (decide ((200000:Int) < ((p:Int) + (sumP al i:Int)))) rfl (fun hb3 => ?_) (fun hb3 => ?_)
      ·
        have hp3 : (200000:Int) < ((p:Int) + (sumP al i:Int)) := of_decide_eq_true hb3
        refine JC_seq ?_
        refine JC_region ?_
        refine JL_val _ (Ev_assign rfl) rfl ?_
        refine JL_nil ?_
        refine JQ_then ?_
        refine JC_ret ?_
        refine JQ_in_ret ?_
        refine JQ_then_ret ?_
        refine JQ_then_ret ?_
        refine JQ_in_ret ?_
        refine JQ_then_ret ?_
        refine JQ_ret (.bool true) (res1 Try.results39 (RV_tmp rfl)) fun w1 hw1 => ?_
        exact ⟨_, [], rfl, ⟨congrArg Value.bool (Eq.symm (decide_eq_true (by unfold LongP; omega))), rfl⟩, hw1.sub (by simp) (by simp)⟩
      ·
        have hp3 : ¬ ((200000:Int) < ((p:Int) + (sumP al i:Int))) := of_decide_eq_false hb3
        refine JC_skip ?_
        refine JQ_in_normal ?_
        refine JQ_then ?_
        refine JC_region ?_
        refine JL_val (I64 ((i:Int) + 1)) (Ev_bini rfl rfl fun _ => bin_add_i _ _ ((i:Int) + 1) (by omega) (by omega)) rfl ?_
        refine JL_val _ (Ev_move rfl) rfl ?_
        refine JL_nil ?_
        refine JQ_thenK ?_
        refine K_mask [false] ?_
        show K _ _ [] _
        refine K_next (i + 1) ⟨by omega, by rw [hsum]; omega, by omega⟩ (by first | (simp; omega) | simp | (dsimp only; omega) | omega) (Sub.cons rfl (Sub.cons rfl (Sub.cons rfl (Sub.cons (some_i64 (by rw [hsum]; omega)) (Sub.nil))))) rfl
  ·
    have hp1 : ¬ (((i:Int)) < ((n:Int))) := of_decide_eq_false hb1
    refine JC_exit ?_
    refine JQ_then_exit ?_
    refine JQ_then_exit ?_
    refine JQ_in_same ?_
    refine JQ_then ?_
    refine JC_seq ?_
    refine JC_region ?_
    refine JL_val _ (Ev_assign rfl) rfl ?_
    refine JL_nil ?_
    refine JQ_then ?_
    refine JC_ret ?_
    refine JQ_ret (.bool false) (res1 Try.results39 (RV_tmp rfl)) fun w1 hw1 => ?_
    have e1 : i = n := by omega
    subst e1
    exact ⟨_, [], rfl, ⟨congrArg Value.bool (Eq.symm (decide_eq_false (by unfold LongP; omega))), rfl⟩, hw1.sub (by simp) (by simp)⟩

end Go.Proofs.Ytncoifiafklkjaa
