import Derived.Test.YtncoifiafklkjaaOct3
namespace Go.Proofs.Ytncoifiafklkjaa
open Go Go.Sx
set_option linter.unusedVariables false
set_option linter.unusedSimpArgs false
set_option maxRecDepth 100000
attribute [local irreducible] mid zr8 zr32 zr64 numK rnK ftN valK rvalK
theorem bytRE_c (rb e : Nat) (sv : Value) (s : Int) (w : World) (h0 : w.heap[rb]? = some (.cells [errV 36 e, sv].toArray 123 (0, 0))) (he : e ≠ 0) : Calls Try.prog 56 #[Ptr rb 0, I64 (s)] w (Post w [rb] (fun v L => v = .slice none 0 0 ∧ L = [⟨rb, [errV 36 (erN e 2), sv], 123, (0, 0)⟩])) := by
  refine enter w [rb] 46 [⟨rb, [errV 36 e, sv], 123, (0, 0)⟩] [Ptr rb 0, I64 (s)] Try.func56 rfl rfl (by simp) (Hp.start (by simpa using h0) (by simp) (by simp)) ?_
  show JC _ _ _ [(0, Ptr rb 0), (1, I64 (s))] _
  refine JC_seq ?_
  refine JC_region ?_
  refine JL_val _ (Ev_assign rfl) rfl ?_
  refine JL_nil ?_
  refine JQ_then ?_
  refine JC_seq ?_
  refine JC_seq ?_
  refine JC_region ?_
  refine JL_val _ (Ev_move rfl) rfl ?_
  refine JL_step (Step_callP 64 [Ptr rb 0] (I64 (0:Int)) (Cl_func [Ptr rb 0] Try.call64 rfl) (fun w1 hw1 => leftE_c rb e sv w1 (RdA.of hw1 (MemAt.ent 0 rfl (Seg.whole _)) (by simp)) he)) rfl ?_
  rintro v1 L1 ⟨rfl, rfl⟩
  show JL _ _ _ _ ((7, I64 (0:Int)) :: _) [⟨rb, [errV 36 e, sv], 123, (0, 0)⟩]
  refine JL_val (.bool (decide ((0:Int) < (2:Int)))) (Ev_bini rfl rfl fun _ => bin_lss_i _ _) rfl ?_
  refine JL_nil ?_
  refine JQ_then ?_
  refine JC_condT _ rfl (by decide) ?_
  refine JC_seq ?_
  refine JC_region ?_
  refine JL_val _ (Ev_move rfl) rfl ?_
  refine JL_val (.iface 36 (I64 (2:Int))) (Ev_iface Try.underlying36 rfl rfl) rfl ?_
  refine JL_step (Step_callW 63 [Ptr rb 0, .iface 36 (I64 (2:Int))] 0 ⟨rb, [errV 36 e, sv], 123, (0, 0)⟩ _ (fun v e' l' => v = .tuple #[] ∧ e' = ⟨rb, [errV 36 (erN e 2), sv], 123, (0, 0)⟩ ∧ l' = []) (Cl_func [Ptr rb 0, .iface 36 (I64 (2:Int))] Try.call63 rfl) rfl (by rintro v l ⟨rfl, rfl⟩; exact ⟨_, _, rfl, rfl, rfl, rfl, rfl⟩) (fun w1 hw1 => failRdi_c rb e 2 sv w1 (by decide) (hw1.ent _ (List.mem_of_getElem? (i := 0) rfl)))) rfl ?_
  rintro v1 L1 ⟨_, _, ⟨rfl, rfl, rfl⟩, rfl⟩
  show JL _ _ _ _ ((11, .tuple #[]) :: _) [⟨rb, [errV 36 (erN e 2), sv], 123, (0, 0)⟩]
  refine JL_nil ?_
  refine JQ_then ?_
  refine JC_seq ?_
  refine JC_region ?_
  refine JL_val _ (Ev_assign rfl) rfl ?_
  refine JL_nil ?_
  refine JQ_then ?_
  refine JC_ret ?_
  refine JQ_then_ret ?_
  refine JQ_ret (.slice none 0 0) (res1 Try.results56 (RV_tmp rfl)) fun w1 hw1 => ?_
  exact ⟨_, _, rfl, ⟨rfl, rfl⟩, hw1⟩

theorem bytRS_c (rb e : Nat) (ao : Option Addr) (n c : Nat) (s : Int) (w : World) (h0 : w.heap[rb]? = some (.cells [errV 36 e, .slice ao n c].toArray 123 (0, 0))) (he : e = 0) (hl : n < 2) : Calls Try.prog 56 #[Ptr rb 0, I64 (s)] w (Post w [rb] (fun v L => v = .slice none 0 0 ∧ L = [⟨rb, [errV 36 (erN e 2), .slice ao n c], 123, (0, 0)⟩])) := by
  refine enter w [rb] 46 [⟨rb, [errV 36 e, .slice ao n c], 123, (0, 0)⟩] [Ptr rb 0, I64 (s)] Try.func56 rfl rfl (by simp) (Hp.start (by simpa using h0) (by simp) (by simp)) ?_
  show JC _ _ _ [(0, Ptr rb 0), (1, I64 (s))] _
  refine JC_seq ?_
  refine JC_region ?_
  refine JL_val _ (Ev_assign rfl) rfl ?_
  refine JL_nil ?_
  refine JQ_then ?_
  refine JC_seq ?_
  refine JC_seq ?_
  refine JC_region ?_
  refine JL_val _ (Ev_move rfl) rfl ?_
  refine JL_step (Step_callP 64 [Ptr rb 0] (I64 ((n:Int))) (Cl_func [Ptr rb 0] Try.call64 rfl) (fun w1 hw1 => leftZ_c rb e ao n c w1 (RdA.of hw1 (MemAt.ent 0 rfl (Seg.whole _)) (by simp)) he)) rfl ?_
  rintro v1 L1 ⟨rfl, rfl⟩
  show JL _ _ _ _ ((7, I64 ((n:Int))) :: _) [⟨rb, [errV 36 e, .slice ao n c], 123, (0, 0)⟩]
  refine JL_val (.bool (decide (((n:Int)) < (2:Int)))) (Ev_bini rfl rfl fun _ => bin_lss_i _ _) rfl ?_
  refine JL_nil ?_
  refine JQ_then ?_
  refine JC_condT _ rfl (decide_eq_true (by omega)) ?_
  refine JC_seq ?_
  refine JC_region ?_
  refine JL_val _ (Ev_move rfl) rfl ?_
  refine JL_val (.iface 36 (I64 (2:Int))) (Ev_iface Try.underlying36 rfl rfl) rfl ?_
  refine JL_step (Step_callW 63 [Ptr rb 0, .iface 36 (I64 (2:Int))] 0 ⟨rb, [errV 36 e, .slice ao n c], 123, (0, 0)⟩ _ (fun v e' l' => v = .tuple #[] ∧ e' = ⟨rb, [errV 36 (erN e 2), .slice ao n c], 123, (0, 0)⟩ ∧ l' = []) (Cl_func [Ptr rb 0, .iface 36 (I64 (2:Int))] Try.call63 rfl) rfl (by rintro v l ⟨rfl, rfl⟩; exact ⟨_, _, rfl, rfl, rfl, rfl, rfl⟩) (fun w1 hw1 => failRdi_c rb e 2 (.slice ao n c) w1 (by decide) (hw1.ent _ (List.mem_of_getElem? (i := 0) rfl)))) rfl ?_
  rintro v1 L1 ⟨_, _, ⟨rfl, rfl, rfl⟩, rfl⟩
  show JL _ _ _ _ ((11, .tuple #[]) :: _) [⟨rb, [errV 36 (erN e 2), .slice ao n c], 123, (0, 0)⟩]
  refine JL_nil ?_
  refine JQ_then ?_
  refine JC_seq ?_
  refine JC_region ?_
  refine JL_val _ (Ev_assign rfl) rfl ?_
  refine JL_nil ?_
  refine JQ_then ?_
  refine JC_ret ?_
  refine JQ_then_ret ?_
  refine JQ_ret (.slice none 0 0) (res1 Try.results56 (RV_tmp rfl)) fun w1 hw1 => ?_
  exact ⟨_, _, rfl, ⟨rfl, rfl⟩, hw1⟩

theorem bytRB_c (rb e : Nat) (ao : Option Addr) (n c : Nat) (z : List UInt8) (s : Int) (w : World) (h0 : w.heap[rb]? = some (.cells [errV 36 e, .slice ao n c].toArray 123 (0, 0))) (hz : z.length = n) (hn : n ≤ 2000000000) (hc : n ≤ c) (hcm : c ≤ maxLen) (hr : RdB w [rb] ao z) (he : e = 0) (hl : 2 ≤ n) (hb : s < ((256 * (g8 z 0).toNat + (g8 z 1).toNat : Nat) : Int) ∨ n < 256 * (g8 z 0).toNat + (g8 z 1).toNat + 2) : Calls Try.prog 56 #[Ptr rb 0, I64 (s)] w (Post w [rb] (fun v L => v = .slice none 0 0 ∧ L = [⟨rb, [errV 36 (erN e 2), .slice ao n c], 123, (0, 0)⟩])) := by
  refine enter w [rb] 46 [⟨rb, [errV 36 e, .slice ao n c], 123, (0, 0)⟩] [Ptr rb 0, I64 (s)] Try.func56 rfl rfl (by simp) (Hp.start (by simpa using h0) (by simp) (by simp)) ?_
  show JC _ _ _ [(0, Ptr rb 0), (1, I64 (s))] _
  refine JC_seq ?_
  refine JC_region ?_
  refine JL_val _ (Ev_assign rfl) rfl ?_
  refine JL_nil ?_
  refine JQ_then ?_
  refine JC_seq ?_
  refine JC_seq ?_
  refine JC_region ?_
  refine JL_val _ (Ev_move rfl) rfl ?_
  refine JL_step (Step_callP 64 [Ptr rb 0] (I64 ((n:Int))) (Cl_func [Ptr rb 0] Try.call64 rfl) (fun w1 hw1 => leftZ_c rb e ao n c w1 (RdA.of hw1 (MemAt.ent 0 rfl (Seg.whole _)) (by simp)) he)) rfl ?_
  rintro v1 L1 ⟨rfl, rfl⟩
  show JL _ _ _ _ ((7, I64 ((n:Int))) :: _) [⟨rb, [errV 36 e, .slice ao n c], 123, (0, 0)⟩]
  refine JL_val (.bool (decide (((n:Int)) < (2:Int)))) (Ev_bini rfl rfl fun _ => bin_lss_i _ _) rfl ?_
  refine JL_nil ?_
  refine JQ_then ?_
  refine JC_condF _ rfl (decide_eq_false (by omega)) ?_
  refine JC_skip ?_
  refine JQ_then ?_
  refine JC_seq ?_
  obtain ⟨bz1, oz1, hz1, hm1⟩ := hr.pos (by rw [hz]; omega)
  refine JC_draw 46 1 [(0, Ptr rb 0), (1, Ptr rb 0), (2, Ptr rb 1), (3, .slice ao n c), (4, Ptr bz1 oz1), (5, U8 (g8 z 0)), (6, I64 (((g8 z 0).toNat:Int))), (7, I64 ((256 * (g8 z 0).toNat:Int))), (8, Ptr rb 0), (9, Ptr rb 0), (10, Ptr rb 1), (11, .slice ao n c), (12, Ptr bz1 (oz1 + 1)), (13, U8 (g8 z 1)), (14, I64 (((g8 z 1).toNat:Int))), (15, I64 ((256 * (g8 z 0).toNat + (g8 z 1).toNat:Int))), (16, I64 ((256 * (g8 z 0).toNat + (g8 z 1).toNat:Int)))] Try.mixed rfl (by decide +kernel) ?_
  refine DP_end ⟨[], [0, 1, 2, 3, 4, 5, 6, 7, 8, 9, 10, 11, 12, 13, 14, 15, 16], [], [0, 1, 2, 3, 4, 5, 6, 7, 8, 9, 10, 11, 12, 13, 14, 15, 16], []⟩ rfl rfl (by decide +kernel) rfl ⟨⟨_, rfl, Qok_val rfl (Ev_move rfl)⟩, ⟨_, rfl, Qok_val rfl (Ev_nilCheck rfl)⟩, ⟨_, rfl, Qok_val rfl (Ev_fieldAddr 1 38 1 Try.underlying123 rfl Try.sizeOf38 rfl rfl)⟩, ⟨_, rfl, Qok_val rfl (Ev_load rfl (Ld_one Try.isAgg38 (MemAt.ent 0 rfl (Seg.tail (Seg.head)))))⟩, ⟨_, rfl, Qok_val rfl (Ev_indexSlG 5 1 oz1 Try.underlying38 Try.sizeOf5 rfl hz1 rfl (by omega) (by omega) (by omega))⟩, ⟨_, rfl, Qok_val rfl (Ev_load rfl (Ld_one Try.isAgg5 (MemAt.seg (MemAt.base hm1.1 hm1.2.1 hm1.2.2) (Seg.get (g8_get (i := 0) (by rw [hz]; omega))) (by omega))))⟩, ⟨_, rfl, Qok_val rfl (Ev_conv _ _ rfl fun _ => conv_u8_i64 (by rw [Try.underlying5]; rfl) Try.underlying3 (g8 z 0) _ rfl)⟩, ⟨_, rfl, Qok_val rfl (Ev_bini rfl rfl fun _ => bin_shl8_i (g8 z 0) _)⟩, ⟨_, rfl, Qok_val rfl (Ev_move rfl)⟩, ⟨_, rfl, Qok_val rfl (Ev_nilCheck rfl)⟩, ⟨_, rfl, Qok_val rfl (Ev_fieldAddr 1 38 1 Try.underlying123 rfl Try.sizeOf38 rfl rfl)⟩, ⟨_, rfl, Qok_val rfl (Ev_load rfl (Ld_one Try.isAgg38 (MemAt.ent 0 rfl (Seg.tail (Seg.head)))))⟩, ⟨_, rfl, Qok_val rfl (Ev_indexSlG 5 1 (oz1 + 1) Try.underlying38 Try.sizeOf5 rfl hz1 rfl (by omega) (by omega) (by omega))⟩, ⟨_, rfl, Qok_val rfl (Ev_load rfl (Ld_one Try.isAgg5 (MemAt.seg (MemAt.base hm1.1 hm1.2.1 hm1.2.2) (Seg.get (g8_get (i := 1) (by rw [hz]; omega))) (by omega))))⟩, ⟨_, rfl, Qok_val rfl (Ev_conv _ _ rfl fun _ => conv_u8_i64 (by rw [Try.underlying5]; rfl) Try.underlying3 (g8 z 1) _ rfl)⟩, ⟨_, rfl, Qok_val rfl (Ev_bini rfl rfl fun _ => bin_or8_i (g8 z 0) (g8 z 1))⟩, ⟨_, rfl, Qok_val rfl (Ev_assign rfl)⟩, trivial⟩ ?_
  refine K_sub (F' := [(5, I64 ((256 * (g8 z 0).toNat + (g8 z 1).toNat:Int))), (0, Ptr rb 0), (1, I64 (s)), (4, .slice none 0 0)]) (Sub.cons (by kernel_rfl) (Sub.cons (by kernel_rfl) (Sub.cons (by kernel_rfl) (Sub.cons (by kernel_rfl) (Sub.nil))))) ?_
  show JQ _ _ _ [(5, I64 ((256 * (g8 z 0).toNat + (g8 z 1).toNat:Int))), (0, Ptr rb 0), (1, I64 (s)), (4, .slice none 0 0)] _
  refine JQ_then ?_
  refine JC_seq ?_
  refine JC_seq ?_
  refine JC_region ?_
  refine JL_val _ (Ev_move rfl) rfl ?_
  refine JL_val _ (Ev_move rfl) rfl ?_
  refine JL_val (.bool (decide ((s) < ((256 * (g8 z 0).toNat + (g8 z 1).toNat:Int))))) (Ev_bini rfl rfl fun _ => bin_gtr_i _ _) rfl ?_
  refine JL_val _ (Ev_move rfl) rfl ?_
  rcases Bool.eq_false_or_eq_true (decide ((s) < ((256 * (g8 z 0).toNat + (g8 z 1).toNat:Int)))) with hb1 | hb1
  ·
    have hp1 : (s) < ((256 * (g8 z 0).toNat + (g8 z 1).toNat:Int)) := of_decide_eq_true hb1
    refine JL_gskip 3 31 false _ rfl rfl hb1 rfl ?_
    refine JL_gskip 3 31 false _ rfl rfl hb1 rfl ?_
    refine JL_gskip 3 31 false _ rfl rfl hb1 rfl ?_
    refine JL_gskip 3 31 false _ rfl rfl hb1 rfl ?_
    refine JL_gskip 3 31 false _ rfl rfl hb1 rfl ?_
    refine JL_val _ (Ev_pickT _ rfl hb1 rfl) rfl ?_
    refine JL_nil ?_
    refine JQ_then ?_
    refine JC_condT _ rfl rfl ?_
    refine JC_seq ?_
    refine JC_region ?_
    refine JL_val _ (Ev_move rfl) rfl ?_
    refine JL_val (.iface 36 (I64 (2:Int))) (Ev_iface Try.underlying36 rfl rfl) rfl ?_
    refine JL_step (Step_callW 63 [Ptr rb 0, .iface 36 (I64 (2:Int))] 0 ⟨rb, [errV 36 e, .slice ao n c], 123, (0, 0)⟩ _ (fun v e' l' => v = .tuple #[] ∧ e' = ⟨rb, [errV 36 (erN e 2), .slice ao n c], 123, (0, 0)⟩ ∧ l' = []) (Cl_func [Ptr rb 0, .iface 36 (I64 (2:Int))] Try.call63 rfl) rfl (by rintro v l ⟨rfl, rfl⟩; exact ⟨_, _, rfl, rfl, rfl, rfl, rfl⟩) (fun w1 hw1 => failRdi_c rb e 2 (.slice ao n c) w1 (by decide) (hw1.ent _ (List.mem_of_getElem? (i := 0) rfl)))) rfl ?_
    rintro v1 L1 ⟨_, _, ⟨rfl, rfl, rfl⟩, rfl⟩
    show JL _ _ _ _ ((40, .tuple #[]) :: _) [⟨rb, [errV 36 (erN e 2), .slice ao n c], 123, (0, 0)⟩]
    refine JL_nil ?_
    refine JQ_then ?_
    refine JC_seq ?_
    refine JC_region ?_
    refine JL_val _ (Ev_assign rfl) rfl ?_
    refine JL_nil ?_
    refine JQ_then ?_
    refine JC_ret ?_
    refine JQ_then_ret ?_
    refine JQ_ret (.slice none 0 0) (res1 Try.results56 (RV_tmp rfl)) fun w1 hw1 => ?_
    exact ⟨_, _, rfl, ⟨rfl, rfl⟩, hw1⟩
  ·
    have hp1 : ¬ ((s) < ((256 * (g8 z 0).toNat + (g8 z 1).toNat:Int))) := of_decide_eq_false hb1
    refine JL_gval 3 31 false _ _ rfl rfl hb1 (Ev_move rfl) rfl ?_
    refine JL_gval 3 31 false _ _ rfl rfl hb1 (Ev_move rfl) rfl ?_
    refine JL_gstep 3 31 false _ rfl rfl hb1 (Step_callP 64 [Ptr rb 0] (I64 ((n:Int))) (Cl_func [Ptr rb 0] Try.call64 rfl) (fun w1 hw1 => leftZ_c rb e ao n c w1 (RdA.of hw1 (MemAt.ent 0 rfl (Seg.whole _)) (by simp)) he)) rfl ?_
    rintro v1 L1 ⟨rfl, rfl⟩
    show JL _ _ _ _ ((34, I64 ((n:Int))) :: _) [⟨rb, [errV 36 e, .slice ao n c], 123, (0, 0)⟩]
    refine JL_gval 3 31 false _ (I64 ((n:Int) - 2)) rfl rfl hb1 (Ev_bini rfl rfl fun _ => bin_sub_i _ _ ((n:Int) - 2) (by omega) (by omega)) rfl ?_
    refine JL_gval 3 31 false _ (.bool (decide (((n:Int) - 2) < ((256 * (g8 z 0).toNat + (g8 z 1).toNat:Int))))) rfl rfl hb1 (Ev_bini rfl rfl fun _ => bin_gtr_i _ _) rfl ?_
    refine JL_val _ (Ev_pickF _ rfl hb1 rfl) rfl ?_
    refine JL_nil ?_
    refine JQ_then ?_
    refine JC_condT _ rfl (decide_eq_true (by omega)) ?_
    refine JC_seq ?_
    refine JC_region ?_
    refine JL_val _ (Ev_move rfl) rfl ?_
    refine JL_val (.iface 36 (I64 (2:Int))) (Ev_iface Try.underlying36 rfl rfl) rfl ?_
    refine JL_step (Step_callW 63 [Ptr rb 0, .iface 36 (I64 (2:Int))] 0 ⟨rb, [errV 36 e, .slice ao n c], 123, (0, 0)⟩ _ (fun v e' l' => v = .tuple #[] ∧ e' = ⟨rb, [errV 36 (erN e 2), .slice ao n c], 123, (0, 0)⟩ ∧ l' = []) (Cl_func [Ptr rb 0, .iface 36 (I64 (2:Int))] Try.call63 rfl) rfl (by rintro v l ⟨rfl, rfl⟩; exact ⟨_, _, rfl, rfl, rfl, rfl, rfl⟩) (fun w1 hw1 => failRdi_c rb e 2 (.slice ao n c) w1 (by decide) (hw1.ent _ (List.mem_of_getElem? (i := 0) rfl)))) rfl ?_
    rintro v1 L1 ⟨_, _, ⟨rfl, rfl, rfl⟩, rfl⟩
    show JL _ _ _ _ ((40, .tuple #[]) :: _) [⟨rb, [errV 36 (erN e 2), .slice ao n c], 123, (0, 0)⟩]
    refine JL_nil ?_
    refine JQ_then ?_
    refine JC_seq ?_
    refine JC_region ?_
    refine JL_val _ (Ev_assign rfl) rfl ?_
    refine JL_nil ?_
    refine JQ_then ?_
    refine JC_ret ?_
    refine JQ_then_ret ?_
    refine JQ_ret (.slice none 0 0) (res1 Try.results56 (RV_tmp rfl)) fun w1 hw1 => ?_
    exact ⟨_, _, rfl, ⟨rfl, rfl⟩, hw1⟩

theorem bytRZ_c (rb e : Nat) (ao : Option Addr) (n c : Nat) (z : List UInt8) (s : Int) (w : World) (h0 : w.heap[rb]? = some (.cells [errV 36 e, .slice ao n c].toArray 123 (0, 0))) (hz : z.length = n) (hn : n ≤ 2000000000) (hc : n ≤ c) (hcm : c ≤ maxLen) (hr : RdB w [rb] ao z) (he : e = 0) (hl : 2 ≤ n) (hb : ((256 * (g8 z 0).toNat + (g8 z 1).toNat : Nat) : Int) ≤ s) (hq : 256 * (g8 z 0).toNat + (g8 z 1).toNat = 0) : Calls Try.prog 56 #[Ptr rb 0, I64 (s)] w (Post w [rb] (fun v L => v = .slice none 0 0 ∧ L = [⟨rb, [errV 36 e, .slice (advA ao c 2) (n - 2) (c - 2)], 123, (0, 0)⟩])) := by
  refine enter w [rb] 46 [⟨rb, [errV 36 e, .slice ao n c], 123, (0, 0)⟩] [Ptr rb 0, I64 (s)] Try.func56 rfl rfl (by simp) (Hp.start (by simpa using h0) (by simp) (by simp)) ?_
  show JC _ _ _ [(0, Ptr rb 0), (1, I64 (s))] _
  refine JC_seq ?_
  refine JC_region ?_
  refine JL_val _ (Ev_assign rfl) rfl ?_
  refine JL_nil ?_
  refine JQ_then ?_
  refine JC_seq ?_
  refine JC_seq ?_
  refine JC_region ?_
  refine JL_val _ (Ev_move rfl) rfl ?_
  refine JL_step (Step_callP 64 [Ptr rb 0] (I64 ((n:Int))) (Cl_func [Ptr rb 0] Try.call64 rfl) (fun w1 hw1 => leftZ_c rb e ao n c w1 (RdA.of hw1 (MemAt.ent 0 rfl (Seg.whole _)) (by simp)) he)) rfl ?_
  rintro v1 L1 ⟨rfl, rfl⟩
  show JL _ _ _ _ ((7, I64 ((n:Int))) :: _) [⟨rb, [errV 36 e, .slice ao n c], 123, (0, 0)⟩]
  refine JL_val (.bool (decide (((n:Int)) < (2:Int)))) (Ev_bini rfl rfl fun _ => bin_lss_i _ _) rfl ?_
  refine JL_nil ?_
  refine JQ_then ?_
  refine JC_condF _ rfl (decide_eq_false (by omega)) ?_
  refine JC_skip ?_
  refine JQ_then ?_
  refine JC_seq ?_
  obtain ⟨bz1, oz1, hz1, hm1⟩ := hr.pos (by rw [hz]; omega)
  refine JC_draw 46 1 [(0, Ptr rb 0), (1, Ptr rb 0), (2, Ptr rb 1), (3, .slice ao n c), (4, Ptr bz1 oz1), (5, U8 (g8 z 0)), (6, I64 (((g8 z 0).toNat:Int))), (7, I64 ((256 * (g8 z 0).toNat:Int))), (8, Ptr rb 0), (9, Ptr rb 0), (10, Ptr rb 1), (11, .slice ao n c), (12, Ptr bz1 (oz1 + 1)), (13, U8 (g8 z 1)), (14, I64 (((g8 z 1).toNat:Int))), (15, I64 ((256 * (g8 z 0).toNat + (g8 z 1).toNat:Int))), (16, I64 ((256 * (g8 z 0).toNat + (g8 z 1).toNat:Int)))] Try.mixed rfl (by decide +kernel) ?_
  refine DP_end ⟨[], [0, 1, 2, 3, 4, 5, 6, 7, 8, 9, 10, 11, 12, 13, 14, 15, 16], [], [0, 1, 2, 3, 4, 5, 6, 7, 8, 9, 10, 11, 12, 13, 14, 15, 16], []⟩ rfl rfl (by decide +kernel) rfl ⟨⟨_, rfl, Qok_val rfl (Ev_move rfl)⟩, ⟨_, rfl, Qok_val rfl (Ev_nilCheck rfl)⟩, ⟨_, rfl, Qok_val rfl (Ev_fieldAddr 1 38 1 Try.underlying123 rfl Try.sizeOf38 rfl rfl)⟩, ⟨_, rfl, Qok_val rfl (Ev_load rfl (Ld_one Try.isAgg38 (MemAt.ent 0 rfl (Seg.tail (Seg.head)))))⟩, ⟨_, rfl, Qok_val rfl (Ev_indexSlG 5 1 oz1 Try.underlying38 Try.sizeOf5 rfl hz1 rfl (by omega) (by omega) (by omega))⟩, ⟨_, rfl, Qok_val rfl (Ev_load rfl (Ld_one Try.isAgg5 (MemAt.seg (MemAt.base hm1.1 hm1.2.1 hm1.2.2) (Seg.get (g8_get (i := 0) (by rw [hz]; omega))) (by omega))))⟩, ⟨_, rfl, Qok_val rfl (Ev_conv _ _ rfl fun _ => conv_u8_i64 (by rw [Try.underlying5]; rfl) Try.underlying3 (g8 z 0) _ rfl)⟩, ⟨_, rfl, Qok_val rfl (Ev_bini rfl rfl fun _ => bin_shl8_i (g8 z 0) _)⟩, ⟨_, rfl, Qok_val rfl (Ev_move rfl)⟩, ⟨_, rfl, Qok_val rfl (Ev_nilCheck rfl)⟩, ⟨_, rfl, Qok_val rfl (Ev_fieldAddr 1 38 1 Try.underlying123 rfl Try.sizeOf38 rfl rfl)⟩, ⟨_, rfl, Qok_val rfl (Ev_load rfl (Ld_one Try.isAgg38 (MemAt.ent 0 rfl (Seg.tail (Seg.head)))))⟩, ⟨_, rfl, Qok_val rfl (Ev_indexSlG 5 1 (oz1 + 1) Try.underlying38 Try.sizeOf5 rfl hz1 rfl (by omega) (by omega) (by omega))⟩, ⟨_, rfl, Qok_val rfl (Ev_load rfl (Ld_one Try.isAgg5 (MemAt.seg (MemAt.base hm1.1 hm1.2.1 hm1.2.2) (Seg.get (g8_get (i := 1) (by rw [hz]; omega))) (by omega))))⟩, ⟨_, rfl, Qok_val rfl (Ev_conv _ _ rfl fun _ => conv_u8_i64 (by rw [Try.underlying5]; rfl) Try.underlying3 (g8 z 1) _ rfl)⟩, ⟨_, rfl, Qok_val rfl (Ev_bini rfl rfl fun _ => bin_or8_i (g8 z 0) (g8 z 1))⟩, ⟨_, rfl, Qok_val rfl (Ev_assign rfl)⟩, trivial⟩ ?_
  refine K_sub (F' := [(5, I64 ((256 * (g8 z 0).toNat + (g8 z 1).toNat:Int))), (0, Ptr rb 0), (1, I64 (s)), (4, .slice none 0 0)]) (Sub.cons (by kernel_rfl) (Sub.cons (by kernel_rfl) (Sub.cons (by kernel_rfl) (Sub.cons (by kernel_rfl) (Sub.nil))))) ?_
  show JQ _ _ _ [(5, I64 ((256 * (g8 z 0).toNat + (g8 z 1).toNat:Int))), (0, Ptr rb 0), (1, I64 (s)), (4, .slice none 0 0)] _
  refine JQ_then ?_
  refine JC_seq ?_
  refine JC_seq ?_
  refine JC_region ?_
  refine JL_val _ (Ev_move rfl) rfl ?_
  refine JL_val _ (Ev_move rfl) rfl ?_
  refine JL_val (.bool (decide ((s) < ((256 * (g8 z 0).toNat + (g8 z 1).toNat:Int))))) (Ev_bini rfl rfl fun _ => bin_gtr_i _ _) rfl ?_
  refine JL_val _ (Ev_move rfl) rfl ?_
  refine JL_gval 3 31 false _ _ rfl rfl (decide_eq_false (by omega)) (Ev_move rfl) rfl ?_
  refine JL_gval 3 31 false _ _ rfl rfl (decide_eq_false (by omega)) (Ev_move rfl) rfl ?_
  refine JL_gstep 3 31 false _ rfl rfl (decide_eq_false (by omega)) (Step_callP 64 [Ptr rb 0] (I64 ((n:Int))) (Cl_func [Ptr rb 0] Try.call64 rfl) (fun w1 hw1 => leftZ_c rb e ao n c w1 (RdA.of hw1 (MemAt.ent 0 rfl (Seg.whole _)) (by simp)) he)) rfl ?_
  rintro v1 L1 ⟨rfl, rfl⟩
  show JL _ _ _ _ ((34, I64 ((n:Int))) :: _) [⟨rb, [errV 36 e, .slice ao n c], 123, (0, 0)⟩]
  refine JL_gval 3 31 false _ (I64 ((n:Int) - 2)) rfl rfl (decide_eq_false (by omega)) (Ev_bini rfl rfl fun _ => bin_sub_i _ _ ((n:Int) - 2) (by omega) (by omega)) rfl ?_
  refine JL_gval 3 31 false _ (.bool (decide (((n:Int) - 2) < ((256 * (g8 z 0).toNat + (g8 z 1).toNat:Int))))) rfl rfl (decide_eq_false (by omega)) (Ev_bini rfl rfl fun _ => bin_gtr_i _ _) rfl ?_
  refine JL_val _ (Ev_pickF _ rfl (decide_eq_false (by omega)) rfl) rfl ?_
  refine JL_nil ?_
  refine JQ_then ?_
  refine JC_condF _ rfl (decide_eq_false (by omega)) ?_
  refine JC_skip ?_
  refine JQ_then ?_
  refine JC_seq ?_
  refine JC_region ?_
  refine JL_val _ (Ev_move rfl) rfl ?_
  have hl1 : (z.drop 2).length = (n - 2) := by rw [List.length_drop, hz] <;> omega
  have hr1 := RdB.adv (c := c) hr 2 (by rw [hz]; omega) (by rw [hz]; omega)
  have hl2 : (mid z 0 2).length = 2 := mid_len (by rw [hz]; omega)
  refine JL_step (Step_call 58 _ [true] [rb] _ (Cl_func [Ptr rb 0, I64 (2:Int)] Try.call58 rfl) rfl (fun w1 hw1 => rawROk_c rb e ao n c z 2 (n - 2) (c - 2) w1 (hw1.ent _ (List.mem_of_getElem? (i := 0) rfl)) hz (by omega) (by omega) (by omega) (hr.at (M' := [rb]) hw1 (hw1.apart [0] _ rfl)) he (by omega) (by omega) (by omega) (by omega))) rfl ?_
  rintro v1 L1 ⟨_, ⟨nb1, sp1, cp1, rfl, rfl, hc1, hc2, hc3⟩, rfl⟩
  show JL _ _ _ _ ((42, Slc nb1 0 2 cp1) :: _) [⟨rb, [errV 36 e, .slice (advA ao c 2) (n - 2) (c - 2)], 123, (0, 0)⟩, ⟨nb1, cu8 (mid z 0 2) ++ sp1, 5, (0, 0)⟩]
  refine JL_nil ?_
  refine JQ_then ?_
  refine JC_seq ?_
  refine JC_region ?_
  refine JL_val _ (Ev_move rfl) rfl ?_
  refine JL_val _ (Ev_move rfl) rfl ?_
  refine JL_step (Step_callW 58 [Ptr rb 0, I64 ((256 * (g8 z 0).toNat + (g8 z 1).toNat:Int))] 0 ⟨rb, [errV 36 e, .slice (advA ao c 2) (n - 2) (c - 2)], 123, (0, 0)⟩ _ (fun v e' l' => v = .slice none 0 0 ∧ e' = ⟨rb, [errV 36 e, .slice (advA ao c 2) (n - 2) (c - 2)], 123, (0, 0)⟩ ∧ l' = []) (Cl_func [Ptr rb 0, I64 ((256 * (g8 z 0).toNat + (g8 z 1).toNat:Int))] Try.call58 rfl) rfl (by rintro v l ⟨rfl, rfl⟩; exact ⟨_, _, rfl, rfl, rfl, rfl, rfl⟩) (fun w1 hw1 => rawRZ0_c rb e (advA ao c 2) (n - 2) (c - 2) ((256 * (g8 z 0).toNat + (g8 z 1).toNat:Int)) w1 (hw1.ent _ (List.mem_of_getElem? (i := 0) rfl)) he (by omega))) rfl ?_
  rintro v1 L1 ⟨_, _, ⟨rfl, rfl, rfl⟩, rfl⟩
  show JL _ _ _ _ ((45, .slice none 0 0) :: _) [⟨rb, [errV 36 e, .slice (advA ao c 2) (n - 2) (c - 2)], 123, (0, 0)⟩, ⟨nb1, cu8 (mid z 0 2) ++ sp1, 5, (0, 0)⟩]
  refine JL_val _ (Ev_assign rfl) rfl ?_
  refine JL_nil ?_
  refine JQ_then ?_
  refine JC_ret ?_
  refine K_mask [true, false] ?_
  show JQ _ _ _ _ [⟨rb, [errV 36 e, .slice (advA ao c 2) (n - 2) (c - 2)], 123, (0, 0)⟩]
  refine JQ_ret (.slice none 0 0) (res1 Try.results56 (RV_tmp rfl)) fun w1 hw1 => ?_
  exact ⟨_, _, rfl, ⟨rfl, rfl⟩, hw1⟩

theorem bytROk_c (rb e : Nat) (ao : Option Addr) (n c : Nat) (z : List UInt8) (s : Int) (w : World) (h0 : w.heap[rb]? = some (.cells [errV 36 e, .slice ao n c].toArray 123 (0, 0))) (hz : z.length = n) (hn : n ≤ 2000000000) (hc : n ≤ c) (hcm : c ≤ maxLen) (hr : RdB w [rb] ao z) (he : e = 0) (hl : 2 ≤ n) (hb : ((256 * (g8 z 0).toNat + (g8 z 1).toNat : Nat) : Int) ≤ s) (hq : 0 < 256 * (g8 z 0).toNat + (g8 z 1).toNat) (hq2 : 256 * (g8 z 0).toNat + (g8 z 1).toNat + 2 ≤ n) : Calls Try.prog 56 #[Ptr rb 0, I64 (s)] w (Post w [rb] (fun v L => ∃ g sp cap, v = Slc g 0 (256 * (g8 z 0).toNat + (g8 z 1).toNat) cap ∧ L = [⟨rb, [errV 36 e, .slice (advA (advA ao c 2) (c - 2) (256 * (g8 z 0).toNat + (g8 z 1).toNat)) (n - (256 * (g8 z 0).toNat + (g8 z 1).toNat) - 2) (c - (256 * (g8 z 0).toNat + (g8 z 1).toNat) - 2)], 123, (0, 0)⟩, ⟨g, cu8 (mid (z.drop 2) 0 (256 * (g8 z 0).toNat + (g8 z 1).toNat)) ++ sp, 5, (0, 0)⟩] ∧ sp.length = cap - (256 * (g8 z 0).toNat + (g8 z 1).toNat) ∧ 256 * (g8 z 0).toNat + (g8 z 1).toNat ≤ cap ∧ cap ≤ maxLen)) := by
  refine enter w [rb] 46 [⟨rb, [errV 36 e, .slice ao n c], 123, (0, 0)⟩] [Ptr rb 0, I64 (s)] Try.func56 rfl rfl (by simp) (Hp.start (by simpa using h0) (by simp) (by simp)) ?_
  show JC _ _ _ [(0, Ptr rb 0), (1, I64 (s))] _
  refine JC_seq ?_
  refine JC_region ?_
  refine JL_val _ (Ev_assign rfl) rfl ?_
  refine JL_nil ?_
  refine JQ_then ?_
  refine JC_seq ?_
  refine JC_seq ?_
  refine JC_region ?_
  refine JL_val _ (Ev_move rfl) rfl ?_
  refine JL_step (Step_callP 64 [Ptr rb 0] (I64 ((n:Int))) (Cl_func [Ptr rb 0] Try.call64 rfl) (fun w1 hw1 => leftZ_c rb e ao n c w1 (RdA.of hw1 (MemAt.ent 0 rfl (Seg.whole _)) (by simp)) he)) rfl ?_
  rintro v1 L1 ⟨rfl, rfl⟩
  show JL _ _ _ _ ((7, I64 ((n:Int))) :: _) [⟨rb, [errV 36 e, .slice ao n c], 123, (0, 0)⟩]
  refine JL_val (.bool (decide (((n:Int)) < (2:Int)))) (Ev_bini rfl rfl fun _ => bin_lss_i _ _) rfl ?_
  refine JL_nil ?_
  refine JQ_then ?_
  refine JC_condF _ rfl (decide_eq_false (by omega)) ?_
  refine JC_skip ?_
  refine JQ_then ?_
  refine JC_seq ?_
  obtain ⟨bz1, oz1, hz1, hm1⟩ := hr.pos (by rw [hz]; omega)
  refine JC_draw 46 1 [(0, Ptr rb 0), (1, Ptr rb 0), (2, Ptr rb 1), (3, .slice ao n c), (4, Ptr bz1 oz1), (5, U8 (g8 z 0)), (6, I64 (((g8 z 0).toNat:Int))), (7, I64 ((256 * (g8 z 0).toNat:Int))), (8, Ptr rb 0), (9, Ptr rb 0), (10, Ptr rb 1), (11, .slice ao n c), (12, Ptr bz1 (oz1 + 1)), (13, U8 (g8 z 1)), (14, I64 (((g8 z 1).toNat:Int))), (15, I64 ((256 * (g8 z 0).toNat + (g8 z 1).toNat:Int))), (16, I64 ((256 * (g8 z 0).toNat + (g8 z 1).toNat:Int)))] Try.mixed rfl (by decide +kernel) ?_
  refine DP_end ⟨[], [0, 1, 2, 3, 4, 5, 6, 7, 8, 9, 10, 11, 12, 13, 14, 15, 16], [], [0, 1, 2, 3, 4, 5, 6, 7, 8, 9, 10, 11, 12, 13, 14, 15, 16], []⟩ rfl rfl (by decide +kernel) rfl ⟨⟨_, rfl, Qok_val rfl (Ev_move rfl)⟩, ⟨_, rfl, Qok_val rfl (Ev_nilCheck rfl)⟩, ⟨_, rfl, Qok_val rfl (Ev_fieldAddr 1 38 1 Try.underlying123 rfl Try.sizeOf38 rfl rfl)⟩, ⟨_, rfl, Qok_val rfl (Ev_load rfl (Ld_one Try.isAgg38 (MemAt.ent 0 rfl (Seg.tail (Seg.head)))))⟩, ⟨_, rfl, Qok_val rfl (Ev_indexSlG 5 1 oz1 Try.underlying38 Try.sizeOf5 rfl hz1 rfl (by omega) (by omega) (by omega))⟩, ⟨_, rfl, Qok_val rfl (Ev_load rfl (Ld_one Try.isAgg5 (MemAt.seg (MemAt.base hm1.1 hm1.2.1 hm1.2.2) (Seg.get (g8_get (i := 0) (by rw [hz]; omega))) (by omega))))⟩, ⟨_, rfl, Qok_val rfl (Ev_conv _ _ rfl fun _ => conv_u8_i64 (by rw [Try.underlying5]; rfl) Try.underlying3 (g8 z 0) _ rfl)⟩, ⟨_, rfl, Qok_val rfl (Ev_bini rfl rfl fun _ => bin_shl8_i (g8 z 0) _)⟩, ⟨_, rfl, Qok_val rfl (Ev_move rfl)⟩, ⟨_, rfl, Qok_val rfl (Ev_nilCheck rfl)⟩, ⟨_, rfl, Qok_val rfl (Ev_fieldAddr 1 38 1 Try.underlying123 rfl Try.sizeOf38 rfl rfl)⟩, ⟨_, rfl, Qok_val rfl (Ev_load rfl (Ld_one Try.isAgg38 (MemAt.ent 0 rfl (Seg.tail (Seg.head)))))⟩, ⟨_, rfl, Qok_val rfl (Ev_indexSlG 5 1 (oz1 + 1) Try.underlying38 Try.sizeOf5 rfl hz1 rfl (by omega) (by omega) (by omega))⟩, ⟨_, rfl, Qok_val rfl (Ev_load rfl (Ld_one Try.isAgg5 (MemAt.seg (MemAt.base hm1.1 hm1.2.1 hm1.2.2) (Seg.get (g8_get (i := 1) (by rw [hz]; omega))) (by omega))))⟩, ⟨_, rfl, Qok_val rfl (Ev_conv _ _ rfl fun _ => conv_u8_i64 (by rw [Try.underlying5]; rfl) Try.underlying3 (g8 z 1) _ rfl)⟩, ⟨_, rfl, Qok_val rfl (Ev_bini rfl rfl fun _ => bin_or8_i (g8 z 0) (g8 z 1))⟩, ⟨_, rfl, Qok_val rfl (Ev_assign rfl)⟩, trivial⟩ ?_
  refine K_sub (F' := [(5, I64 ((256 * (g8 z 0).toNat + (g8 z 1).toNat:Int))), (0, Ptr rb 0), (1, I64 (s)), (4, .slice none 0 0)]) (Sub.cons (by kernel_rfl) (Sub.cons (by kernel_rfl) (Sub.cons (by kernel_rfl) (Sub.cons (by kernel_rfl) (Sub.nil))))) ?_
  show JQ _ _ _ [(5, I64 ((256 * (g8 z 0).toNat + (g8 z 1).toNat:Int))), (0, Ptr rb 0), (1, I64 (s)), (4, .slice none 0 0)] _
  refine JQ_then ?_
  refine JC_seq ?_
  refine JC_seq ?_
  refine JC_region ?_
  refine JL_val _ (Ev_move rfl) rfl ?_
  refine JL_val _ (Ev_move rfl) rfl ?_
  refine JL_val (.bool (decide ((s) < ((256 * (g8 z 0).toNat + (g8 z 1).toNat:Int))))) (Ev_bini rfl rfl fun _ => bin_gtr_i _ _) rfl ?_
  refine JL_val _ (Ev_move rfl) rfl ?_
  refine JL_gval 3 31 false _ _ rfl rfl (decide_eq_false (by omega)) (Ev_move rfl) rfl ?_
  refine JL_gval 3 31 false _ _ rfl rfl (decide_eq_false (by omega)) (Ev_move rfl) rfl ?_
  refine JL_gstep 3 31 false _ rfl rfl (decide_eq_false (by omega)) (Step_callP 64 [Ptr rb 0] (I64 ((n:Int))) (Cl_func [Ptr rb 0] Try.call64 rfl) (fun w1 hw1 => leftZ_c rb e ao n c w1 (RdA.of hw1 (MemAt.ent 0 rfl (Seg.whole _)) (by simp)) he)) rfl ?_
  rintro v1 L1 ⟨rfl, rfl⟩
  show JL _ _ _ _ ((34, I64 ((n:Int))) :: _) [⟨rb, [errV 36 e, .slice ao n c], 123, (0, 0)⟩]
  refine JL_gval 3 31 false _ (I64 ((n:Int) - 2)) rfl rfl (decide_eq_false (by omega)) (Ev_bini rfl rfl fun _ => bin_sub_i _ _ ((n:Int) - 2) (by omega) (by omega)) rfl ?_
  refine JL_gval 3 31 false _ (.bool (decide (((n:Int) - 2) < ((256 * (g8 z 0).toNat + (g8 z 1).toNat:Int))))) rfl rfl (decide_eq_false (by omega)) (Ev_bini rfl rfl fun _ => bin_gtr_i _ _) rfl ?_
  refine JL_val _ (Ev_pickF _ rfl (decide_eq_false (by omega)) rfl) rfl ?_
  refine JL_nil ?_
  refine JQ_then ?_
  refine JC_condF _ rfl (decide_eq_false (by omega)) ?_
  refine JC_skip ?_
  refine JQ_then ?_
  refine JC_seq ?_
  refine JC_region ?_
  refine JL_val _ (Ev_move rfl) rfl ?_
  have hl1 : (z.drop 2).length = (n - 2) := by rw [List.length_drop, hz] <;> omega
  have hr1 := RdB.adv (c := c) hr 2 (by rw [hz]; omega) (by rw [hz]; omega)
  have hl2 : (mid z 0 2).length = 2 := mid_len (by rw [hz]; omega)
  refine JL_step (Step_call 58 _ [true] [rb] _ (Cl_func [Ptr rb 0, I64 (2:Int)] Try.call58 rfl) rfl (fun w1 hw1 => rawROk_c rb e ao n c z 2 (n - 2) (c - 2) w1 (hw1.ent _ (List.mem_of_getElem? (i := 0) rfl)) hz (by omega) (by omega) (by omega) (hr.at (M' := [rb]) hw1 (hw1.apart [0] _ rfl)) he (by omega) (by omega) (by omega) (by omega))) rfl ?_
  rintro v1 L1 ⟨_, ⟨nb1, sp1, cp1, rfl, rfl, hc1, hc2, hc3⟩, rfl⟩
  show JL _ _ _ _ ((42, Slc nb1 0 2 cp1) :: _) [⟨rb, [errV 36 e, .slice (advA ao c 2) (n - 2) (c - 2)], 123, (0, 0)⟩, ⟨nb1, cu8 (mid z 0 2) ++ sp1, 5, (0, 0)⟩]
  refine JL_nil ?_
  refine JQ_then ?_
  refine JC_seq ?_
  refine JC_region ?_
  refine JL_val _ (Ev_move rfl) rfl ?_
  refine JL_val _ (Ev_move rfl) rfl ?_
  have hl3 : ((z.drop 2).drop (256 * (g8 z 0).toNat + (g8 z 1).toNat)).length = (n - (256 * (g8 z 0).toNat + (g8 z 1).toNat) - 2) := by rw [List.length_drop, hl1] <;> omega
  have hr2 := RdB.adv (c := (c - 2)) hr1 (256 * (g8 z 0).toNat + (g8 z 1).toNat) (by rw [hl1]; omega) (by rw [hl1]; omega)
  have hl4 : (mid (z.drop 2) 0 (256 * (g8 z 0).toNat + (g8 z 1).toNat)).length = (256 * (g8 z 0).toNat + (g8 z 1).toNat) := mid_len (by rw [hl1]; omega)
  refine JL_step (Step_call 58 _ [true, false] [rb] _ (Cl_func [Ptr rb 0, I64 ((256 * (g8 z 0).toNat + (g8 z 1).toNat:Int))] Try.call58 rfl) rfl (fun w1 hw1 => rawROk_c rb e (advA ao c 2) (n - 2) (c - 2) (z.drop 2) (256 * (g8 z 0).toNat + (g8 z 1).toNat) (n - (256 * (g8 z 0).toNat + (g8 z 1).toNat) - 2) (c - (256 * (g8 z 0).toNat + (g8 z 1).toNat) - 2) w1 (hw1.ent _ (List.mem_of_getElem? (i := 0) rfl)) hl1 (by omega) (by omega) (by omega) (hr1.at (M' := [rb]) hw1 (hw1.apart [0] _ rfl)) he (by omega) (by omega) (by omega) (by omega))) rfl ?_
  rintro v1 L1 ⟨_, ⟨nb2, sp2, cp2, rfl, rfl, hc4, hc5, hc6⟩, rfl⟩
  show JL _ _ _ _ ((45, Slc nb2 0 (256 * (g8 z 0).toNat + (g8 z 1).toNat) cp2) :: _) [⟨nb1, cu8 (mid z 0 2) ++ sp1, 5, (0, 0)⟩, ⟨rb, [errV 36 e, .slice (advA (advA ao c 2) (c - 2) (256 * (g8 z 0).toNat + (g8 z 1).toNat)) (n - (256 * (g8 z 0).toNat + (g8 z 1).toNat) - 2) (c - (256 * (g8 z 0).toNat + (g8 z 1).toNat) - 2)], 123, (0, 0)⟩, ⟨nb2, cu8 (mid (z.drop 2) 0 (256 * (g8 z 0).toNat + (g8 z 1).toNat)) ++ sp2, 5, (0, 0)⟩]
  refine JL_val _ (Ev_assign rfl) rfl ?_
  refine JL_nil ?_
  refine JQ_then ?_
  refine JC_ret ?_
  refine K_mask [false, true, true] ?_
  show JQ _ _ _ _ [⟨rb, [errV 36 e, .slice (advA (advA ao c 2) (c - 2) (256 * (g8 z 0).toNat + (g8 z 1).toNat)) (n - (256 * (g8 z 0).toNat + (g8 z 1).toNat) - 2) (c - (256 * (g8 z 0).toNat + (g8 z 1).toNat) - 2)], 123, (0, 0)⟩, ⟨nb2, cu8 (mid (z.drop 2) 0 (256 * (g8 z 0).toNat + (g8 z 1).toNat)) ++ sp2, 5, (0, 0)⟩]
  refine JQ_ret (Slc nb2 0 (256 * (g8 z 0).toNat + (g8 z 1).toNat) cp2) (res1 Try.results56 (RV_tmp rfl)) fun w1 hw1 => ?_
  exact ⟨_, _, rfl, ⟨nb2, sp2, cp2, rfl, rfl, hc4, hc5, hc6⟩, hw1⟩

theorem bytRNil_c (s : Int) (w : World) : Calls Try.prog 56 #[.pointer none, I64 (s)] w (Post w [] (fun v L => v = .slice none 0 0 ∧ L = [])) := by
  refine enter w [] 46 [] [.pointer none, I64 (s)] Try.func56 rfl rfl (by simp) (Hp.start (by simp) (by simp) (by simp)) ?_
  show JC _ _ _ [(0, .pointer none), (1, I64 (s))] _
  refine JC_seq ?_
  refine JC_region ?_
  refine JL_val _ (Ev_assign rfl) rfl ?_
  refine JL_nil ?_
  refine JQ_then ?_
  refine JC_seq ?_
  refine JC_seq ?_
  refine JC_region ?_
  refine JL_val _ (Ev_move rfl) rfl ?_
  refine JL_step (Step_callP 64 [.pointer none] (I64 (0:Int)) (Cl_func [.pointer none] Try.call64 rfl) (fun w1 hw1 => leftNil_c w1)) rfl ?_
  rintro v1 L1 ⟨rfl, rfl⟩
  show JL _ _ _ _ ((7, I64 (0:Int)) :: _) []
  refine JL_val (.bool (decide ((0:Int) < (2:Int)))) (Ev_bini rfl rfl fun _ => bin_lss_i _ _) rfl ?_
  refine JL_nil ?_
  refine JQ_then ?_
  refine JC_condT _ rfl (by decide) ?_
  refine JC_seq ?_
  refine JC_region ?_
  refine JL_val _ (Ev_move rfl) rfl ?_
  refine JL_val (.iface 36 (I64 (2:Int))) (Ev_iface Try.underlying36 rfl rfl) rfl ?_
  refine JL_step (Step_callP 63 [.pointer none, .iface 36 (I64 (2:Int))] (.tuple #[]) (Cl_func [.pointer none, .iface 36 (I64 (2:Int))] Try.call63 rfl) (fun w1 hw1 => failRdNil_c (.iface 36 (I64 (2:Int))) w1)) rfl ?_
  rintro v1 L1 ⟨rfl, rfl⟩
  show JL _ _ _ _ ((11, .tuple #[]) :: _) []
  refine JL_nil ?_
  refine JQ_then ?_
  refine JC_seq ?_
  refine JC_region ?_
  refine JL_val _ (Ev_assign rfl) rfl ?_
  refine JL_nil ?_
  refine JQ_then ?_
  refine JC_ret ?_
  refine JQ_then_ret ?_
  refine JQ_ret (.slice none 0 0) (res1 Try.results56 (RV_tmp rfl)) fun w1 hw1 => ?_
  exact ⟨_, [], rfl, ⟨rfl, rfl⟩, hw1.sub (by simp) (by simp)⟩

theorem hasRE_c (rb e : Nat) (sv : Value) (w : World) (h0 : w.heap[rb]? = some (.cells [errV 36 e, sv].toArray 123 (0, 0))) (he : e ≠ 0) : Calls Try.prog 60 #[Ptr rb 0] w (Post w [rb] (fun v L => v = .agg (cu8 (zr8 32)).toArray ∧ L = [⟨rb, [errV 36 (erN e 2), sv], 123, (0, 0)⟩])) := by
  refine enter w [rb] 9 [⟨rb, [errV 36 e, sv], 123, (0, 0)⟩] [Ptr rb 0] Try.func60 rfl rfl (by simp) (Hp.start (by simpa using h0) (by simp) (by simp)) ?_
  show JC _ _ _ [(0, Ptr rb 0)] _
  refine JC_seq ?_
  refine JC_region ?_
  refine JL_step (Step_alloc _ (cu8 (zr8 32)) Try.zeroValue76 (by kernel_rfl)) rfl ?_
  rintro v1 L1 ⟨nb1, hnb1, rfl, rfl⟩
  show JL _ _ _ _ ((2, Ptr nb1 0) :: _) [⟨rb, [errV 36 e, sv], 123, (0, 0)⟩, ⟨nb1, cu8 (zr8 32), 76, (0, 0)⟩]
  refine JL_nil ?_
  refine JQ_then ?_
  refine JC_seq ?_
  refine JC_region ?_
  refine JL_step (Step_alloc _ (cu8 (zr8 32)) Try.zeroValue76 (by kernel_rfl)) rfl ?_
  rintro v1 L1 ⟨nb2, hnb2, rfl, rfl⟩
  show JL _ _ _ _ ((3, Ptr nb2 0) :: _) [⟨rb, [errV 36 e, sv], 123, (0, 0)⟩, ⟨nb1, cu8 (zr8 32), 76, (0, 0)⟩, ⟨nb2, cu8 (zr8 32), 76, (0, 0)⟩]
  refine JL_nil ?_
  refine JQ_then ?_
  refine JC_seq ?_
  refine JC_draw 9 3 [(0, Slc nb2 0 32 32), (1, Ptr rb 0)] Try.mixed rfl (by decide +kernel) ?_
  refine DP_one ⟨[], [0, 1], [], [0, 1], [2]⟩ 2 _ rfl rfl (by decide +kernel) rfl ⟨⟨_, rfl, Qok_val rfl (Ev_sliceA 32 5 1 0 32 0 32 Try.underlying76 Try.sizeOf5 rfl rfl rfl (by omega) (by omega) (by omega) (by omega) (by omega) 32 (by omega))⟩, ⟨_, rfl, Qok_val rfl (Ev_move rfl)⟩, trivial⟩ rfl (Cok_step rfl (Step_callW 58 [Ptr rb 0, I64 (32:Int)] 0 ⟨rb, [errV 36 e, sv], 123, (0, 0)⟩ _ (fun v e' l' => v = .slice none 0 0 ∧ e' = ⟨rb, [errV 36 (erN e 2), sv], 123, (0, 0)⟩ ∧ l' = []) (Cl_func [Ptr rb 0, I64 (32:Int)] Try.call58 rfl) rfl (by rintro v l ⟨rfl, rfl⟩; exact ⟨_, _, rfl, rfl, rfl, rfl, rfl⟩) (fun w1 hw1 => rawRB1_c rb e sv (32:Int) w1 (hw1.ent _ (List.mem_of_getElem? (i := 0) rfl)) he (by decide)))) ?_
  rintro v1 L1 ⟨_, _, ⟨rfl, rfl, rfl⟩, rfl⟩
  refine ⟨[], ?_⟩
  show DP _ _ _ _ _ _ _ _ [⟨rb, [errV 36 (erN e 2), sv], 123, (0, 0)⟩, ⟨nb1, cu8 (zr8 32), 76, (0, 0)⟩, ⟨nb2, cu8 (zr8 32), 76, (0, 0)⟩]
  refine DP_one ⟨[2], [0, 1], [1], [0], [3]⟩ 3 _ rfl rfl (by decide +kernel) rfl ⟨⟨_, rfl, Qok_val rfl (Ev_sliceA 32 5 1 0 32 0 32 Try.underlying76 Try.sizeOf5 rfl rfl rfl (by omega) (by omega) (by omega) (by omega) (by omega) 32 (by omega))⟩, trivial⟩ rfl (Cok_step rfl (Step_copy 38 38 5 2 nb2 0 32 32 (cu8 (zr8 32)) 76 none 0 0 0 [] (cu8 (zr8 32)) Try.underlying38 Try.size1_5 rfl rfl rfl rfl rfl SrcAt.nil (by simp) one_nil (lay_nil _ _))) ?_
  rintro v1 L1 ⟨rfl, rfl⟩
  refine ⟨[], ?_⟩
  show DP _ _ _ _ _ _ _ _ [⟨rb, [errV 36 (erN e 2), sv], 123, (0, 0)⟩, ⟨nb1, cu8 (zr8 32), 76, (0, 0)⟩, ⟨nb2, cu8 (zr8 32), 76, (0, 0)⟩]
  refine DP_end ⟨[2, 3], [0, 1], [0, 1], [], []⟩ rfl rfl (by decide +kernel) rfl trivial ?_
  refine K_sub (F' := [(2, Ptr nb1 0), (3, Ptr nb2 0)]) (Sub.cons (by kernel_rfl) (Sub.cons (by kernel_rfl) (Sub.nil))) ?_
  show JQ _ _ _ [(2, Ptr nb1 0), (3, Ptr nb2 0)] _
  refine JQ_then ?_
  refine JC_seq ?_
  refine JC_region ?_
  refine JL_val (.agg (cu8 (zr8 32)).toArray) (Ev_load rfl (Ld_agg Try.isAgg76 Try.sizeOf76 (len_cu8 (zr8_len 32)) (MemAt.ent 2 rfl (Seg.whole _)))) rfl ?_
  refine JL_step (Step_store 1 nb1 0 32 (cu8 (zr8 32)) 76 (.agg (cu8 (zr8 32)).toArray) (cu8 (zr8 32)) (cu8 (zr8 32)) rfl rfl rfl (by first | rfl | simp) Try.sizeOf76 (len_cu8 (zr8_len 32)) (by first | exact one_u8 | exact one_u32 | exact one_u64 | (simp [cu8, cu32, cu64, Value.oneCell']; done)) (by simp [(zr8_len 32)]) (lay_whole (by simp [(zr8_len 32), (zr8_len 32)]))) rfl ?_
  rintro v1 L1 ⟨rfl, rfl⟩
  show JL _ _ _ _ _ [⟨rb, [errV 36 (erN e 2), sv], 123, (0, 0)⟩, ⟨nb1, cu8 (zr8 32), 76, (0, 0)⟩, ⟨nb2, cu8 (zr8 32), 76, (0, 0)⟩]
  refine JL_nil ?_
  refine JQ_then ?_
  refine JC_ret ?_
  refine K_mask [true, true, false] ?_
  show JQ _ _ _ _ [⟨rb, [errV 36 (erN e 2), sv], 123, (0, 0)⟩, ⟨nb1, cu8 (zr8 32), 76, (0, 0)⟩]
  refine JQ_ret (.agg (cu8 (zr8 32)).toArray) (res1 Try.results60 (RV_cell rfl (Ld_agg Try.isAgg76 Try.sizeOf76 (len_cu8 (zr8_len 32)) (MemAt.ent 1 rfl (Seg.whole _))))) fun w1 hw1 => ?_
  exact ⟨_, _, rfl, ⟨by first | rfl | simp [spl], rfl⟩, hw1.sub (by simp) (by simp)⟩

theorem hasRS_c (rb e : Nat) (ao : Option Addr) (n c : Nat) (w : World) (h0 : w.heap[rb]? = some (.cells [errV 36 e, .slice ao n c].toArray 123 (0, 0))) (he : e = 0) (hl : n < 32) : Calls Try.prog 60 #[Ptr rb 0] w (Post w [rb] (fun v L => v = .agg (cu8 (zr8 32)).toArray ∧ L = [⟨rb, [errV 36 (erN e 2), .slice ao n c], 123, (0, 0)⟩])) := by
  refine enter w [rb] 9 [⟨rb, [errV 36 e, .slice ao n c], 123, (0, 0)⟩] [Ptr rb 0] Try.func60 rfl rfl (by simp) (Hp.start (by simpa using h0) (by simp) (by simp)) ?_
  show JC _ _ _ [(0, Ptr rb 0)] _
  refine JC_seq ?_
  refine JC_region ?_
  refine JL_step (Step_alloc _ (cu8 (zr8 32)) Try.zeroValue76 (by kernel_rfl)) rfl ?_
  rintro v1 L1 ⟨nb1, hnb1, rfl, rfl⟩
  show JL _ _ _ _ ((2, Ptr nb1 0) :: _) [⟨rb, [errV 36 e, .slice ao n c], 123, (0, 0)⟩, ⟨nb1, cu8 (zr8 32), 76, (0, 0)⟩]
  refine JL_nil ?_
  refine JQ_then ?_
  refine JC_seq ?_
  refine JC_region ?_
  refine JL_step (Step_alloc _ (cu8 (zr8 32)) Try.zeroValue76 (by kernel_rfl)) rfl ?_
  rintro v1 L1 ⟨nb2, hnb2, rfl, rfl⟩
  show JL _ _ _ _ ((3, Ptr nb2 0) :: _) [⟨rb, [errV 36 e, .slice ao n c], 123, (0, 0)⟩, ⟨nb1, cu8 (zr8 32), 76, (0, 0)⟩, ⟨nb2, cu8 (zr8 32), 76, (0, 0)⟩]
  refine JL_nil ?_
  refine JQ_then ?_
  refine JC_seq ?_
  refine JC_draw 9 3 [(0, Slc nb2 0 32 32), (1, Ptr rb 0)] Try.mixed rfl (by decide +kernel) ?_
  refine DP_one ⟨[], [0, 1], [], [0, 1], [2]⟩ 2 _ rfl rfl (by decide +kernel) rfl ⟨⟨_, rfl, Qok_val rfl (Ev_sliceA 32 5 1 0 32 0 32 Try.underlying76 Try.sizeOf5 rfl rfl rfl (by omega) (by omega) (by omega) (by omega) (by omega) 32 (by omega))⟩, ⟨_, rfl, Qok_val rfl (Ev_move rfl)⟩, trivial⟩ rfl (Cok_step rfl (Step_callW 58 [Ptr rb 0, I64 (32:Int)] 0 ⟨rb, [errV 36 e, .slice ao n c], 123, (0, 0)⟩ _ (fun v e' l' => v = .slice none 0 0 ∧ e' = ⟨rb, [errV 36 (erN e 2), .slice ao n c], 123, (0, 0)⟩ ∧ l' = []) (Cl_func [Ptr rb 0, I64 (32:Int)] Try.call58 rfl) rfl (by rintro v l ⟨rfl, rfl⟩; exact ⟨_, _, rfl, rfl, rfl, rfl, rfl⟩) (fun w1 hw1 => rawRB0_c rb e ao n c (32:Int) w1 (hw1.ent _ (List.mem_of_getElem? (i := 0) rfl)) he (.inr (by omega))))) ?_
  rintro v1 L1 ⟨_, _, ⟨rfl, rfl, rfl⟩, rfl⟩
  refine ⟨[], ?_⟩
  show DP _ _ _ _ _ _ _ _ [⟨rb, [errV 36 (erN e 2), .slice ao n c], 123, (0, 0)⟩, ⟨nb1, cu8 (zr8 32), 76, (0, 0)⟩, ⟨nb2, cu8 (zr8 32), 76, (0, 0)⟩]
  refine DP_one ⟨[2], [0, 1], [1], [0], [3]⟩ 3 _ rfl rfl (by decide +kernel) rfl ⟨⟨_, rfl, Qok_val rfl (Ev_sliceA 32 5 1 0 32 0 32 Try.underlying76 Try.sizeOf5 rfl rfl rfl (by omega) (by omega) (by omega) (by omega) (by omega) 32 (by omega))⟩, trivial⟩ rfl (Cok_step rfl (Step_copy 38 38 5 2 nb2 0 32 32 (cu8 (zr8 32)) 76 none 0 0 0 [] (cu8 (zr8 32)) Try.underlying38 Try.size1_5 rfl rfl rfl rfl rfl SrcAt.nil (by simp) one_nil (lay_nil _ _))) ?_
  rintro v1 L1 ⟨rfl, rfl⟩
  refine ⟨[], ?_⟩
  show DP _ _ _ _ _ _ _ _ [⟨rb, [errV 36 (erN e 2), .slice ao n c], 123, (0, 0)⟩, ⟨nb1, cu8 (zr8 32), 76, (0, 0)⟩, ⟨nb2, cu8 (zr8 32), 76, (0, 0)⟩]
  refine DP_end ⟨[2, 3], [0, 1], [0, 1], [], []⟩ rfl rfl (by decide +kernel) rfl trivial ?_
  refine K_sub (F' := [(2, Ptr nb1 0), (3, Ptr nb2 0)]) (Sub.cons (by kernel_rfl) (Sub.cons (by kernel_rfl) (Sub.nil))) ?_
  show JQ _ _ _ [(2, Ptr nb1 0), (3, Ptr nb2 0)] _
  refine JQ_then ?_
  refine JC_seq ?_
  refine JC_region ?_
  refine JL_val (.agg (cu8 (zr8 32)).toArray) (Ev_load rfl (Ld_agg Try.isAgg76 Try.sizeOf76 (len_cu8 (zr8_len 32)) (MemAt.ent 2 rfl (Seg.whole _)))) rfl ?_
  refine JL_step (Step_store 1 nb1 0 32 (cu8 (zr8 32)) 76 (.agg (cu8 (zr8 32)).toArray) (cu8 (zr8 32)) (cu8 (zr8 32)) rfl rfl rfl (by first | rfl | simp) Try.sizeOf76 (len_cu8 (zr8_len 32)) (by first | exact one_u8 | exact one_u32 | exact one_u64 | (simp [cu8, cu32, cu64, Value.oneCell']; done)) (by simp [(zr8_len 32)]) (lay_whole (by simp [(zr8_len 32), (zr8_len 32)]))) rfl ?_
  rintro v1 L1 ⟨rfl, rfl⟩
  show JL _ _ _ _ _ [⟨rb, [errV 36 (erN e 2), .slice ao n c], 123, (0, 0)⟩, ⟨nb1, cu8 (zr8 32), 76, (0, 0)⟩, ⟨nb2, cu8 (zr8 32), 76, (0, 0)⟩]
  refine JL_nil ?_
  refine JQ_then ?_
  refine JC_ret ?_
  refine K_mask [true, true, false] ?_
  show JQ _ _ _ _ [⟨rb, [errV 36 (erN e 2), .slice ao n c], 123, (0, 0)⟩, ⟨nb1, cu8 (zr8 32), 76, (0, 0)⟩]
  refine JQ_ret (.agg (cu8 (zr8 32)).toArray) (res1 Try.results60 (RV_cell rfl (Ld_agg Try.isAgg76 Try.sizeOf76 (len_cu8 (zr8_len 32)) (MemAt.ent 1 rfl (Seg.whole _))))) fun w1 hw1 => ?_
  exact ⟨_, _, rfl, ⟨by first | rfl | simp [spl], rfl⟩, hw1.sub (by simp) (by simp)⟩

theorem hasROk_c (rb e : Nat) (ao : Option Addr) (n c : Nat) (z : List UInt8)  (w : World) (h0 : w.heap[rb]? = some (.cells [errV 36 e, .slice ao n c].toArray 123 (0, 0))) (hz : z.length = n) (hn : n ≤ 2000000000) (hc : n ≤ c) (hcm : c ≤ maxLen) (hr : RdB w [rb] ao z) (he : e = 0) (hl : 32 ≤ n) : Calls Try.prog 60 #[Ptr rb 0] w (Post w [rb] (fun v L => v = .agg (cu8 (mid z 0 32)).toArray ∧ L = [⟨rb, [errV 36 e, .slice (advA ao c 32) (n - 32) (c - 32)], 123, (0, 0)⟩])) := by
  refine enter w [rb] 9 [⟨rb, [errV 36 e, .slice ao n c], 123, (0, 0)⟩] [Ptr rb 0] Try.func60 rfl rfl (by simp) (Hp.start (by simpa using h0) (by simp) (by simp)) ?_
  show JC _ _ _ [(0, Ptr rb 0)] _
  refine JC_seq ?_
  refine JC_region ?_
  refine JL_step (Step_alloc _ (cu8 (zr8 32)) Try.zeroValue76 (by kernel_rfl)) rfl ?_
  rintro v1 L1 ⟨nb1, hnb1, rfl, rfl⟩
  show JL _ _ _ _ ((2, Ptr nb1 0) :: _) [⟨rb, [errV 36 e, .slice ao n c], 123, (0, 0)⟩, ⟨nb1, cu8 (zr8 32), 76, (0, 0)⟩]
  refine JL_nil ?_
  refine JQ_then ?_
  refine JC_seq ?_
  refine JC_region ?_
  refine JL_step (Step_alloc _ (cu8 (zr8 32)) Try.zeroValue76 (by kernel_rfl)) rfl ?_
  rintro v1 L1 ⟨nb2, hnb2, rfl, rfl⟩
  show JL _ _ _ _ ((3, Ptr nb2 0) :: _) [⟨rb, [errV 36 e, .slice ao n c], 123, (0, 0)⟩, ⟨nb1, cu8 (zr8 32), 76, (0, 0)⟩, ⟨nb2, cu8 (zr8 32), 76, (0, 0)⟩]
  refine JL_nil ?_
  refine JQ_then ?_
  refine JC_seq ?_
  refine JC_draw 9 3 [(0, Slc nb2 0 32 32), (1, Ptr rb 0)] Try.mixed rfl (by decide +kernel) ?_
  have hl1 : (z.drop 32).length = (n - 32) := by rw [List.length_drop, hz] <;> omega
  have hr1 := RdB.adv (c := c) hr 32 (by rw [hz]; omega) (by rw [hz]; omega)
  have hl2 : (mid z 0 32).length = 32 := mid_len (by rw [hz]; omega)
  refine DP_one ⟨[], [0, 1], [], [0, 1], [2]⟩ 2 _ rfl rfl (by decide +kernel) rfl ⟨⟨_, rfl, Qok_val rfl (Ev_sliceA 32 5 1 0 32 0 32 Try.underlying76 Try.sizeOf5 rfl rfl rfl (by omega) (by omega) (by omega) (by omega) (by omega) 32 (by omega))⟩, ⟨_, rfl, Qok_val rfl (Ev_move rfl)⟩, trivial⟩ rfl (Cok_step rfl (Step_call 58 _ [true, false, false] [rb] _ (Cl_func [Ptr rb 0, I64 (32:Int)] Try.call58 rfl) rfl (fun w1 hw1 => rawROk_c rb e ao n c z 32 (n - 32) (c - 32) w1 (hw1.ent _ (List.mem_of_getElem? (i := 0) rfl)) hz (by omega) (by omega) (by omega) (hr.at (M' := [rb]) hw1 (hw1.apart [0] _ rfl)) he (by omega) hl (by omega) (by omega)))) ?_
  rintro v1 L1 ⟨_, ⟨nb3, sp1, cp1, rfl, rfl, hc1, hc2, hc3⟩, rfl⟩
  refine ⟨[], ?_⟩
  show DP _ _ _ _ _ _ _ _ [⟨nb1, cu8 (zr8 32), 76, (0, 0)⟩, ⟨nb2, cu8 (zr8 32), 76, (0, 0)⟩, ⟨rb, [errV 36 e, .slice (advA ao c 32) (n - 32) (c - 32)], 123, (0, 0)⟩, ⟨nb3, cu8 (mid z 0 32) ++ sp1, 5, (0, 0)⟩]
  refine DP_one ⟨[2], [0, 1], [1], [0], [3]⟩ 3 _ rfl rfl (by decide +kernel) rfl ⟨⟨_, rfl, Qok_val rfl (Ev_sliceA 32 5 1 0 32 0 32 Try.underlying76 Try.sizeOf5 rfl rfl rfl (by omega) (by omega) (by omega) (by omega) (by omega) 32 (by omega))⟩, trivial⟩ rfl (Cok_step rfl (Step_copy 38 38 5 1 nb2 0 32 32 (cu8 (zr8 32)) 76 (some ⟨nb3, 0, none⟩) 32 cp1 32 (cu8 (mid z 0 32)) (cu8 (mid z 0 32)) Try.underlying38 Try.size1_5 rfl rfl rfl rfl (by simp [hl2]; try omega) (SrcAt.mem (MemAt.ent 3 rfl (Seg.left (Seg.whole _)))) (by simp [(zr8_len 32)]; try omega) (by first | exact one_u8 | exact one_u32 | exact one_u64 | (simp [cu8, cu32, cu64, Value.oneCell']; done)) (lay_whole (by simp [(zr8_len 32), hl2])))) ?_
  rintro v1 L1 ⟨rfl, rfl⟩
  refine ⟨[], ?_⟩
  show DP _ _ _ _ _ _ _ _ [⟨nb1, cu8 (zr8 32), 76, (0, 0)⟩, ⟨nb2, cu8 (mid z 0 32), 76, (0, 0)⟩, ⟨rb, [errV 36 e, .slice (advA ao c 32) (n - 32) (c - 32)], 123, (0, 0)⟩, ⟨nb3, cu8 (mid z 0 32) ++ sp1, 5, (0, 0)⟩]
  refine DP_end ⟨[2, 3], [0, 1], [0, 1], [], []⟩ rfl rfl (by decide +kernel) rfl trivial ?_
  refine K_sub (F' := [(2, Ptr nb1 0), (3, Ptr nb2 0)]) (Sub.cons (by kernel_rfl) (Sub.cons (by kernel_rfl) (Sub.nil))) ?_
  show JQ _ _ _ [(2, Ptr nb1 0), (3, Ptr nb2 0)] _
  refine JQ_then ?_
  refine JC_seq ?_
  refine JC_region ?_
  refine JL_val (.agg (cu8 (mid z 0 32)).toArray) (Ev_load rfl (Ld_agg Try.isAgg76 Try.sizeOf76 (len_cu8 hl2) (MemAt.ent 1 rfl (Seg.whole _)))) rfl ?_
  refine JL_step (Step_store 0 nb1 0 32 (cu8 (zr8 32)) 76 (.agg (cu8 (mid z 0 32)).toArray) (cu8 (mid z 0 32)) (cu8 (mid z 0 32)) rfl rfl rfl (by first | rfl | simp) Try.sizeOf76 (len_cu8 hl2) (by first | exact one_u8 | exact one_u32 | exact one_u64 | (simp [cu8, cu32, cu64, Value.oneCell']; done)) (by simp [(zr8_len 32)]) (lay_whole (by simp [(zr8_len 32), hl2]))) rfl ?_
  rintro v1 L1 ⟨rfl, rfl⟩
  show JL _ _ _ _ _ [⟨nb1, cu8 (mid z 0 32), 76, (0, 0)⟩, ⟨nb2, cu8 (mid z 0 32), 76, (0, 0)⟩, ⟨rb, [errV 36 e, .slice (advA ao c 32) (n - 32) (c - 32)], 123, (0, 0)⟩, ⟨nb3, cu8 (mid z 0 32) ++ sp1, 5, (0, 0)⟩]
  refine JL_nil ?_
  refine JQ_then ?_
  refine JC_ret ?_
  refine K_mask [true, false, true, false] ?_
  show JQ _ _ _ _ [⟨nb1, cu8 (mid z 0 32), 76, (0, 0)⟩, ⟨rb, [errV 36 e, .slice (advA ao c 32) (n - 32) (c - 32)], 123, (0, 0)⟩]
  refine JQ_ret (.agg (cu8 (mid z 0 32)).toArray) (res1 Try.results60 (RV_cell rfl (Ld_agg Try.isAgg76 Try.sizeOf76 (len_cu8 hl2) (MemAt.ent 0 rfl (Seg.whole _))))) fun w1 hw1 => ?_
  exact ⟨_, _, rfl, ⟨by first | rfl | simp [spl], rfl⟩, hw1.sub (by simp) (by simp)⟩

theorem hasRNil_c  (w : World) : Calls Try.prog 60 #[.pointer none] w (Post w [] (fun v L => v = .agg (cu8 (zr8 32)).toArray ∧ L = [])) := by
  refine enter w [] 9 [] [.pointer none] Try.func60 rfl rfl (by simp) (Hp.start (by simp) (by simp) (by simp)) ?_
  show JC _ _ _ [(0, .pointer none)] _
  refine JC_seq ?_
  refine JC_region ?_
  refine JL_step (Step_alloc _ (cu8 (zr8 32)) Try.zeroValue76 (by kernel_rfl)) rfl ?_
  rintro v1 L1 ⟨nb1, hnb1, rfl, rfl⟩
  show JL _ _ _ _ ((2, Ptr nb1 0) :: _) [⟨nb1, cu8 (zr8 32), 76, (0, 0)⟩]
  refine JL_nil ?_
  refine JQ_then ?_
  refine JC_seq ?_
  refine JC_region ?_
  refine JL_step (Step_alloc _ (cu8 (zr8 32)) Try.zeroValue76 (by kernel_rfl)) rfl ?_
  rintro v1 L1 ⟨nb2, hnb2, rfl, rfl⟩
  show JL _ _ _ _ ((3, Ptr nb2 0) :: _) [⟨nb1, cu8 (zr8 32), 76, (0, 0)⟩, ⟨nb2, cu8 (zr8 32), 76, (0, 0)⟩]
  refine JL_nil ?_
  refine JQ_then ?_
  refine JC_seq ?_
  refine JC_draw 9 3 [(0, Slc nb2 0 32 32), (1, .pointer none)] Try.mixed rfl (by decide +kernel) ?_
  refine DP_one ⟨[], [0, 1], [], [0, 1], [2]⟩ 2 _ rfl rfl (by decide +kernel) rfl ⟨⟨_, rfl, Qok_val rfl (Ev_sliceA 32 5 1 0 32 0 32 Try.underlying76 Try.sizeOf5 rfl rfl rfl (by omega) (by omega) (by omega) (by omega) (by omega) 32 (by omega))⟩, ⟨_, rfl, Qok_val rfl (Ev_move rfl)⟩, trivial⟩ rfl (Cok_step rfl (Step_callP 58 [.pointer none, I64 (32:Int)] (.slice none 0 0) (Cl_func [.pointer none, I64 (32:Int)] Try.call58 rfl) (fun w1 hw1 => rawRNil_c (32:Int) w1))) ?_
  rintro v1 L1 ⟨rfl, rfl⟩
  refine ⟨[], ?_⟩
  show DP _ _ _ _ _ _ _ _ [⟨nb1, cu8 (zr8 32), 76, (0, 0)⟩, ⟨nb2, cu8 (zr8 32), 76, (0, 0)⟩]
  refine DP_one ⟨[2], [0, 1], [1], [0], [3]⟩ 3 _ rfl rfl (by decide +kernel) rfl ⟨⟨_, rfl, Qok_val rfl (Ev_sliceA 32 5 1 0 32 0 32 Try.underlying76 Try.sizeOf5 rfl rfl rfl (by omega) (by omega) (by omega) (by omega) (by omega) 32 (by omega))⟩, trivial⟩ rfl (Cok_step rfl (Step_copy 38 38 5 1 nb2 0 32 32 (cu8 (zr8 32)) 76 none 0 0 0 [] (cu8 (zr8 32)) Try.underlying38 Try.size1_5 rfl rfl rfl rfl rfl SrcAt.nil (by simp) one_nil (lay_nil _ _))) ?_
  rintro v1 L1 ⟨rfl, rfl⟩
  refine ⟨[], ?_⟩
  show DP _ _ _ _ _ _ _ _ [⟨nb1, cu8 (zr8 32), 76, (0, 0)⟩, ⟨nb2, cu8 (zr8 32), 76, (0, 0)⟩]
  refine DP_end ⟨[2, 3], [0, 1], [0, 1], [], []⟩ rfl rfl (by decide +kernel) rfl trivial ?_
  refine K_sub (F' := [(2, Ptr nb1 0), (3, Ptr nb2 0)]) (Sub.cons (by kernel_rfl) (Sub.cons (by kernel_rfl) (Sub.nil))) ?_
  show JQ _ _ _ [(2, Ptr nb1 0), (3, Ptr nb2 0)] _
  refine JQ_then ?_
  refine JC_seq ?_
  refine JC_region ?_
  refine JL_val (.agg (cu8 (zr8 32)).toArray) (Ev_load rfl (Ld_agg Try.isAgg76 Try.sizeOf76 (len_cu8 (zr8_len 32)) (MemAt.ent 1 rfl (Seg.whole _)))) rfl ?_
  refine JL_step (Step_store 0 nb1 0 32 (cu8 (zr8 32)) 76 (.agg (cu8 (zr8 32)).toArray) (cu8 (zr8 32)) (cu8 (zr8 32)) rfl rfl rfl (by first | rfl | simp) Try.sizeOf76 (len_cu8 (zr8_len 32)) (by first | exact one_u8 | exact one_u32 | exact one_u64 | (simp [cu8, cu32, cu64, Value.oneCell']; done)) (by simp [(zr8_len 32)]) (lay_whole (by simp [(zr8_len 32), (zr8_len 32)]))) rfl ?_
  rintro v1 L1 ⟨rfl, rfl⟩
  show JL _ _ _ _ _ [⟨nb1, cu8 (zr8 32), 76, (0, 0)⟩, ⟨nb2, cu8 (zr8 32), 76, (0, 0)⟩]
  refine JL_nil ?_
  refine JQ_then ?_
  refine JC_ret ?_
  refine JQ_ret (.agg (cu8 (zr8 32)).toArray) (res1 Try.results60 (RV_cell rfl (Ld_agg Try.isAgg76 Try.sizeOf76 (len_cu8 (zr8_len 32)) (MemAt.ent 0 rfl (Seg.whole _))))) fun w1 hw1 => ?_
  exact ⟨_, [], rfl, ⟨by first | rfl | simp [spl], rfl⟩, hw1.sub (by simp) (by simp)⟩

theorem flgRE_c (rb e : Nat) (sv : Value) (w : World) (h0 : w.heap[rb]? = some (.cells [errV 36 e, sv].toArray 123 (0, 0))) (he : e ≠ 0) : Calls Try.prog 62 #[Ptr rb 0] w (Post w [rb] (fun v L => v = .bool false ∧ L = [⟨rb, [errV 36 (erN e 2), sv], 123, (0, 0)⟩])) := by
  refine enter w [rb] 21 [⟨rb, [errV 36 e, sv], 123, (0, 0)⟩] [Ptr rb 0] Try.func62 rfl rfl (by simp) (Hp.start (by simpa using h0) (by simp) (by simp)) ?_
  show JC _ _ _ [(0, Ptr rb 0)] _
  refine JC_seq ?_
  refine JC_region ?_
  refine JL_val _ (Ev_assign rfl) rfl ?_
  refine JL_nil ?_
  refine JQ_then ?_
  refine JC_seq ?_
  refine JC_seq ?_
  refine JC_region ?_
  refine JL_val _ (Ev_move rfl) rfl ?_
  refine JL_step (Step_callP 64 [Ptr rb 0] (I64 (0:Int)) (Cl_func [Ptr rb 0] Try.call64 rfl) (fun w1 hw1 => leftE_c rb e sv w1 (RdA.of hw1 (MemAt.ent 0 rfl (Seg.whole _)) (by simp)) he)) rfl ?_
  rintro v1 L1 ⟨rfl, rfl⟩
  show JL _ _ _ _ ((4, I64 (0:Int)) :: _) [⟨rb, [errV 36 e, sv], 123, (0, 0)⟩]
  refine JL_val (.bool (decide ((0:Int) < (1:Int)))) (Ev_bini rfl rfl fun _ => bin_lss_i _ _) rfl ?_
  refine JL_val _ (Ev_move rfl) rfl ?_
  refine JL_gskip 3 6 false _ rfl rfl (by decide) rfl ?_
  refine JL_gskip 3 6 false _ rfl rfl (by decide) rfl ?_
  refine JL_gskip 3 6 false _ rfl rfl (by decide) rfl ?_
  refine JL_gskip 3 6 false _ rfl rfl (by decide) rfl ?_
  refine JL_gskip 3 6 false _ rfl rfl (by decide) rfl ?_
  refine JL_gskip 3 6 false _ rfl rfl (by decide) rfl ?_
  refine JL_gskip 3 6 false _ rfl rfl (by decide) rfl ?_
  refine JL_val _ (Ev_pickT _ rfl (by decide) rfl) rfl ?_
  refine JL_nil ?_
  refine JQ_then ?_
  refine JC_condT _ rfl rfl ?_
  refine JC_seq ?_
  refine JC_region ?_
  refine JL_val _ (Ev_move rfl) rfl ?_
  refine JL_val (.iface 36 (I64 (2:Int))) (Ev_iface Try.underlying36 rfl rfl) rfl ?_
  refine JL_step (Step_callW 63 [Ptr rb 0, .iface 36 (I64 (2:Int))] 0 ⟨rb, [errV 36 e, sv], 123, (0, 0)⟩ _ (fun v e' l' => v = .tuple #[] ∧ e' = ⟨rb, [errV 36 (erN e 2), sv], 123, (0, 0)⟩ ∧ l' = []) (Cl_func [Ptr rb 0, .iface 36 (I64 (2:Int))] Try.call63 rfl) rfl (by rintro v l ⟨rfl, rfl⟩; exact ⟨_, _, rfl, rfl, rfl, rfl, rfl⟩) (fun w1 hw1 => failRdi_c rb e 2 sv w1 (by decide) (hw1.ent _ (List.mem_of_getElem? (i := 0) rfl)))) rfl ?_
  rintro v1 L1 ⟨_, _, ⟨rfl, rfl, rfl⟩, rfl⟩
  show JL _ _ _ _ ((17, .tuple #[]) :: _) [⟨rb, [errV 36 (erN e 2), sv], 123, (0, 0)⟩]
  refine JL_nil ?_
  refine JQ_then ?_
  refine JC_seq ?_
  refine JC_region ?_
  refine JL_val _ (Ev_assign rfl) rfl ?_
  refine JL_nil ?_
  refine JQ_then ?_
  refine JC_ret ?_
  refine JQ_then_ret ?_
  refine JQ_ret (.bool false) (res1 Try.results62 (RV_tmp rfl)) fun w1 hw1 => ?_
  exact ⟨_, _, rfl, ⟨rfl, rfl⟩, hw1⟩

theorem flgRS_c (rb e : Nat) (ao : Option Addr) (n c : Nat) (w : World) (h0 : w.heap[rb]? = some (.cells [errV 36 e, .slice ao n c].toArray 123 (0, 0))) (he : e = 0) (hl : n = 0) : Calls Try.prog 62 #[Ptr rb 0] w (Post w [rb] (fun v L => v = .bool false ∧ L = [⟨rb, [errV 36 (erN e 2), .slice ao n c], 123, (0, 0)⟩])) := by
  refine enter w [rb] 21 [⟨rb, [errV 36 e, .slice ao n c], 123, (0, 0)⟩] [Ptr rb 0] Try.func62 rfl rfl (by simp) (Hp.start (by simpa using h0) (by simp) (by simp)) ?_
  show JC _ _ _ [(0, Ptr rb 0)] _
  refine JC_seq ?_
  refine JC_region ?_
  refine JL_val _ (Ev_assign rfl) rfl ?_
  refine JL_nil ?_
  refine JQ_then ?_
  refine JC_seq ?_
  refine JC_seq ?_
  refine JC_region ?_
  refine JL_val _ (Ev_move rfl) rfl ?_
  refine JL_step (Step_callP 64 [Ptr rb 0] (I64 ((n:Int))) (Cl_func [Ptr rb 0] Try.call64 rfl) (fun w1 hw1 => leftZ_c rb e ao n c w1 (RdA.of hw1 (MemAt.ent 0 rfl (Seg.whole _)) (by simp)) he)) rfl ?_
  rintro v1 L1 ⟨rfl, rfl⟩
  show JL _ _ _ _ ((4, I64 ((n:Int))) :: _) [⟨rb, [errV 36 e, .slice ao n c], 123, (0, 0)⟩]
  refine JL_val (.bool (decide (((n:Int)) < (1:Int)))) (Ev_bini rfl rfl fun _ => bin_lss_i _ _) rfl ?_
  refine JL_val _ (Ev_move rfl) rfl ?_
  refine JL_gskip 3 6 false _ rfl rfl (decide_eq_true (by omega)) rfl ?_
  refine JL_gskip 3 6 false _ rfl rfl (decide_eq_true (by omega)) rfl ?_
  refine JL_gskip 3 6 false _ rfl rfl (decide_eq_true (by omega)) rfl ?_
  refine JL_gskip 3 6 false _ rfl rfl (decide_eq_true (by omega)) rfl ?_
  refine JL_gskip 3 6 false _ rfl rfl (decide_eq_true (by omega)) rfl ?_
  refine JL_gskip 3 6 false _ rfl rfl (decide_eq_true (by omega)) rfl ?_
  refine JL_gskip 3 6 false _ rfl rfl (decide_eq_true (by omega)) rfl ?_
  refine JL_val _ (Ev_pickT _ rfl (decide_eq_true (by omega)) rfl) rfl ?_
  refine JL_nil ?_
  refine JQ_then ?_
  refine JC_condT _ rfl rfl ?_
  refine JC_seq ?_
  refine JC_region ?_
  refine JL_val _ (Ev_move rfl) rfl ?_
  refine JL_val (.iface 36 (I64 (2:Int))) (Ev_iface Try.underlying36 rfl rfl) rfl ?_
  refine JL_step (Step_callW 63 [Ptr rb 0, .iface 36 (I64 (2:Int))] 0 ⟨rb, [errV 36 e, .slice ao n c], 123, (0, 0)⟩ _ (fun v e' l' => v = .tuple #[] ∧ e' = ⟨rb, [errV 36 (erN e 2), .slice ao n c], 123, (0, 0)⟩ ∧ l' = []) (Cl_func [Ptr rb 0, .iface 36 (I64 (2:Int))] Try.call63 rfl) rfl (by rintro v l ⟨rfl, rfl⟩; exact ⟨_, _, rfl, rfl, rfl, rfl, rfl⟩) (fun w1 hw1 => failRdi_c rb e 2 (.slice ao n c) w1 (by decide) (hw1.ent _ (List.mem_of_getElem? (i := 0) rfl)))) rfl ?_
  rintro v1 L1 ⟨_, _, ⟨rfl, rfl, rfl⟩, rfl⟩
  show JL _ _ _ _ ((17, .tuple #[]) :: _) [⟨rb, [errV 36 (erN e 2), .slice ao n c], 123, (0, 0)⟩]
  refine JL_nil ?_
  refine JQ_then ?_
  refine JC_seq ?_
  refine JC_region ?_
  refine JL_val _ (Ev_assign rfl) rfl ?_
  refine JL_nil ?_
  refine JQ_then ?_
  refine JC_ret ?_
  refine JQ_then_ret ?_
  refine JQ_ret (.bool false) (res1 Try.results62 (RV_tmp rfl)) fun w1 hw1 => ?_
  exact ⟨_, _, rfl, ⟨rfl, rfl⟩, hw1⟩

theorem flgRB_c (rb e : Nat) (ao : Option Addr) (n c : Nat) (z : List UInt8)  (w : World) (h0 : w.heap[rb]? = some (.cells [errV 36 e, .slice ao n c].toArray 123 (0, 0))) (hz : z.length = n) (hn : n ≤ 2000000000) (hc : n ≤ c) (hcm : c ≤ maxLen) (hr : RdB w [rb] ao z) (he : e = 0) (hl : 1 ≤ n) (hb : (1:UInt8) < g8 z 0) : Calls Try.prog 62 #[Ptr rb 0] w (Post w [rb] (fun v L => v = .bool false ∧ L = [⟨rb, [errV 36 (erN e 2), .slice ao n c], 123, (0, 0)⟩])) := by
  refine enter w [rb] 21 [⟨rb, [errV 36 e, .slice ao n c], 123, (0, 0)⟩] [Ptr rb 0] Try.func62 rfl rfl (by simp) (Hp.start (by simpa using h0) (by simp) (by simp)) ?_
  show JC _ _ _ [(0, Ptr rb 0)] _
  refine JC_seq ?_
  refine JC_region ?_
  refine JL_val _ (Ev_assign rfl) rfl ?_
  refine JL_nil ?_
  refine JQ_then ?_
  refine JC_seq ?_
  refine JC_seq ?_
  refine JC_region ?_
  refine JL_val _ (Ev_move rfl) rfl ?_
  refine JL_step (Step_callP 64 [Ptr rb 0] (I64 ((n:Int))) (Cl_func [Ptr rb 0] Try.call64 rfl) (fun w1 hw1 => leftZ_c rb e ao n c w1 (RdA.of hw1 (MemAt.ent 0 rfl (Seg.whole _)) (by simp)) he)) rfl ?_
  rintro v1 L1 ⟨rfl, rfl⟩
  show JL _ _ _ _ ((4, I64 ((n:Int))) :: _) [⟨rb, [errV 36 e, .slice ao n c], 123, (0, 0)⟩]
  refine JL_val (.bool (decide (((n:Int)) < (1:Int)))) (Ev_bini rfl rfl fun _ => bin_lss_i _ _) rfl ?_
  refine JL_val _ (Ev_move rfl) rfl ?_
  refine JL_gval 3 6 false _ _ rfl rfl (decide_eq_false (by omega)) (Ev_move rfl) rfl ?_
  refine JL_gval 3 6 false _ _ rfl rfl (decide_eq_false (by omega)) (Ev_nilCheck rfl) rfl ?_
  refine JL_gval 3 6 false _ (Ptr rb 1) rfl rfl (decide_eq_false (by omega)) (Ev_fieldAddr 1 38 1 Try.underlying123 rfl Try.sizeOf38 rfl rfl) rfl ?_
  refine JL_gval 3 6 false _ (.slice ao n c) rfl rfl (decide_eq_false (by omega)) (Ev_load rfl (Ld_one Try.isAgg38 (MemAt.ent 0 rfl (Seg.tail (Seg.head))))) rfl ?_
  obtain ⟨bz1, oz1, hz1, hm1⟩ := hr.pos (by rw [hz]; omega)
  refine JL_gval 3 6 false _ (Ptr bz1 oz1) rfl rfl (decide_eq_false (by omega)) (Ev_indexSlG 5 1 oz1 Try.underlying38 Try.sizeOf5 rfl hz1 rfl (by omega) (by omega) (by omega)) rfl ?_
  refine JL_gval 3 6 false _ (U8 (g8 z 0)) rfl rfl (decide_eq_false (by omega)) (Ev_load rfl (Ld_one Try.isAgg5 (MemAt.seg (MemAt.base hm1.1 hm1.2.1 hm1.2.2) (Seg.get (g8_get (i := 0) (by rw [hz]; omega))) (by omega)))) rfl ?_
  refine JL_gval 3 6 false _ (.bool (decide ((1:UInt8) < (g8 z 0)))) rfl rfl (decide_eq_false (by omega)) (Ev_bini rfl rfl fun _ => bin_gtr_u8 (g8 z 0) (1:UInt8)) rfl ?_
  refine JL_val _ (Ev_pickF _ rfl (decide_eq_false (by omega)) rfl) rfl ?_
  refine JL_nil ?_
  refine JQ_then ?_
  refine JC_condT _ rfl (decide_eq_true hb) ?_
  refine JC_seq ?_
  refine JC_region ?_
  refine JL_val _ (Ev_move rfl) rfl ?_
  refine JL_val (.iface 36 (I64 (2:Int))) (Ev_iface Try.underlying36 rfl rfl) rfl ?_
  refine JL_step (Step_callW 63 [Ptr rb 0, .iface 36 (I64 (2:Int))] 0 ⟨rb, [errV 36 e, .slice ao n c], 123, (0, 0)⟩ _ (fun v e' l' => v = .tuple #[] ∧ e' = ⟨rb, [errV 36 (erN e 2), .slice ao n c], 123, (0, 0)⟩ ∧ l' = []) (Cl_func [Ptr rb 0, .iface 36 (I64 (2:Int))] Try.call63 rfl) rfl (by rintro v l ⟨rfl, rfl⟩; exact ⟨_, _, rfl, rfl, rfl, rfl, rfl⟩) (fun w1 hw1 => failRdi_c rb e 2 (.slice ao n c) w1 (by decide) (hw1.ent _ (List.mem_of_getElem? (i := 0) rfl)))) rfl ?_
  rintro v1 L1 ⟨_, _, ⟨rfl, rfl, rfl⟩, rfl⟩
  show JL _ _ _ _ ((17, .tuple #[]) :: _) [⟨rb, [errV 36 (erN e 2), .slice ao n c], 123, (0, 0)⟩]
  refine JL_nil ?_
  refine JQ_then ?_
  refine JC_seq ?_
  refine JC_region ?_
  refine JL_val _ (Ev_assign rfl) rfl ?_
  refine JL_nil ?_
  refine JQ_then ?_
  refine JC_ret ?_
  refine JQ_then_ret ?_
  refine JQ_ret (.bool false) (res1 Try.results62 (RV_tmp rfl)) fun w1 hw1 => ?_
  exact ⟨_, _, rfl, ⟨rfl, rfl⟩, hw1⟩

theorem flgROk_c (rb e : Nat) (ao : Option Addr) (n c : Nat) (z : List UInt8)  (w : World) (h0 : w.heap[rb]? = some (.cells [errV 36 e, .slice ao n c].toArray 123 (0, 0))) (hz : z.length = n) (hn : n ≤ 2000000000) (hc : n ≤ c) (hcm : c ≤ maxLen) (hr : RdB w [rb] ao z) (he : e = 0) (hl : 1 ≤ n) (hb : ¬ (1:UInt8) < g8 z 0) : Calls Try.prog 62 #[Ptr rb 0] w (Post w [rb] (fun v L => v = .bool (decide (g8 z 0 = 1)) ∧ L = [⟨rb, [errV 36 e, .slice (advA ao c 1) (n - 1) (c - 1)], 123, (0, 0)⟩])) := by
  refine enter w [rb] 21 [⟨rb, [errV 36 e, .slice ao n c], 123, (0, 0)⟩] [Ptr rb 0] Try.func62 rfl rfl (by simp) (Hp.start (by simpa using h0) (by simp) (by simp)) ?_
  show JC _ _ _ [(0, Ptr rb 0)] _
  refine JC_seq ?_
  refine JC_region ?_
  refine JL_val _ (Ev_assign rfl) rfl ?_
  refine JL_nil ?_
  refine JQ_then ?_
  refine JC_seq ?_
  refine JC_seq ?_
  refine JC_region ?_
  refine JL_val _ (Ev_move rfl) rfl ?_
  refine JL_step (Step_callP 64 [Ptr rb 0] (I64 ((n:Int))) (Cl_func [Ptr rb 0] Try.call64 rfl) (fun w1 hw1 => leftZ_c rb e ao n c w1 (RdA.of hw1 (MemAt.ent 0 rfl (Seg.whole _)) (by simp)) he)) rfl ?_
  rintro v1 L1 ⟨rfl, rfl⟩
  show JL _ _ _ _ ((4, I64 ((n:Int))) :: _) [⟨rb, [errV 36 e, .slice ao n c], 123, (0, 0)⟩]
  refine JL_val (.bool (decide (((n:Int)) < (1:Int)))) (Ev_bini rfl rfl fun _ => bin_lss_i _ _) rfl ?_
  refine JL_val _ (Ev_move rfl) rfl ?_
  refine JL_gval 3 6 false _ _ rfl rfl (decide_eq_false (by omega)) (Ev_move rfl) rfl ?_
  refine JL_gval 3 6 false _ _ rfl rfl (decide_eq_false (by omega)) (Ev_nilCheck rfl) rfl ?_
  refine JL_gval 3 6 false _ (Ptr rb 1) rfl rfl (decide_eq_false (by omega)) (Ev_fieldAddr 1 38 1 Try.underlying123 rfl Try.sizeOf38 rfl rfl) rfl ?_
  refine JL_gval 3 6 false _ (.slice ao n c) rfl rfl (decide_eq_false (by omega)) (Ev_load rfl (Ld_one Try.isAgg38 (MemAt.ent 0 rfl (Seg.tail (Seg.head))))) rfl ?_
  obtain ⟨bz1, oz1, hz1, hm1⟩ := hr.pos (by rw [hz]; omega)
  refine JL_gval 3 6 false _ (Ptr bz1 oz1) rfl rfl (decide_eq_false (by omega)) (Ev_indexSlG 5 1 oz1 Try.underlying38 Try.sizeOf5 rfl hz1 rfl (by omega) (by omega) (by omega)) rfl ?_
  refine JL_gval 3 6 false _ (U8 (g8 z 0)) rfl rfl (decide_eq_false (by omega)) (Ev_load rfl (Ld_one Try.isAgg5 (MemAt.seg (MemAt.base hm1.1 hm1.2.1 hm1.2.2) (Seg.get (g8_get (i := 0) (by rw [hz]; omega))) (by omega)))) rfl ?_
  refine JL_gval 3 6 false _ (.bool (decide ((1:UInt8) < (g8 z 0)))) rfl rfl (decide_eq_false (by omega)) (Ev_bini rfl rfl fun _ => bin_gtr_u8 (g8 z 0) (1:UInt8)) rfl ?_
  refine JL_val _ (Ev_pickF _ rfl (decide_eq_false (by omega)) rfl) rfl ?_
  refine JL_nil ?_
  refine JQ_then ?_
  refine JC_condF _ rfl (decide_eq_false hb) ?_
  refine JC_skip ?_
  refine JQ_then ?_
  refine JC_seq ?_
  refine JC_region ?_
  refine JL_val _ (Ev_move rfl) rfl ?_
  have hl1 : (z.drop 1).length = (n - 1) := by rw [List.length_drop, hz] <;> omega
  have hr1 := RdB.adv (c := c) hr 1 (by rw [hz]; omega) (by rw [hz]; omega)
  refine JL_step (Step_callW 54 [Ptr rb 0, I64 (1:Int)] 0 ⟨rb, [errV 36 e, .slice ao n c], 123, (0, 0)⟩ _ (fun v e' l' => v = U64 (valK z 1) ∧ e' = ⟨rb, [errV 36 e, .slice (advA ao c 1) (n - 1) (c - 1)], 123, (0, 0)⟩ ∧ l' = []) (Cl_func [Ptr rb 0, I64 (1:Int)] Try.call54 rfl) rfl (by rintro v l ⟨rfl, rfl⟩; exact ⟨_, _, rfl, rfl, rfl, rfl, rfl⟩) (fun w1 hw1 => numROk_c rb e ao n c z 1 (n - 1) (c - 1) w1 (hw1.ent _ (List.mem_of_getElem? (i := 0) rfl)) hz (by omega) (by omega) (by omega) (hr.at (M' := [rb]) hw1 (hw1.apart [0] _ rfl)) he (by unfold Szd; omega) (by omega) (by omega) (by omega))) rfl ?_
  rintro v1 L1 ⟨_, _, ⟨rfl, rfl, rfl⟩, rfl⟩
  show JL _ _ _ _ ((19, U64 (valK z 1)) :: _) [⟨rb, [errV 36 e, .slice (advA ao c 1) (n - 1) (c - 1)], 123, (0, 0)⟩]
  refine JL_val (.bool (decide ((valK z 1) = (1:UInt64)))) (Ev_bini rfl rfl fun _ => bin_eql_u64 (valK z 1) (1:UInt64)) rfl ?_
  refine JL_val _ (Ev_assign rfl) rfl ?_
  refine JL_nil ?_
  refine JQ_then ?_
  refine JC_ret ?_
  refine JQ_ret (.bool (decide ((valK z 1) = (1:UInt64)))) (res1 Try.results62 (RV_tmp rfl)) fun w1 hw1 => ?_
  exact ⟨_, _, rfl, ⟨congrArg Value.bool (decide_eq_decide.2 (Iff.of_eq (valK_flag z))), rfl⟩, hw1⟩

theorem flgRNil_c  (w : World) : Calls Try.prog 62 #[.pointer none] w (Post w [] (fun v L => v = .bool false ∧ L = [])) := by
  refine enter w [] 21 [] [.pointer none] Try.func62 rfl rfl (by simp) (Hp.start (by simp) (by simp) (by simp)) ?_
  show JC _ _ _ [(0, .pointer none)] _
  refine JC_seq ?_
  refine JC_region ?_
  refine JL_val _ (Ev_assign rfl) rfl ?_
  refine JL_nil ?_
  refine JQ_then ?_
  refine JC_seq ?_
  refine JC_seq ?_
  refine JC_region ?_
  refine JL_val _ (Ev_move rfl) rfl ?_
  refine JL_step (Step_callP 64 [.pointer none] (I64 (0:Int)) (Cl_func [.pointer none] Try.call64 rfl) (fun w1 hw1 => leftNil_c w1)) rfl ?_
  rintro v1 L1 ⟨rfl, rfl⟩
  show JL _ _ _ _ ((4, I64 (0:Int)) :: _) []
  refine JL_val (.bool (decide ((0:Int) < (1:Int)))) (Ev_bini rfl rfl fun _ => bin_lss_i _ _) rfl ?_
  refine JL_val _ (Ev_move rfl) rfl ?_
  refine JL_gskip 3 6 false _ rfl rfl (by decide) rfl ?_
  refine JL_gskip 3 6 false _ rfl rfl (by decide) rfl ?_
  refine JL_gskip 3 6 false _ rfl rfl (by decide) rfl ?_
  refine JL_gskip 3 6 false _ rfl rfl (by decide) rfl ?_
  refine JL_gskip 3 6 false _ rfl rfl (by decide) rfl ?_
  refine JL_gskip 3 6 false _ rfl rfl (by decide) rfl ?_
  refine JL_gskip 3 6 false _ rfl rfl (by decide) rfl ?_
  refine JL_val _ (Ev_pickT _ rfl (by decide) rfl) rfl ?_
  refine JL_nil ?_
  refine JQ_then ?_
  refine JC_condT _ rfl rfl ?_
  refine JC_seq ?_
  refine JC_region ?_
  refine JL_val _ (Ev_move rfl) rfl ?_
  refine JL_val (.iface 36 (I64 (2:Int))) (Ev_iface Try.underlying36 rfl rfl) rfl ?_
  refine JL_step (Step_callP 63 [.pointer none, .iface 36 (I64 (2:Int))] (.tuple #[]) (Cl_func [.pointer none, .iface 36 (I64 (2:Int))] Try.call63 rfl) (fun w1 hw1 => failRdNil_c (.iface 36 (I64 (2:Int))) w1)) rfl ?_
  rintro v1 L1 ⟨rfl, rfl⟩
  show JL _ _ _ _ ((17, .tuple #[]) :: _) []
  refine JL_nil ?_
  refine JQ_then ?_
  refine JC_seq ?_
  refine JC_region ?_
  refine JL_val _ (Ev_assign rfl) rfl ?_
  refine JL_nil ?_
  refine JQ_then ?_
  refine JC_ret ?_
  refine JQ_then_ret ?_
  refine JQ_ret (.bool false) (res1 Try.results62 (RV_tmp rfl)) fun w1 hw1 => ?_
  exact ⟨_, [], rfl, ⟨rfl, rfl⟩, hw1.sub (by simp) (by simp)⟩

theorem endE_c (rb e : Nat) (sv : Value) (w : World) (hw : RdA w rb 0 [errV 36 e, sv]) (he : e ≠ 0) : Calls Try.prog 66 #[Ptr rb 0] w (Post w [] (fun v L => v = errV 36 e ∧ L = [])) := by
  refine enter w [] 27 [] [Ptr rb 0] Try.func66 rfl rfl (by simp) (Hp.start (by simp) (by simp) (by simp)) ?_
  show JC _ _ _ [(0, Ptr rb 0)] _
  refine JC_seq ?_
  refine JC_region ?_
  refine JL_val _ (Ev_assign rfl) rfl ?_
  refine JL_nil ?_
  refine JQ_then ?_
  refine JC_seq ?_
  refine JC_block ?_
  refine JC_seq ?_
  refine JC_region ?_
  refine JL_val _ (Ev_move rfl) rfl ?_
  refine JL_val (.bool false) (Ev_bin _ _ _ rfl rfl (fun _ => eqGuard_ptr ..) fun _ => eql_ptr_nil Try.underlying83) rfl ?_
  refine JL_val _ (Ev_assign rfl) rfl ?_
  refine JL_nil ?_
  refine JQ_then ?_
  refine JC_condF _ rfl rfl ?_
  refine JC_seq ?_
  refine JC_region ?_
  refine JL_val _ (Ev_move rfl) rfl ?_
  refine JL_val _ (Ev_nilCheck rfl) rfl ?_
  refine JL_val (Ptr rb 0) (Ev_fieldAddr 0 64 1 Try.underlying123 rfl Try.sizeOf64 rfl rfl) rfl ?_
  refine JL_val (Ptr rb 0) (Ev_fieldAddr 0 30 1 Try.underlying64 rfl Try.sizeOf30 rfl rfl) rfl ?_
  refine JL_val (errV 36 e) (Ev_load rfl (Ld_one Try.isAgg30 (MemAt.seg (hw.mem (by simp)) (Seg.head) (by omega)))) rfl ?_
  refine JL_val (.bool (!(decide (e = 0)))) (Ev_bin _ _ _ rfl rfl (fun _ => eqGuard_errV ..) fun _ => neq_errV Try.underlying30 _ _) rfl ?_
  refine JL_val _ (Ev_assign rfl) rfl ?_
  refine JL_nil ?_
  refine JQ_then ?_
  refine JC_condT _ rfl (by rw [show (decide (e = 0)) = false from (decide_eq_false he)]; rfl) ?_
  refine JC_seq ?_
  refine JC_region ?_
  refine JL_val _ (Ev_move rfl) rfl ?_
  refine JL_val _ (Ev_nilCheck rfl) rfl ?_
  refine JL_val (Ptr rb 0) (Ev_fieldAddr 0 64 1 Try.underlying123 rfl Try.sizeOf64 rfl rfl) rfl ?_
  refine JL_val (Ptr rb 0) (Ev_fieldAddr 0 30 1 Try.underlying64 rfl Try.sizeOf30 rfl rfl) rfl ?_
  refine JL_val (errV 36 e) (Ev_load rfl (Ld_one Try.isAgg30 (MemAt.seg (hw.mem (by simp)) (Seg.head) (by omega)))) rfl ?_
  refine JL_val _ (Ev_assign rfl) rfl ?_
  refine JL_nil ?_
  refine JQ_then ?_
  refine JC_ret ?_
  refine JQ_in_ret ?_
  refine JQ_then_ret ?_
  refine JQ_ret (errV 36 e) (res1 Try.results66 (RV_tmp rfl)) fun w1 hw1 => ?_
  exact ⟨_, [], rfl, ⟨rfl, rfl⟩, hw1.sub (by simp) (by simp)⟩

theorem endZ_c (rb e : Nat) (ao : Option Addr) (n c : Nat) (w : World) (hw : RdA w rb 0 [errV 36 e, .slice ao n c]) (he : e = 0) (hn : n = 0) : Calls Try.prog 66 #[Ptr rb 0] w (Post w [] (fun v L => v = .nilIface ∧ L = [])) := by
  refine enter w [] 27 [] [Ptr rb 0] Try.func66 rfl rfl (by simp) (Hp.start (by simp) (by simp) (by simp)) ?_
  show JC _ _ _ [(0, Ptr rb 0)] _
  refine JC_seq ?_
  refine JC_region ?_
  refine JL_val _ (Ev_assign rfl) rfl ?_
  refine JL_nil ?_
  refine JQ_then ?_
  refine JC_seq ?_
  refine JC_block ?_
  refine JC_seq ?_
  refine JC_region ?_
  refine JL_val _ (Ev_move rfl) rfl ?_
  refine JL_val (.bool false) (Ev_bin _ _ _ rfl rfl (fun _ => eqGuard_ptr ..) fun _ => eql_ptr_nil Try.underlying83) rfl ?_
  refine JL_val _ (Ev_assign rfl) rfl ?_
  refine JL_nil ?_
  refine JQ_then ?_
  refine JC_condF _ rfl rfl ?_
  refine JC_seq ?_
  refine JC_region ?_
  refine JL_val _ (Ev_move rfl) rfl ?_
  refine JL_val _ (Ev_nilCheck rfl) rfl ?_
  refine JL_val (Ptr rb 0) (Ev_fieldAddr 0 64 1 Try.underlying123 rfl Try.sizeOf64 rfl rfl) rfl ?_
  refine JL_val (Ptr rb 0) (Ev_fieldAddr 0 30 1 Try.underlying64 rfl Try.sizeOf30 rfl rfl) rfl ?_
  refine JL_val (errV 36 e) (Ev_load rfl (Ld_one Try.isAgg30 (MemAt.seg (hw.mem (by simp)) (Seg.head) (by omega)))) rfl ?_
  refine JL_val (.bool (!(decide (e = 0)))) (Ev_bin _ _ _ rfl rfl (fun _ => eqGuard_errV ..) fun _ => neq_errV Try.underlying30 _ _) rfl ?_
  refine JL_val _ (Ev_assign rfl) rfl ?_
  refine JL_nil ?_
  refine JQ_then ?_
  refine JC_condF _ rfl (by rw [show (decide (e = 0)) = true from (decide_eq_true he)]; rfl) ?_
  refine JC_seq ?_
  refine JC_region ?_
  refine JL_val _ (Ev_move rfl) rfl ?_
  refine JL_val _ (Ev_nilCheck rfl) rfl ?_
  refine JL_val (Ptr rb 1) (Ev_fieldAddr 1 38 1 Try.underlying123 rfl Try.sizeOf38 rfl rfl) rfl ?_
  refine JL_val (.slice ao n c) (Ev_load rfl (Ld_one Try.isAgg38 (MemAt.seg (hw.mem (by simp)) (Seg.tail (Seg.head)) (by omega)))) rfl ?_
  refine JL_val (I64 ((n:Int))) (Ev_len Try.underlying38 rfl) rfl ?_
  refine JL_val (.bool (decide ((0:Int) < ((n:Int))))) (Ev_bini rfl rfl fun _ => bin_gtr_i _ _) rfl ?_
  refine JL_val _ (Ev_assign rfl) rfl ?_
  refine JL_nil ?_
  refine JQ_then ?_
  refine JC_condF _ rfl (decide_eq_false (by omega)) ?_
  refine JC_skip ?_
  refine JQ_in_normal ?_
  refine JQ_then ?_
  refine JC_seq ?_
  refine JC_region ?_
  refine JL_val _ (Ev_assign rfl) rfl ?_
  refine JL_nil ?_
  refine JQ_then ?_
  refine JC_ret ?_
  refine JQ_ret (.nilIface) (res1 Try.results66 (RV_tmp rfl)) fun w1 hw1 => ?_
  exact ⟨_, [], rfl, ⟨rfl, rfl⟩, hw1.sub (by simp) (by simp)⟩

theorem endB_c (rb e : Nat) (ao : Option Addr) (n c : Nat) (w : World) (hw : RdA w rb 0 [errV 36 e, .slice ao n c]) (he : e = 0) (hn : n ≠ 0) : Calls Try.prog 66 #[Ptr rb 0] w (Post w [] (fun v L => v = .iface 36 (I64 2) ∧ L = [])) := by
  refine enter w [] 27 [] [Ptr rb 0] Try.func66 rfl rfl (by simp) (Hp.start (by simp) (by simp) (by simp)) ?_
  show JC _ _ _ [(0, Ptr rb 0)] _
  refine JC_seq ?_
  refine JC_region ?_
  refine JL_val _ (Ev_assign rfl) rfl ?_
  refine JL_nil ?_
  refine JQ_then ?_
  refine JC_seq ?_
  refine JC_block ?_
  refine JC_seq ?_
  refine JC_region ?_
  refine JL_val _ (Ev_move rfl) rfl ?_
  refine JL_val (.bool false) (Ev_bin _ _ _ rfl rfl (fun _ => eqGuard_ptr ..) fun _ => eql_ptr_nil Try.underlying83) rfl ?_
  refine JL_val _ (Ev_assign rfl) rfl ?_
  refine JL_nil ?_
  refine JQ_then ?_
  refine JC_condF _ rfl rfl ?_
  refine JC_seq ?_
  refine JC_region ?_
  refine JL_val _ (Ev_move rfl) rfl ?_
  refine JL_val _ (Ev_nilCheck rfl) rfl ?_
  refine JL_val (Ptr rb 0) (Ev_fieldAddr 0 64 1 Try.underlying123 rfl Try.sizeOf64 rfl rfl) rfl ?_
  refine JL_val (Ptr rb 0) (Ev_fieldAddr 0 30 1 Try.underlying64 rfl Try.sizeOf30 rfl rfl) rfl ?_
  refine JL_val (errV 36 e) (Ev_load rfl (Ld_one Try.isAgg30 (MemAt.seg (hw.mem (by simp)) (Seg.head) (by omega)))) rfl ?_
  refine JL_val (.bool (!(decide (e = 0)))) (Ev_bin _ _ _ rfl rfl (fun _ => eqGuard_errV ..) fun _ => neq_errV Try.underlying30 _ _) rfl ?_
  refine JL_val _ (Ev_assign rfl) rfl ?_
  refine JL_nil ?_
  refine JQ_then ?_
  refine JC_condF _ rfl (by rw [show (decide (e = 0)) = true from (decide_eq_true he)]; rfl) ?_
  refine JC_seq ?_
  refine JC_region ?_
  refine JL_val _ (Ev_move rfl) rfl ?_
  refine JL_val _ (Ev_nilCheck rfl) rfl ?_
  refine JL_val (Ptr rb 1) (Ev_fieldAddr 1 38 1 Try.underlying123 rfl Try.sizeOf38 rfl rfl) rfl ?_
  refine JL_val (.slice ao n c) (Ev_load rfl (Ld_one Try.isAgg38 (MemAt.seg (hw.mem (by simp)) (Seg.tail (Seg.head)) (by omega)))) rfl ?_
  refine JL_val (I64 ((n:Int))) (Ev_len Try.underlying38 rfl) rfl ?_
  refine JL_val (.bool (decide ((0:Int) < ((n:Int))))) (Ev_bini rfl rfl fun _ => bin_gtr_i _ _) rfl ?_
  refine JL_val _ (Ev_assign rfl) rfl ?_
  refine JL_nil ?_
  refine JQ_then ?_
  refine JC_condT _ rfl (decide_eq_true (by omega)) ?_
  refine JC_seq ?_
  refine JC_region ?_
  refine JL_val (.iface 36 (I64 (2:Int))) (Ev_iface Try.underlying36 rfl rfl) rfl ?_
  refine JL_val _ (Ev_assign rfl) rfl ?_
  refine JL_nil ?_
  refine JQ_then ?_
  refine JC_ret ?_
  refine JQ_in_ret ?_
  refine JQ_then_ret ?_
  refine JQ_ret (.iface 36 (I64 (2:Int))) (res1 Try.results66 (RV_tmp rfl)) fun w1 hw1 => ?_
  exact ⟨_, [], rfl, ⟨rfl, rfl⟩, hw1.sub (by simp) (by simp)⟩

theorem endNil_c  (w : World) : Calls Try.prog 66 #[.pointer none] w (Post w [] (fun v L => v = .iface 36 (I64 11) ∧ L = [])) := by
  refine enter w [] 27 [] [.pointer none] Try.func66 rfl rfl (by simp) (Hp.start (by simp) (by simp) (by simp)) ?_
  show JC _ _ _ [(0, .pointer none)] _
  refine JC_seq ?_
  refine JC_region ?_
  refine JL_val _ (Ev_assign rfl) rfl ?_
  refine JL_nil ?_
  refine JQ_then ?_
  refine JC_seq ?_
  refine JC_block ?_
  refine JC_seq ?_
  refine JC_region ?_
  refine JL_val _ (Ev_move rfl) rfl ?_
  refine JL_val (.bool true) (Ev_bin _ _ _ rfl rfl (fun _ => eqGuard_ptr ..) fun _ => eql_ptr_nil_nil Try.underlying83) rfl ?_
  refine JL_val _ (Ev_assign rfl) rfl ?_
  refine JL_nil ?_
  refine JQ_then ?_
  refine JC_condT _ rfl rfl ?_
  refine JC_seq ?_
  refine JC_region ?_
  refine JL_val (.iface 36 (I64 (11:Int))) (Ev_iface Try.underlying36 rfl rfl) rfl ?_
  refine JL_val _ (Ev_assign rfl) rfl ?_
  refine JL_nil ?_
  refine JQ_then ?_
  refine JC_ret ?_
  refine JQ_in_ret ?_
  refine JQ_then_ret ?_
  refine JQ_ret (.iface 36 (I64 (11:Int))) (res1 Try.results66 (RV_tmp rfl)) fun w1 hw1 => ?_
  exact ⟨_, [], rfl, ⟨rfl, rfl⟩, hw1.sub (by simp) (by simp)⟩

theorem end_w (rb e : Nat) (ao : Option Addr) (n c : Nat) (w : World) (hw : RdA w rb 0 [errV 36 e, .slice ao n c]) : Calls Try.prog 66 #[Ptr rb 0] w (Post w [] (fun v L => v = errV 36 (endN e n) ∧ L = [])) := by
  by_cases he : e = 0
  · by_cases hn : n = 0
    · rw [endN, if_pos he, if_pos hn]; exact endZ_c rb e ao n c w hw he hn
    · rw [endN, if_pos he, if_neg hn]; exact endB_c rb e ao n c w hw he hn
  · rw [endN, if_neg he]; exact endE_c rb e _ w hw he

theorem from_c (ax : Option Addr) (p cx : Nat) (z : List UInt8) (w : World) (ha : ax.isNone = false) (hz : z.length = p) (hn : p ≤ 2000000000) (hr : RdB w [] ax z) : Calls Try.prog 52 #[.slice ax p cx] w (Post w [] (fun v L => ∃ rb g sp cap, v = Ptr rb 0 ∧ L = [⟨rb, [.nilIface, Slc g 0 p cap], 123, (0, 0)⟩, ⟨g, cu8 z ++ sp, 5, (0, 0)⟩] ∧ sp.length = cap - p ∧ p ≤ cap ∧ cap ≤ maxLen)) := by
  refine enter w [] 7 [] [.slice ax p cx] Try.func52 rfl rfl (by simp) (Hp.start (by simp) (by simp) (by simp)) ?_
  show JC _ _ _ [(0, .slice ax p cx)] _
  refine JC_seq ?_
  refine JC_region ?_
  refine JL_val _ (Ev_assign rfl) rfl ?_
  refine JL_nil ?_
  refine JQ_then ?_
  refine JC_seq ?_
  refine JC_region ?_
  refine JL_val _ (Ev_move rfl) rfl ?_
  refine JL_step (Step_callN 83 [.slice ax p cx] _ (Cl_func [.slice ax p cx] Try.call83 rfl) (fun w1 hw1 => sclone_c ax p cx z w1 ha hz (by omega) (hr.at (M' := []) hw1 (by simp)))) rfl ?_
  rintro v1 L1 ⟨_, ⟨nb1, sp1, cp1, rfl, rfl, hc1, hc2, hc3⟩, rfl⟩
  show JL _ _ _ _ ((4, Slc nb1 0 p cp1) :: _) [⟨nb1, cu8 z ++ sp1, 5, (0, 0)⟩]
  refine JL_val (.agg (List.toArray (α := Value) ([.nilIface, Slc nb1 0 p cp1]))) (Ev_build [(1, Slc nb1 0 p cp1)] _ rfl (fun _ => by kernel_rfl)) rfl ?_
  refine JL_step (Step_box (.agg (List.toArray (α := Value) ([.nilIface, Slc nb1 0 p cp1]))) ([.nilIface, Slc nb1 0 p cp1]) rfl (by first | rfl | simp)) rfl ?_
  rintro v1 L1 ⟨nb2, hnb2, rfl, rfl⟩
  show JL _ _ _ _ ((6, Ptr nb2 0) :: _) [⟨nb1, cu8 z ++ sp1, 5, (0, 0)⟩, ⟨nb2, [.nilIface, Slc nb1 0 p cp1], 123, (0, 0)⟩]
  refine JL_val _ (Ev_assign rfl) rfl ?_
  refine JL_nil ?_
  refine JQ_then ?_
  refine JC_ret ?_
  refine JQ_ret (Ptr nb2 0) (res1 Try.results52 (RV_tmp rfl)) fun w1 hw1 => ?_
  exact ⟨_, _, rfl, ⟨nb2, nb1, sp1, cp1, rfl, rfl, hc1, hc2, hc3⟩, hw1.sub (by simp) (by simpa using hw1.ne (i := 1) (j := 0) rfl rfl (by decide))⟩

theorem fromNil_c  (w : World) : Calls Try.prog 52 #[.slice none 0 0] w (Post w [] (fun v L => ∃ rb, v = Ptr rb 0 ∧ L = [⟨rb, [.nilIface, .slice none 0 0], 123, (0, 0)⟩])) := by
  refine enter w [] 7 [] [.slice none 0 0] Try.func52 rfl rfl (by simp) (Hp.start (by simp) (by simp) (by simp)) ?_
  show JC _ _ _ [(0, .slice none 0 0)] _
  refine JC_seq ?_
  refine JC_region ?_
  refine JL_val _ (Ev_assign rfl) rfl ?_
  refine JL_nil ?_
  refine JQ_then ?_
  refine JC_seq ?_
  refine JC_region ?_
  refine JL_val _ (Ev_move rfl) rfl ?_
  refine JL_step (Step_callP 83 [.slice none 0 0] (.slice none 0 0) (Cl_func [.slice none 0 0] Try.call83 rfl) (fun w1 hw1 => scloneNil_c w1)) rfl ?_
  rintro v1 L1 ⟨rfl, rfl⟩
  show JL _ _ _ _ ((4, .slice none 0 0) :: _) []
  refine JL_val (.agg (List.toArray (α := Value) ([.nilIface, .slice none 0 0]))) (Ev_build [(1, .slice none 0 0)] _ rfl (fun _ => by kernel_rfl)) rfl ?_
  refine JL_step (Step_box (.agg (List.toArray (α := Value) ([.nilIface, .slice none 0 0]))) ([.nilIface, .slice none 0 0]) rfl (by first | rfl | simp)) rfl ?_
  rintro v1 L1 ⟨nb1, hnb1, rfl, rfl⟩
  show JL _ _ _ _ ((6, Ptr nb1 0) :: _) [⟨nb1, [.nilIface, .slice none 0 0], 123, (0, 0)⟩]
  refine JL_val _ (Ev_assign rfl) rfl ?_
  refine JL_nil ?_
  refine JQ_then ?_
  refine JC_ret ?_
  refine JQ_ret (Ptr nb1 0) (res1 Try.results52 (RV_tmp rfl)) fun w1 hw1 => ?_
  exact ⟨_, _, rfl, ⟨nb1, rfl, rfl⟩, hw1.sub (by simp) (by simp)⟩

end Go.Proofs.Ytncoifiafklkjaa
