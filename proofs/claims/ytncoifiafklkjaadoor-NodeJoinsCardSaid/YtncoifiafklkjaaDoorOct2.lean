import Derived.Test.YtncoifiafklkjaaDoorOct1
import Derived.Test.YtncoifiafklkjaaDoorSha5
namespace Go.Proofs.YtncoifiafklkjaaDoor
open Go Go.Sx
set_option linter.unusedVariables false
set_option linter.unusedSimpArgs false
set_option maxRecDepth 100000
attribute [local irreducible] mid zr8 zr32 zr64 numK rnK ftN valK rvalK
theorem hashN_c (wb tot : Nat) (ev : Value) (h : List UInt8) (w : World) (h0 : w.heap[wb]? = some (.cells [ev, .slice none 0 0].toArray 138 (0, 0))) (hh : h.length = 32) (ht : 32 = tot) : Calls Tryd.prog 111 #[Ptr wb 0, .agg (cu8 h).toArray] w (Post w [wb] (fun v L => v = Ptr wb 0 ∧ ∃ g sp cap, L = [⟨wb, [ev, Slc g 0 tot cap], 138, (0, 0)⟩, ⟨g, cu8 (h) ++ sp, 5, (0, 0)⟩] ∧ sp.length = cap - tot ∧ tot ≤ cap ∧ cap ≤ maxLen)) := by
  have hmx : maxLen = 9223372036854775807 := rfl
  refine enter w [wb] 8 [⟨wb, [ev, .slice none 0 0], 138, (0, 0)⟩] [Ptr wb 0, .agg (cu8 h).toArray] Tryd.func111 rfl rfl (by simp) (Hp.start (by simpa using h0) (by simp) (by simp)) ?_
  show JC _ _ _ [(0, Ptr wb 0), (1, .agg (cu8 h).toArray)] _
  refine JC_seq ?_
  refine JC_region ?_
  refine JL_step (Step_box (.agg (cu8 h).toArray) (cu8 h) rfl (by first | rfl | simp)) rfl ?_
  rintro v1 L1 ⟨nb1, hnb1, rfl, rfl⟩
  show JL _ _ _ _ ((3, Ptr nb1 0) :: _) [⟨wb, [ev, .slice none 0 0], 138, (0, 0)⟩, ⟨nb1, cu8 h, 25, (0, 0)⟩]
  refine JL_val _ (Ev_assign rfl) rfl ?_
  refine JL_nil ?_
  refine JQ_then ?_
  refine JC_seq ?_
  refine JC_region ?_
  refine JL_val _ (Ev_move rfl) rfl ?_
  refine JL_val (Slc nb1 0 32 32) (Ev_sliceA 32 5 1 0 32 0 32 Tryd.underlying25 Tryd.sizeOf5 rfl rfl rfl (by omega) (by omega) (by omega) (by omega) (by omega) 32 (by omega)) rfl ?_
  refine JL_step (Step_call 106 _ [true, false] [wb] _ (Cl_func [Ptr wb 0, Slc nb1 0 32 32] Tryd.call106 rfl) rfl (fun w1 hw1 => rawN_c wb 32 ev (some ⟨nb1, 0, none⟩) 32 32 h w1 (hw1.ent _ (List.mem_of_getElem? (i := 0) rfl)) hh (by omega) (RdB.of hw1 (MemAt.ent 1 rfl (Seg.whole _)) (by intro _; simp only [List.mem_cons, List.not_mem_nil, or_false]; exact hw1.ne (i := 1) (j := 0) rfl rfl (by decide))) (by omega) (by omega))) rfl ?_
  rintro v1 L1 ⟨_, ⟨rfl, nb2, sp1, cp1, rfl, hc1, hc2, hc3⟩, rfl⟩
  show JL _ _ _ _ ((7, Ptr wb 0) :: _) [⟨nb1, cu8 h, 25, (0, 0)⟩, ⟨wb, [ev, Slc nb2 0 32 cp1], 138, (0, 0)⟩, ⟨nb2, cu8 h ++ sp1, 5, (0, 0)⟩]
  refine JL_val _ (Ev_assign rfl) rfl ?_
  refine JL_nil ?_
  refine JQ_then ?_
  refine JC_ret ?_
  refine K_mask [false, true, true] ?_
  show JQ _ _ _ _ [⟨wb, [ev, Slc nb2 0 32 cp1], 138, (0, 0)⟩, ⟨nb2, cu8 h ++ sp1, 5, (0, 0)⟩]
  refine JQ_ret (Ptr wb 0) (res1 Tryd.results111 (RV_tmp rfl)) fun w1 hw1 => ?_
  obtain rfl : tot = 32 := by omega
  exact ⟨_, _, rfl, ⟨rfl, nb2, sp1, cp1, rfl, hc1, hc2, hc3⟩, hw1⟩

theorem hashO_c (wb gb n cap0 tot : Nat) (ev : Value) (o : List UInt8) (sp0 : List Value) (h : List UInt8) (w : World) (h0 : w.heap[wb]? = some (.cells [ev, Slc gb 0 n cap0].toArray 138 (0, 0))) (h1 : w.heap[gb]? = some (.cells (cu8 o ++ sp0).toArray 5 (0, 0))) (hne : wb ≠ gb) (ho : o.length = n) (hsp : sp0.length = cap0 - n) (hca : n ≤ cap0) (hcm : cap0 ≤ maxLen) (hn : n ≤ 1000000000) (hh : h.length = 32) (ht : n + 32 = tot) : Calls Tryd.prog 111 #[Ptr wb 0, .agg (cu8 h).toArray] w (Post w [wb, gb] (fun v L => v = Ptr wb 0 ∧ ∃ g sp cap, L = [⟨wb, [ev, Slc g 0 tot cap], 138, (0, 0)⟩, ⟨g, cu8 (o ++ h) ++ sp, 5, (0, 0)⟩] ∧ sp.length = cap - tot ∧ tot ≤ cap ∧ cap ≤ maxLen)) := by
  have hmx : maxLen = 9223372036854775807 := rfl
  refine enter w [wb, gb] 8 [⟨wb, [ev, Slc gb 0 n cap0], 138, (0, 0)⟩, ⟨gb, cu8 o ++ sp0, 5, (0, 0)⟩] [Ptr wb 0, .agg (cu8 h).toArray] Tryd.func111 rfl rfl (by simp) (Hp.start (by simp; exact ⟨h0, h1⟩) (by simp; exact hne) (by simp)) ?_
  show JC _ _ _ [(0, Ptr wb 0), (1, .agg (cu8 h).toArray)] _
  refine JC_seq ?_
  refine JC_region ?_
  refine JL_step (Step_box (.agg (cu8 h).toArray) (cu8 h) rfl (by first | rfl | simp)) rfl ?_
  rintro v1 L1 ⟨nb1, hnb1, rfl, rfl⟩
  show JL _ _ _ _ ((3, Ptr nb1 0) :: _) [⟨wb, [ev, Slc gb 0 n cap0], 138, (0, 0)⟩, ⟨gb, cu8 o ++ sp0, 5, (0, 0)⟩, ⟨nb1, cu8 h, 25, (0, 0)⟩]
  refine JL_val _ (Ev_assign rfl) rfl ?_
  refine JL_nil ?_
  refine JQ_then ?_
  refine JC_seq ?_
  refine JC_region ?_
  refine JL_val _ (Ev_move rfl) rfl ?_
  refine JL_val (Slc nb1 0 32 32) (Ev_sliceA 32 5 1 0 32 0 32 Tryd.underlying25 Tryd.sizeOf5 rfl rfl rfl (by omega) (by omega) (by omega) (by omega) (by omega) 32 (by omega)) rfl ?_
  refine JL_step (Step_call 106 _ [true, true, false] [wb, gb] _ (Cl_func [Ptr wb 0, Slc nb1 0 32 32] Tryd.call106 rfl) rfl (fun w1 hw1 => rawO_c wb gb n cap0 (n + 32) ev o sp0 (some ⟨nb1, 0, none⟩) 32 32 h w1 (hw1.ent _ (List.mem_of_getElem? (i := 0) rfl)) (hw1.ent _ (List.mem_of_getElem? (i := 1) rfl)) (hw1.ne (i := 0) (j := 1) rfl rfl (by decide)) ho hsp hca hcm (by omega) hh (by omega) (RdB.of hw1 (MemAt.ent 2 rfl (Seg.whole _)) (by intro _; simp only [List.mem_cons, List.not_mem_nil, or_false, not_or]; exact ⟨hw1.ne (i := 2) (j := 0) rfl rfl (by decide), hw1.ne (i := 2) (j := 1) rfl rfl (by decide)⟩)) (by omega))) rfl ?_
  rintro v1 L1 ⟨_, ⟨rfl, nb2, sp1, cp1, rfl, hc1, hc2, hc3⟩, rfl⟩
  show JL _ _ _ _ ((7, Ptr wb 0) :: _) [⟨nb1, cu8 h, 25, (0, 0)⟩, ⟨wb, [ev, Slc nb2 0 (n + 32) cp1], 138, (0, 0)⟩, ⟨nb2, cu8 (o ++ h) ++ sp1, 5, (0, 0)⟩]
  refine JL_val _ (Ev_assign rfl) rfl ?_
  refine JL_nil ?_
  refine JQ_then ?_
  refine JC_ret ?_
  refine K_mask [false, true, true] ?_
  show JQ _ _ _ _ [⟨wb, [ev, Slc nb2 0 (n + 32) cp1], 138, (0, 0)⟩, ⟨nb2, cu8 (o ++ h) ++ sp1, 5, (0, 0)⟩]
  refine JQ_ret (Ptr wb 0) (res1 Tryd.results111 (RV_tmp rfl)) fun w1 hw1 => ?_
  obtain rfl : tot = (n + 32) := by omega
  exact ⟨_, _, rfl, ⟨rfl, nb2, sp1, cp1, rfl, hc1, hc2, hc3⟩, hw1⟩

theorem hashWNil_c (h : List UInt8) (w : World) (hh : h.length = 32) : Calls Tryd.prog 111 #[.pointer none, .agg (cu8 h).toArray] w (Post w [] (fun v L => v = .pointer none ∧ L = [])) := by
  refine enter w [] 8 [] [.pointer none, .agg (cu8 h).toArray] Tryd.func111 rfl rfl (by simp) (Hp.start (by simp) (by simp) (by simp)) ?_
  show JC _ _ _ [(0, .pointer none), (1, .agg (cu8 h).toArray)] _
  refine JC_seq ?_
  refine JC_region ?_
  refine JL_step (Step_box (.agg (cu8 h).toArray) (cu8 h) rfl (by first | rfl | simp)) rfl ?_
  rintro v1 L1 ⟨nb1, hnb1, rfl, rfl⟩
  show JL _ _ _ _ ((3, Ptr nb1 0) :: _) [⟨nb1, cu8 h, 25, (0, 0)⟩]
  refine JL_val _ (Ev_assign rfl) rfl ?_
  refine JL_nil ?_
  refine JQ_then ?_
  refine JC_seq ?_
  refine JC_region ?_
  refine JL_val _ (Ev_move rfl) rfl ?_
  refine JL_val (Slc nb1 0 32 32) (Ev_sliceA 32 5 1 0 32 0 32 Tryd.underlying25 Tryd.sizeOf5 rfl rfl rfl (by omega) (by omega) (by omega) (by omega) (by omega) 32 (by omega)) rfl ?_
  refine JL_step (Step_callP 106 [.pointer none, Slc nb1 0 32 32] (.pointer none) (Cl_func [.pointer none, Slc nb1 0 32 32] Tryd.call106 rfl) (fun w1 _ => rawNil_c (Slc nb1 0 32 32) w1)) rfl ?_
  rintro v1 L1 ⟨rfl, rfl⟩
  show JL _ _ _ _ ((7, .pointer none) :: _) [⟨nb1, cu8 h, 25, (0, 0)⟩]
  refine JL_val _ (Ev_assign rfl) rfl ?_
  refine JL_nil ?_
  refine JQ_then ?_
  refine JC_ret ?_
  refine JQ_ret (.pointer none) (res1 Tryd.results111 (RV_tmp rfl)) fun w1 hw1 => ?_
  exact ⟨_, [], rfl, ⟨rfl, rfl⟩, hw1.sub (by simp) (by simp)⟩

theorem doneN_c (wb e : Nat) (w : World) (hw : RdA w wb 0 [errV 43 e, .slice none 0 0]) (he : e = 0) : Calls Tryd.prog 98 #[Ptr wb 0] w (Post w [] (fun v L => v = .tuple #[.slice none 0 0, .nilIface] ∧ L = [])) := by
  refine enter w [] 25 [] [Ptr wb 0] Tryd.func98 rfl rfl (by simp) (Hp.start (by simp) (by simp) (by simp)) ?_
  show JC _ _ _ [(0, Ptr wb 0)] _
  refine JC_seq ?_
  refine JC_region ?_
  refine JL_val _ (Ev_assign rfl) rfl ?_
  refine JL_val _ (Ev_assign rfl) rfl ?_
  refine JL_nil ?_
  refine JQ_then ?_
  refine JC_seq ?_
  refine JC_block ?_
  refine JC_seq ?_
  refine JC_region ?_
  refine JL_val _ (Ev_move rfl) rfl ?_
  refine JL_val (.bool false) (Ev_bin _ _ _ rfl rfl (fun _ => eqGuard_ptr ..) fun _ => eql_ptr_nil Tryd.underlying134) rfl ?_
  refine JL_val _ (Ev_assign rfl) rfl ?_
  refine JL_nil ?_
  refine JQ_then ?_
  refine JC_condF _ rfl rfl ?_
  refine JC_seq ?_
  refine JC_region ?_
  refine JL_val _ (Ev_move rfl) rfl ?_
  refine JL_val _ (Ev_nilCheck rfl) rfl ?_
  refine JL_val (Ptr wb 0) (Ev_fieldAddr 0 136 1 Tryd.underlying138 rfl Tryd.sizeOf136 rfl rfl) rfl ?_
  refine JL_val (Ptr wb 0) (Ev_fieldAddr 0 39 1 Tryd.underlying136 rfl Tryd.sizeOf39 rfl rfl) rfl ?_
  refine JL_val (errV 43 e) (Ev_load rfl (Ld_one Tryd.isAgg39 (MemAt.seg (hw.mem (by simp)) (Seg.head) (by omega)))) rfl ?_
  refine JL_val (.bool (!(decide (e = 0)))) (Ev_bin _ _ _ rfl rfl (fun _ => eqGuard_errV ..) fun _ => neq_errV Tryd.underlying39 _ _) rfl ?_
  refine JL_val _ (Ev_assign rfl) rfl ?_
  refine JL_nil ?_
  refine JQ_then ?_
  refine JC_condF _ rfl (by rw [show (decide (e = 0)) = true from (decide_eq_true he)]; rfl) ?_
  refine JC_skip ?_
  refine JQ_in_normal ?_
  refine JQ_then ?_
  refine JC_seq ?_
  refine JC_region ?_
  refine JL_val _ (Ev_move rfl) rfl ?_
  refine JL_val _ (Ev_nilCheck rfl) rfl ?_
  refine JL_val (Ptr wb 1) (Ev_fieldAddr 1 22 1 Tryd.underlying138 rfl Tryd.sizeOf22 rfl rfl) rfl ?_
  refine JL_val (.slice none 0 0) (Ev_load rfl (Ld_one Tryd.isAgg22 (MemAt.seg (hw.mem (by simp)) (Seg.tail (Seg.head)) (by omega)))) rfl ?_
  refine JL_step (Step_callP 84 [.slice none 0 0] (.slice none 0 0) (Cl_func [.slice none 0 0] Tryd.call84 rfl) (fun w1 hw1 => scloneNil_c w1)) rfl ?_
  rintro v1 L1 ⟨rfl, rfl⟩
  show JL _ _ _ _ ((24, .slice none 0 0) :: _) []
  refine JL_val _ (Ev_assign rfl) rfl ?_
  refine JL_val _ (Ev_assign rfl) rfl ?_
  refine JL_nil ?_
  refine JQ_then ?_
  refine JC_ret ?_
  refine JQ_ret (.tuple #[.slice none 0 0, .nilIface]) (res2 Tryd.results98 (RV_tmp rfl) (RV_tmp rfl)) fun w1 hw1 => ?_
  exact ⟨_, [], rfl, ⟨rfl, rfl⟩, hw1.sub (by simp) (by simp)⟩

theorem doneE_c (wb e : Nat) (sv : Value) (w : World) (hw : RdA w wb 0 [errV 43 e, sv]) (he : e ≠ 0) : Calls Tryd.prog 98 #[Ptr wb 0] w (Post w [] (fun v L => v = .tuple #[.slice none 0 0, errV 43 e] ∧ L = [])) := by
  refine enter w [] 25 [] [Ptr wb 0] Tryd.func98 rfl rfl (by simp) (Hp.start (by simp) (by simp) (by simp)) ?_
  show JC _ _ _ [(0, Ptr wb 0)] _
  refine JC_seq ?_
  refine JC_region ?_
  refine JL_val _ (Ev_assign rfl) rfl ?_
  refine JL_val _ (Ev_assign rfl) rfl ?_
  refine JL_nil ?_
  refine JQ_then ?_
  refine JC_seq ?_
  refine JC_block ?_
  refine JC_seq ?_
  refine JC_region ?_
  refine JL_val _ (Ev_move rfl) rfl ?_
  refine JL_val (.bool false) (Ev_bin _ _ _ rfl rfl (fun _ => eqGuard_ptr ..) fun _ => eql_ptr_nil Tryd.underlying134) rfl ?_
  refine JL_val _ (Ev_assign rfl) rfl ?_
  refine JL_nil ?_
  refine JQ_then ?_
  refine JC_condF _ rfl rfl ?_
  refine JC_seq ?_
  refine JC_region ?_
  refine JL_val _ (Ev_move rfl) rfl ?_
  refine JL_val _ (Ev_nilCheck rfl) rfl ?_
  refine JL_val (Ptr wb 0) (Ev_fieldAddr 0 136 1 Tryd.underlying138 rfl Tryd.sizeOf136 rfl rfl) rfl ?_
  refine JL_val (Ptr wb 0) (Ev_fieldAddr 0 39 1 Tryd.underlying136 rfl Tryd.sizeOf39 rfl rfl) rfl ?_
  refine JL_val (errV 43 e) (Ev_load rfl (Ld_one Tryd.isAgg39 (MemAt.seg (hw.mem (by simp)) (Seg.head) (by omega)))) rfl ?_
  refine JL_val (.bool (!(decide (e = 0)))) (Ev_bin _ _ _ rfl rfl (fun _ => eqGuard_errV ..) fun _ => neq_errV Tryd.underlying39 _ _) rfl ?_
  refine JL_val _ (Ev_assign rfl) rfl ?_
  refine JL_nil ?_
  refine JQ_then ?_
  refine JC_condT _ rfl (by rw [show (decide (e = 0)) = false from (decide_eq_false he)]; rfl) ?_
  refine JC_seq ?_
  refine JC_draw 25 1 [(0, Ptr wb 0), (1, Ptr wb 0), (2, Ptr wb 0), (3, Ptr wb 0), (4, errV 43 e), (5, .slice none 0 0), (6, errV 43 e)] Tryd.mixed rfl (by decide +kernel) ?_
  refine DP_end ⟨[], [0, 1, 2, 3, 4, 5, 6], [], [0, 1, 2, 3, 4, 5, 6], []⟩ rfl rfl (by decide +kernel) rfl ⟨⟨_, rfl, Qok_val rfl (Ev_move rfl)⟩, ⟨_, rfl, Qok_val rfl (Ev_nilCheck rfl)⟩, ⟨_, rfl, Qok_val rfl (Ev_fieldAddr 0 136 1 Tryd.underlying138 rfl Tryd.sizeOf136 rfl rfl)⟩, ⟨_, rfl, Qok_val rfl (Ev_fieldAddr 0 39 1 Tryd.underlying136 rfl Tryd.sizeOf39 rfl rfl)⟩, ⟨_, rfl, Qok_val rfl (Ev_load rfl (Ld_one Tryd.isAgg39 (MemAt.seg (hw.mem (by simp)) (Seg.head) (by omega))))⟩, ⟨_, rfl, Qok_val rfl (Ev_assign rfl)⟩, ⟨_, rfl, Qok_val rfl (Ev_assign rfl)⟩, trivial⟩ ?_
  refine K_sub (F' := [(2, .slice none 0 0), (3, errV 43 e), (0, Ptr wb 0)]) (Sub.cons (by kernel_rfl) (Sub.cons (by kernel_rfl) (Sub.cons (by kernel_rfl) (Sub.nil)))) ?_
  show JQ _ _ _ [(2, .slice none 0 0), (3, errV 43 e), (0, Ptr wb 0)] _
  refine JQ_then ?_
  refine JC_ret ?_
  refine JQ_in_ret ?_
  refine JQ_then_ret ?_
  refine JQ_ret (.tuple #[.slice none 0 0, errV 43 e]) (res2 Tryd.results98 (RV_tmp rfl) (RV_tmp rfl)) fun w1 hw1 => ?_
  exact ⟨_, [], rfl, ⟨rfl, rfl⟩, hw1.sub (by simp) (by simp)⟩

theorem doneO_c (wb e gb n cap0 : Nat) (o : List UInt8) (w : World) (hw : RdA w wb 0 [errV 43 e, Slc gb 0 n cap0]) (he : e = 0) (ho : o.length = n) (hn : n ≤ 2000000000) (hr : RdB w [] (some ⟨gb, 0, none⟩) o) : Calls Tryd.prog 98 #[Ptr wb 0] w (Post w [] (fun v L => ∃ g sp cap, v = .tuple #[Slc g 0 n cap, .nilIface] ∧ L = [⟨g, cu8 o ++ sp, 5, (0, 0)⟩] ∧ sp.length = cap - n ∧ n ≤ cap ∧ cap ≤ maxLen)) := by
  refine enter w [] 25 [] [Ptr wb 0] Tryd.func98 rfl rfl (by simp) (Hp.start (by simp) (by simp) (by simp)) ?_
  show JC _ _ _ [(0, Ptr wb 0)] _
  refine JC_seq ?_
  refine JC_region ?_
  refine JL_val _ (Ev_assign rfl) rfl ?_
  refine JL_val _ (Ev_assign rfl) rfl ?_
  refine JL_nil ?_
  refine JQ_then ?_
  refine JC_seq ?_
  refine JC_block ?_
  refine JC_seq ?_
  refine JC_region ?_
  refine JL_val _ (Ev_move rfl) rfl ?_
  refine JL_val (.bool false) (Ev_bin _ _ _ rfl rfl (fun _ => eqGuard_ptr ..) fun _ => eql_ptr_nil Tryd.underlying134) rfl ?_
  refine JL_val _ (Ev_assign rfl) rfl ?_
  refine JL_nil ?_
  refine JQ_then ?_
  refine JC_condF _ rfl rfl ?_
  refine JC_seq ?_
  refine JC_region ?_
  refine JL_val _ (Ev_move rfl) rfl ?_
  refine JL_val _ (Ev_nilCheck rfl) rfl ?_
  refine JL_val (Ptr wb 0) (Ev_fieldAddr 0 136 1 Tryd.underlying138 rfl Tryd.sizeOf136 rfl rfl) rfl ?_
  refine JL_val (Ptr wb 0) (Ev_fieldAddr 0 39 1 Tryd.underlying136 rfl Tryd.sizeOf39 rfl rfl) rfl ?_
  refine JL_val (errV 43 e) (Ev_load rfl (Ld_one Tryd.isAgg39 (MemAt.seg (hw.mem (by simp)) (Seg.head) (by omega)))) rfl ?_
  refine JL_val (.bool (!(decide (e = 0)))) (Ev_bin _ _ _ rfl rfl (fun _ => eqGuard_errV ..) fun _ => neq_errV Tryd.underlying39 _ _) rfl ?_
  refine JL_val _ (Ev_assign rfl) rfl ?_
  refine JL_nil ?_
  refine JQ_then ?_
  refine JC_condF _ rfl (by rw [show (decide (e = 0)) = true from (decide_eq_true he)]; rfl) ?_
  refine JC_skip ?_
  refine JQ_in_normal ?_
  refine JQ_then ?_
  refine JC_seq ?_
  refine JC_region ?_
  refine JL_val _ (Ev_move rfl) rfl ?_
  refine JL_val _ (Ev_nilCheck rfl) rfl ?_
  refine JL_val (Ptr wb 1) (Ev_fieldAddr 1 22 1 Tryd.underlying138 rfl Tryd.sizeOf22 rfl rfl) rfl ?_
  refine JL_val (.slice (some ⟨gb, 0, none⟩) n cap0) (Ev_load rfl (Ld_one Tryd.isAgg22 (MemAt.seg (hw.mem (by simp)) (Seg.tail (Seg.head)) (by omega)))) rfl ?_
  refine JL_step (Step_callN 84 [.slice (some ⟨gb, 0, none⟩) n cap0] _ (Cl_func [.slice (some ⟨gb, 0, none⟩) n cap0] Tryd.call84 rfl) (fun w1 hw1 => sclone_c (some ⟨gb, 0, none⟩) n cap0 o w1 rfl ho (by omega) (hr.at (M' := []) hw1 (by simp)))) rfl ?_
  rintro v1 L1 ⟨_, ⟨nb1, sp1, cp1, rfl, rfl, hc1, hc2, hc3⟩, rfl⟩
  show JL _ _ _ _ ((24, Slc nb1 0 n cp1) :: _) [⟨nb1, cu8 o ++ sp1, 5, (0, 0)⟩]
  refine JL_val _ (Ev_assign rfl) rfl ?_
  refine JL_val _ (Ev_assign rfl) rfl ?_
  refine JL_nil ?_
  refine JQ_then ?_
  refine JC_ret ?_
  refine JQ_ret (.tuple #[Slc nb1 0 n cp1, .nilIface]) (res2 Tryd.results98 (RV_tmp rfl) (RV_tmp rfl)) fun w1 hw1 => ?_
  exact ⟨_, _, rfl, ⟨nb1, sp1, cp1, rfl, rfl, hc1, hc2, hc3⟩, hw1.sub (by simp) (by simp)⟩

theorem doneNil_c  (w : World) : Calls Tryd.prog 98 #[.pointer none] w (Post w [] (fun v L => v = .tuple #[.slice none 0 0, .iface 43 (I64 11)] ∧ L = [])) := by
  refine enter w [] 25 [] [.pointer none] Tryd.func98 rfl rfl (by simp) (Hp.start (by simp) (by simp) (by simp)) ?_
  show JC _ _ _ [(0, .pointer none)] _
  refine JC_seq ?_
  refine JC_region ?_
  refine JL_val _ (Ev_assign rfl) rfl ?_
  refine JL_val _ (Ev_assign rfl) rfl ?_
  refine JL_nil ?_
  refine JQ_then ?_
  refine JC_seq ?_
  refine JC_block ?_
  refine JC_seq ?_
  refine JC_region ?_
  refine JL_val _ (Ev_move rfl) rfl ?_
  refine JL_val (.bool true) (Ev_bin _ _ _ rfl rfl (fun _ => eqGuard_ptr ..) fun _ => eql_ptr_nil_nil Tryd.underlying134) rfl ?_
  refine JL_val _ (Ev_assign rfl) rfl ?_
  refine JL_nil ?_
  refine JQ_then ?_
  refine JC_condT _ rfl rfl ?_
  refine JC_seq ?_
  refine JC_region ?_
  refine JL_val (.iface 43 (I64 (11:Int))) (Ev_iface Tryd.underlying43 rfl rfl) rfl ?_
  refine JL_val _ (Ev_assign rfl) rfl ?_
  refine JL_val _ (Ev_assign rfl) rfl ?_
  refine JL_nil ?_
  refine JQ_then ?_
  refine JC_ret ?_
  refine JQ_in_ret ?_
  refine JQ_then_ret ?_
  refine JQ_ret (.tuple #[.slice none 0 0, .iface 43 (I64 (11:Int))]) (res2 Tryd.results98 (RV_tmp rfl) (RV_tmp rfl)) fun w1 hw1 => ?_
  exact ⟨_, [], rfl, ⟨rfl, rfl⟩, hw1.sub (by simp) (by simp)⟩

theorem errNo_c  (w : World) : Calls Tryd.prog 64 #[.nilIface] w (Post w [] (fun v L => v = I64 0 ∧ L = [])) := by
  refine enter w [] 18 [] [.nilIface] Tryd.func64 rfl rfl (by simp) (Hp.start (by simp) (by simp) (by simp)) ?_
  show JC _ _ _ [(0, .nilIface)] _
  refine JC_seq ?_
  refine JC_region ?_
  refine JL_val _ (Ev_assign rfl) rfl ?_
  refine JL_nil ?_
  refine JQ_then ?_
  refine JC_seq ?_
  refine JC_seq ?_
  refine JC_region ?_
  refine JL_val _ (Ev_move rfl) rfl ?_
  refine JL_val (.bool true) (Ev_bin _ _ _ rfl rfl (fun _ => eqGuard_nn ..) fun _ => eql_if_nil_nil Tryd.underlying39) rfl ?_
  refine JL_nil ?_
  refine JQ_then ?_
  refine JC_condT _ rfl rfl ?_
  refine JC_seq ?_
  refine JC_region ?_
  refine JL_val _ (Ev_assign rfl) rfl ?_
  refine JL_nil ?_
  refine JQ_then ?_
  refine JC_ret ?_
  refine JQ_then_ret ?_
  refine JQ_ret (I64 (0:Int)) (res1 Tryd.results64 (RV_tmp rfl)) fun w1 hw1 => ?_
  exact ⟨_, [], rfl, ⟨rfl, rfl⟩, hw1.sub (by simp) (by simp)⟩

theorem errSome_c (e : Nat) (w : World) (he : e ≠ 0) : Calls Tryd.prog 64 #[.iface 43 (I64 ((e:Int)))] w (Post w [] (fun v L => v = I64 (e : Int) ∧ L = [])) := by
  refine enter w [] 18 [] [.iface 43 (I64 ((e:Int)))] Tryd.func64 rfl rfl (by simp) (Hp.start (by simp) (by simp) (by simp)) ?_
  show JC _ _ _ [(0, .iface 43 (I64 ((e:Int))))] _
  refine JC_seq ?_
  refine JC_region ?_
  refine JL_val _ (Ev_assign rfl) rfl ?_
  refine JL_nil ?_
  refine JQ_then ?_
  refine JC_seq ?_
  refine JC_seq ?_
  refine JC_region ?_
  refine JL_val _ (Ev_move rfl) rfl ?_
  refine JL_val (.bool false) (Ev_bin _ _ _ rfl rfl (fun _ => eqGuard_if ..) fun _ => eql_if_nil Tryd.underlying39) rfl ?_
  refine JL_nil ?_
  refine JQ_then ?_
  refine JC_condF _ rfl rfl ?_
  refine JC_skip ?_
  refine JQ_then ?_
  refine JC_seq ?_
  refine JC_seq ?_
  refine JC_region ?_
  refine JL_val _ (Ev_move rfl) rfl ?_
  refine JL_val (.tuple #[I64 ((e:Int)), .bool true]) (Ev_assert _ _ rfl (fun _ => by kernel_rfl)) rfl ?_
  refine JL_val _ (Ev_move rfl) rfl ?_
  refine JL_val _ (Ev_extract rfl rfl) rfl ?_
  refine JL_val _ (Ev_extract rfl rfl) rfl ?_
  refine JL_val _ (Ev_assign rfl) rfl ?_
  refine JL_val _ (Ev_assign rfl) rfl ?_
  refine JL_nil ?_
  refine JQ_then ?_
  refine JC_seq ?_
  refine JC_region ?_
  refine JL_val _ (Ev_move rfl) rfl ?_
  refine JL_val _ (Ev_move rfl) rfl ?_
  refine JL_gval 1 13 true _ _ rfl rfl rfl (Ev_move rfl) rfl ?_
  refine JL_gval 1 13 true _ (.bool (decide (((e:Int)) ≠ (0:Int)))) rfl rfl rfl (Ev_bini rfl rfl fun _ => bin_neq_i _ _) rfl ?_
  refine JL_val _ (Ev_pickT _ rfl rfl rfl) rfl ?_
  refine JL_nil ?_
  refine JQ_then ?_
  refine JC_condT _ rfl (decide_eq_true (by omega)) ?_
  refine JC_seq ?_
  refine JC_region ?_
  refine JL_val _ (Ev_move rfl) rfl ?_
  refine JL_val _ (Ev_assign rfl) rfl ?_
  refine JL_nil ?_
  refine JQ_then ?_
  refine JC_ret ?_
  refine JQ_then_ret ?_
  refine JQ_ret (I64 ((e:Int))) (res1 Tryd.results64 (RV_tmp rfl)) fun w1 hw1 => ?_
  exact ⟨_, [], rfl, ⟨rfl, rfl⟩, hw1.sub (by simp) (by simp)⟩

theorem errNum_w (e : Nat) (w : World) : Calls Tryd.prog 64 #[errV 43 e] w (Post w [] (fun v L => v = I64 (e : Int) ∧ L = [])) := by
  by_cases he : e = 0
  · subst he; exact errNo_c w
  · rw [errV_pos he]; exact errSome_c e w he

theorem is_c (e k : Nat) (w : World) : Calls Tryd.prog 33 #[errV 43 e, I64 ((k:Int))] w (Post w [] (fun v L => v = .bool (decide ((e:Int) = (k:Int))) ∧ L = [])) := by
  refine enter w [] 9 [] [errV 43 e, I64 ((k:Int))] Tryd.func33 rfl rfl (by simp) (Hp.start (by simp) (by simp) (by simp)) ?_
  show JC _ _ _ [(0, errV 43 e), (1, I64 ((k:Int)))] _
  refine JC_seq ?_
  refine JC_region ?_
  refine JL_val _ (Ev_assign rfl) rfl ?_
  refine JL_nil ?_
  refine JQ_then ?_
  refine JC_seq ?_
  refine JC_region ?_
  refine JL_val _ (Ev_move rfl) rfl ?_
  refine JL_step (Step_callP 64 [errV 43 e] (I64 ((e:Int))) (Cl_func [errV 43 e] Tryd.call64 rfl) (fun w1 hw1 => errNum_w e w1)) rfl ?_
  rintro v1 L1 ⟨rfl, rfl⟩
  show JL _ _ _ _ ((6, I64 ((e:Int))) :: _) []
  refine JL_val _ (Ev_move rfl) rfl ?_
  refine JL_val (.bool (decide (((e:Int)) = ((k:Int))))) (Ev_bini rfl rfl fun _ => bin_eql_i _ _) rfl ?_
  refine JL_val _ (Ev_assign rfl) rfl ?_
  refine JL_nil ?_
  refine JQ_then ?_
  refine JC_ret ?_
  refine JQ_ret (.bool (decide (((e:Int)) = ((k:Int))))) (res1 Tryd.results33 (RV_tmp rfl)) fun w1 hw1 => ?_
  exact ⟨_, [], rfl, ⟨rfl, rfl⟩, hw1.sub (by simp) (by simp)⟩

end Go.Proofs.YtncoifiafklkjaaDoor
