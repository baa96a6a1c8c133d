import Derived.Test.YtncoifiafklkjaaOct5
namespace Go.Proofs.Ytncoifiafklkjaa
open Go Go.Sx
set_option linter.unusedVariables false
set_option linter.unusedSimpArgs false
set_option maxRecDepth 100000
attribute [local irreducible] mid zr8 zr32 zr64 numK rnK ftN valK rvalK
theorem alive1_c  (w : World) : Calls Try.prog 38 #[] w (Post w [] (fun v L => v = .bool true ∧ L = [])) := by
  have hmx : maxLen = 9223372036854775807 := rfl
  refine enter w [] 41 [] [] Try.func38 rfl rfl (by simp) (Hp.start (by simp) (by simp) (by simp)) ?_
  show JC _ _ _ [] _
  refine JC_seq ?_
  refine JC_region ?_
  refine JL_val _ (Ev_assign rfl) rfl ?_
  refine JL_nil ?_
  refine JQ_then ?_
  refine JC_seq ?_
  refine JC_region ?_
  refine JL_val (.agg (List.toArray (α := Value) ([.nilIface, .slice none 0 0]))) (Ev_build [] _ rfl (fun _ => by kernel_rfl)) rfl ?_
  refine JL_step (Step_box (.agg (List.toArray (α := Value) ([.nilIface, .slice none 0 0]))) ([.nilIface, .slice none 0 0]) rfl (by first | rfl | simp)) rfl ?_
  rintro v1 L1 ⟨nb1, hnb1, rfl, rfl⟩
  show JL _ _ _ _ ((6, Ptr nb1 0) :: _) [⟨nb1, [.nilIface, .slice none 0 0], 66, (0, 0)⟩]
  refine JL_val _ (Ev_assign rfl) rfl ?_
  refine JL_nil ?_
  refine JQ_then ?_
  refine JC_seq ?_
  refine JC_region ?_
  refine JL_val _ (Ev_move rfl) rfl ?_
  refine JL_step (Step_call 40 _ [true] [nb1] _ (Cl_func [Ptr nb1 0, U64 (258:UInt64), I64 (2:Int)] Try.call40 rfl) rfl (fun w1 hw1 => numN_c nb1 2 .nilIface (258:UInt64) 2 w1 (hw1.ent _ (List.mem_of_getElem? (i := 0) rfl)) (by unfold Szd; omega) (fun _ => by decide) (by omega))) rfl ?_
  rintro v1 L1 ⟨_, ⟨rfl, nb2, sp1, cp1, rfl, hc1, hc2, hc3⟩, rfl⟩
  show JL _ _ _ _ ((9, Ptr nb1 0) :: _) [⟨nb1, [.nilIface, Slc nb2 0 2 cp1], 66, (0, 0)⟩, ⟨nb2, cu8 (numK 2 (258:UInt64) 2) ++ sp1, 5, (0, 0)⟩]
  refine JL_step (Step_call 48 _ [true, true] [nb1, nb2] _ (Cl_func [Ptr nb1 0, .bool true] Try.call48 rfl) rfl (fun w1 hw1 => flagO_c nb1 nb2 2 cp1 3 .nilIface (numK 2 (258:UInt64) 2) sp1 true w1 (hw1.ent _ (List.mem_of_getElem? (i := 0) rfl)) (hw1.ent _ (List.mem_of_getElem? (i := 1) rfl)) (hw1.ne (i := 0) (j := 1) rfl rfl (by decide)) (show (numK 2 (258:UInt64) 2).length = 2 from (numK_len _ _ _)) hc1 hc2 hc3 (by omega) (by omega))) rfl ?_
  rintro v1 L1 ⟨_, ⟨rfl, nb3, sp2, cp2, rfl, hc4, hc5, hc6⟩, rfl⟩
  show JL _ _ _ _ ((10, Ptr nb1 0) :: _) [⟨nb1, [.nilIface, Slc nb3 0 3 cp2], 66, (0, 0)⟩, ⟨nb3, cu8 ((numK 2 (258:UInt64) 2) ++ numK 1 (bitU true) 1) ++ sp2, 5, (0, 0)⟩]
  refine JL_step (Step_callN 50 [Ptr nb1 0] _ (Cl_func [Ptr nb1 0] Try.call50 rfl) (fun w1 hw1 => doneO_c nb1 0 nb3 3 cp2 ((numK 2 (258:UInt64) 2) ++ numK 1 (bitU true) 1) w1 (RdA.of hw1 (MemAt.ent 0 rfl (Seg.whole _)) (by simp)) rfl (show ((numK 2 (258:UInt64) 2) ++ numK 1 (bitU true) 1).length = 3 from (by rw [List.length_append, (show (numK 2 (258:UInt64) 2).length = 2 from (numK_len _ _ _)), numK_len] <;> omega)) (by omega) (RdB.of hw1 (MemAt.ent 1 rfl (Seg.left (Seg.whole _))) (by simp)))) rfl ?_
  rintro v1 L1 ⟨_, ⟨nb4, sp3, cp3, rfl, rfl, hc7, hc8, hc9⟩, rfl⟩
  show JL _ _ _ _ ((11, .tuple #[Slc nb4 0 3 cp3, .nilIface]) :: _) [⟨nb1, [.nilIface, Slc nb3 0 3 cp2], 66, (0, 0)⟩, ⟨nb3, cu8 ((numK 2 (258:UInt64) 2) ++ numK 1 (bitU true) 1) ++ sp2, 5, (0, 0)⟩, ⟨nb4, cu8 ((numK 2 (258:UInt64) 2) ++ numK 1 (bitU true) 1) ++ sp3, 5, (0, 0)⟩]
  refine JL_val _ (Ev_move rfl) rfl ?_
  refine JL_val _ (Ev_extract rfl rfl) rfl ?_
  refine JL_val _ (Ev_extract rfl rfl) rfl ?_
  refine JL_val _ (Ev_assign rfl) rfl ?_
  refine JL_val _ (Ev_assign rfl) rfl ?_
  refine JL_nil ?_
  refine JQ_then ?_
  refine JC_seq ?_
  refine JC_region ?_
  refine JL_step (Step_buildSlice 5 1 _ [(0, U8 (1:UInt8)), (1, U8 (2:UInt8)), (2, U8 (1:UInt8))] (cu8 ([(1:UInt8), (2:UInt8), (1:UInt8)])) Try.underlying38 Try.sizeOf5 Try.zeroValue5 rfl rfl rfl (by kernel_rfl)) rfl ?_
  rintro v1 L1 ⟨nb5, hnb5, rfl, rfl⟩
  show JL _ _ _ _ ((14, Slc nb5 0 3 3) :: _) [⟨nb1, [.nilIface, Slc nb3 0 3 cp2], 66, (0, 0)⟩, ⟨nb3, cu8 ((numK 2 (258:UInt64) 2) ++ numK 1 (bitU true) 1) ++ sp2, 5, (0, 0)⟩, ⟨nb4, cu8 ((numK 2 (258:UInt64) 2) ++ numK 1 (bitU true) 1) ++ sp3, 5, (0, 0)⟩, ⟨nb5, cu8 ([(1:UInt8), (2:UInt8), (1:UInt8)]), 5, (0, 0)⟩]
  refine JL_step (Step_callN 52 [Slc nb5 0 3 3] _ (Cl_func [Slc nb5 0 3 3] Try.call52 rfl) (fun w1 hw1 => from_c (some ⟨nb5, 0, none⟩) 3 3 ([(1:UInt8), (2:UInt8), (1:UInt8)]) w1 rfl rfl (by omega) (RdB.of hw1 (MemAt.ent 3 rfl (Seg.whole _)) (by simp)))) rfl ?_
  rintro v1 L1 ⟨_, ⟨nb6, nb7, sp4, cp4, rfl, rfl, hc10, hc11, hc12⟩, rfl⟩
  show JL _ _ _ _ ((15, Ptr nb6 0) :: _) [⟨nb1, [.nilIface, Slc nb3 0 3 cp2], 66, (0, 0)⟩, ⟨nb3, cu8 ((numK 2 (258:UInt64) 2) ++ numK 1 (bitU true) 1) ++ sp2, 5, (0, 0)⟩, ⟨nb4, cu8 ((numK 2 (258:UInt64) 2) ++ numK 1 (bitU true) 1) ++ sp3, 5, (0, 0)⟩, ⟨nb5, cu8 ([(1:UInt8), (2:UInt8), (1:UInt8)]), 5, (0, 0)⟩, ⟨nb6, [.nilIface, Slc nb7 0 3 cp4], 123, (0, 0)⟩, ⟨nb7, cu8 ([(1:UInt8), (2:UInt8), (1:UInt8)]) ++ sp4, 5, (0, 0)⟩]
  refine JL_val _ (Ev_assign rfl) rfl ?_
  refine JL_nil ?_
  refine JQ_then ?_
  refine JC_seq ?_
  refine JC_region ?_
  refine JL_val _ (Ev_move rfl) rfl ?_
  refine JL_val (.bool true) (Ev_bin _ _ _ rfl rfl (fun _ => eqGuard_nn ..) fun _ => eql_if_nil_nil Try.underlying30) rfl ?_
  refine JL_val _ (Ev_move rfl) rfl ?_
  refine JL_gval 2 18 true _ _ rfl rfl rfl (Ev_move rfl) rfl ?_
  refine JL_gval 2 18 true _ (.string (⟨((numK 2 (258:UInt64) 2) ++ numK 1 (bitU true) 1).toArray⟩ : ByteArray)) rfl rfl rfl (Ev_toStr 5 (some ⟨nb4, 0, none⟩) 3 cp3 ((numK 2 (258:UInt64) 2) ++ numK 1 (bitU true) 1) Try.underlying38 Try.underlying5 Try.underlying9 rfl (by simp [(show ((numK 2 (258:UInt64) 2) ++ numK 1 (bitU true) 1).length = 3 from (show ((numK 2 (258:UInt64) 2) ++ numK 1 (bitU true) 1).length = 3 from (by rw [List.length_append, (show (numK 2 (258:UInt64) 2).length = 2 from (numK_len _ _ _)), numK_len] <;> omega)))]; try omega) (SrcAt.mem (MemAt.ent 2 rfl (Seg.left (Seg.whole _))))) rfl ?_
  refine JL_gval 2 18 true _ (.bool (decide (((numK 2 (258:UInt64) 2) ++ numK 1 (bitU true) 1) = ([1, 2, 1] : List UInt8)))) rfl rfl rfl (Ev_bin _ _ _ rfl rfl (fun _ => eqGuard_str ..) fun _ => eql_str) rfl ?_
  refine JL_val _ (Ev_pickT _ rfl rfl rfl) rfl ?_
  refine JL_val _ (Ev_move rfl) rfl ?_
  refine JL_gval 7 23 true _ _ rfl rfl (by decide +kernel) (Ev_move rfl) rfl ?_
  refine JL_gval 7 23 true _ (.bool true) rfl rfl (by decide +kernel) (Ev_bin _ _ _ rfl rfl (fun _ => eqGuard_ptr ..) fun _ => neq_ptr_nil Try.underlying83) rfl ?_
  refine JL_val _ (Ev_pickT _ rfl (by decide +kernel) rfl) rfl ?_
  refine JL_val _ (Ev_move rfl) rfl ?_
  refine JL_gval 11 27 true _ _ rfl rfl rfl (Ev_move rfl) rfl ?_
  have hz1 : ([(1:UInt8), (2:UInt8), (1:UInt8)]).length = 3 := rfl
  refine JL_gstep 11 27 true _ rfl rfl rfl (Step_call 54 _ [false, false, false, false, true, false] [nb6] _ (Cl_func [Ptr nb6 0, I64 (2:Int)] Try.call54 rfl) rfl (fun w1 hw1 => numR_w nb6 0 (some ⟨nb7, 0, none⟩) 3 cp4 ([(1:UInt8), (2:UInt8), (1:UInt8)]) (2:Int) w1 (hw1.ent _ (List.mem_of_getElem? (i := 4) rfl)) rfl (by omega) (by omega) (by omega) (RdB.of hw1 (MemAt.ent 5 rfl (Seg.left (Seg.whole _))) (by intro _; simp only [List.mem_cons, List.not_mem_nil, or_false, not_or]; exact hw1.ne (i := 5) (j := 4) rfl rfl (by decide))))) rfl ?_
  rintro v1 L1 ⟨_, ⟨rfl, ao1, ca1, ⟨hA1, hb1, hb2, hb3⟩, rfl⟩, rfl⟩
  show JL _ _ _ _ ((29, U64 (nuV ([(1:UInt8), (2:UInt8), (1:UInt8)]) 0 (2:Int))) :: _) [⟨nb1, [.nilIface, Slc nb3 0 3 cp2], 66, (0, 0)⟩, ⟨nb3, cu8 ((numK 2 (258:UInt64) 2) ++ numK 1 (bitU true) 1) ++ sp2, 5, (0, 0)⟩, ⟨nb4, cu8 ((numK 2 (258:UInt64) 2) ++ numK 1 (bitU true) 1) ++ sp3, 5, (0, 0)⟩, ⟨nb5, cu8 ([(1:UInt8), (2:UInt8), (1:UInt8)]), 5, (0, 0)⟩, ⟨nb7, cu8 ([(1:UInt8), (2:UInt8), (1:UInt8)]) ++ sp4, 5, (0, 0)⟩, ⟨nb6, [errV 36 (okE 0 (decide (NuOk ([(1:UInt8), (2:UInt8), (1:UInt8)]) 0 (2:Int)))), .slice ao1 ((nuZ ([(1:UInt8), (2:UInt8), (1:UInt8)]) 0 (2:Int)).length) ca1], 123, (0, 0)⟩]
  refine JL_gval 11 27 true _ (.bool (decide ((nuV ([(1:UInt8), (2:UInt8), (1:UInt8)]) 0 (2:Int)) = (258:UInt64)))) rfl rfl rfl (Ev_bini rfl rfl fun _ => bin_eql_u64 (nuV ([(1:UInt8), (2:UInt8), (1:UInt8)]) 0 (2:Int)) (258:UInt64)) rfl ?_
  refine JL_val _ (Ev_pickT _ rfl rfl rfl) rfl ?_
  refine JL_val _ (Ev_move rfl) rfl ?_
  refine JL_gval 16 32 true _ _ rfl rfl (by decide +kernel) (Ev_move rfl) rfl ?_
  have hz2 : (nuZ ([(1:UInt8), (2:UInt8), (1:UInt8)]) 0 (2:Int)).length = ((nuZ ([(1:UInt8), (2:UInt8), (1:UInt8)]) 0 (2:Int)).length) := rfl
  refine JL_gstep 16 32 true _ rfl rfl (by decide +kernel) (Step_call 62 _ [false, false, false, false, false, true] [nb6] _ (Cl_func [Ptr nb6 0] Try.call62 rfl) rfl (fun w1 hw1 => flgR_w nb6 (okE 0 (decide (NuOk ([(1:UInt8), (2:UInt8), (1:UInt8)]) 0 (2:Int)))) ao1 ((nuZ ([(1:UInt8), (2:UInt8), (1:UInt8)]) 0 (2:Int)).length) ca1 (nuZ ([(1:UInt8), (2:UInt8), (1:UInt8)]) 0 (2:Int)) w1 (hw1.ent _ (List.mem_of_getElem? (i := 5) rfl)) rfl (by omega) (by omega) (by omega) ((fun w M h => hA1 w M ((fun _ _ h => h) w M h)) _ _ (RdB.of hw1 (MemAt.ent 4 rfl (Seg.left (Seg.whole _))) (by intro _; simp only [List.mem_cons, List.not_mem_nil, or_false, not_or]; exact hw1.ne (i := 4) (j := 5) rfl rfl (by decide)))))) rfl ?_
  rintro v1 L1 ⟨_, ⟨rfl, ao2, ca2, ⟨hA2, hb4, hb5, hb6⟩, rfl⟩, rfl⟩
  show JL _ _ _ _ ((34, .bool (fgV (nuZ ([(1:UInt8), (2:UInt8), (1:UInt8)]) 0 (2:Int)) (okE 0 (decide (NuOk ([(1:UInt8), (2:UInt8), (1:UInt8)]) 0 (2:Int)))))) :: _) [⟨nb1, [.nilIface, Slc nb3 0 3 cp2], 66, (0, 0)⟩, ⟨nb3, cu8 ((numK 2 (258:UInt64) 2) ++ numK 1 (bitU true) 1) ++ sp2, 5, (0, 0)⟩, ⟨nb4, cu8 ((numK 2 (258:UInt64) 2) ++ numK 1 (bitU true) 1) ++ sp3, 5, (0, 0)⟩, ⟨nb5, cu8 ([(1:UInt8), (2:UInt8), (1:UInt8)]), 5, (0, 0)⟩, ⟨nb7, cu8 ([(1:UInt8), (2:UInt8), (1:UInt8)]) ++ sp4, 5, (0, 0)⟩, ⟨nb6, [errV 36 (okE (okE 0 (decide (NuOk ([(1:UInt8), (2:UInt8), (1:UInt8)]) 0 (2:Int)))) (decide (FgOk (nuZ ([(1:UInt8), (2:UInt8), (1:UInt8)]) 0 (2:Int)) (okE 0 (decide (NuOk ([(1:UInt8), (2:UInt8), (1:UInt8)]) 0 (2:Int))))))), .slice ao2 ((fgZ (nuZ ([(1:UInt8), (2:UInt8), (1:UInt8)]) 0 (2:Int)) (okE 0 (decide (NuOk ([(1:UInt8), (2:UInt8), (1:UInt8)]) 0 (2:Int))))).length) ca2], 123, (0, 0)⟩]
  refine JL_val _ (Ev_pickT _ rfl (by decide +kernel) rfl) rfl ?_
  refine JL_val _ (Ev_move rfl) rfl ?_
  refine JL_gval 20 36 true _ _ rfl rfl (by decide +kernel) (Ev_move rfl) rfl ?_
  refine JL_gstep 20 36 true _ rfl rfl (by decide +kernel) (Step_callP 66 [Ptr nb6 0] (errV 36 (endN (okE (okE 0 (decide (NuOk ([(1:UInt8), (2:UInt8), (1:UInt8)]) 0 (2:Int)))) (decide (FgOk (nuZ ([(1:UInt8), (2:UInt8), (1:UInt8)]) 0 (2:Int)) (okE 0 (decide (NuOk ([(1:UInt8), (2:UInt8), (1:UInt8)]) 0 (2:Int))))))) ((fgZ (nuZ ([(1:UInt8), (2:UInt8), (1:UInt8)]) 0 (2:Int)) (okE 0 (decide (NuOk ([(1:UInt8), (2:UInt8), (1:UInt8)]) 0 (2:Int))))).length))) (Cl_func [Ptr nb6 0] Try.call66 rfl) (fun w1 hw1 => end_w nb6 (okE (okE 0 (decide (NuOk ([(1:UInt8), (2:UInt8), (1:UInt8)]) 0 (2:Int)))) (decide (FgOk (nuZ ([(1:UInt8), (2:UInt8), (1:UInt8)]) 0 (2:Int)) (okE 0 (decide (NuOk ([(1:UInt8), (2:UInt8), (1:UInt8)]) 0 (2:Int))))))) ao2 ((fgZ (nuZ ([(1:UInt8), (2:UInt8), (1:UInt8)]) 0 (2:Int)) (okE 0 (decide (NuOk ([(1:UInt8), (2:UInt8), (1:UInt8)]) 0 (2:Int))))).length) ca2 w1 (RdA.of hw1 (MemAt.ent 5 rfl (Seg.whole _)) (by simp)))) rfl ?_
  rintro v1 L1 ⟨rfl, rfl⟩
  show JL _ _ _ _ ((38, errV 36 (endN (okE (okE 0 (decide (NuOk ([(1:UInt8), (2:UInt8), (1:UInt8)]) 0 (2:Int)))) (decide (FgOk (nuZ ([(1:UInt8), (2:UInt8), (1:UInt8)]) 0 (2:Int)) (okE 0 (decide (NuOk ([(1:UInt8), (2:UInt8), (1:UInt8)]) 0 (2:Int))))))) ((fgZ (nuZ ([(1:UInt8), (2:UInt8), (1:UInt8)]) 0 (2:Int)) (okE 0 (decide (NuOk ([(1:UInt8), (2:UInt8), (1:UInt8)]) 0 (2:Int))))).length))) :: _) [⟨nb1, [.nilIface, Slc nb3 0 3 cp2], 66, (0, 0)⟩, ⟨nb3, cu8 ((numK 2 (258:UInt64) 2) ++ numK 1 (bitU true) 1) ++ sp2, 5, (0, 0)⟩, ⟨nb4, cu8 ((numK 2 (258:UInt64) 2) ++ numK 1 (bitU true) 1) ++ sp3, 5, (0, 0)⟩, ⟨nb5, cu8 ([(1:UInt8), (2:UInt8), (1:UInt8)]), 5, (0, 0)⟩, ⟨nb7, cu8 ([(1:UInt8), (2:UInt8), (1:UInt8)]) ++ sp4, 5, (0, 0)⟩, ⟨nb6, [errV 36 (okE (okE 0 (decide (NuOk ([(1:UInt8), (2:UInt8), (1:UInt8)]) 0 (2:Int)))) (decide (FgOk (nuZ ([(1:UInt8), (2:UInt8), (1:UInt8)]) 0 (2:Int)) (okE 0 (decide (NuOk ([(1:UInt8), (2:UInt8), (1:UInt8)]) 0 (2:Int))))))), .slice ao2 ((fgZ (nuZ ([(1:UInt8), (2:UInt8), (1:UInt8)]) 0 (2:Int)) (okE 0 (decide (NuOk ([(1:UInt8), (2:UInt8), (1:UInt8)]) 0 (2:Int))))).length) ca2], 123, (0, 0)⟩]
  refine JL_gval 20 36 true _ (.bool (decide (endN (okE (okE 0 (decide (NuOk ([(1:UInt8), (2:UInt8), (1:UInt8)]) 0 (2:Int)))) (decide (FgOk (nuZ ([(1:UInt8), (2:UInt8), (1:UInt8)]) 0 (2:Int)) (okE 0 (decide (NuOk ([(1:UInt8), (2:UInt8), (1:UInt8)]) 0 (2:Int))))))) ((fgZ (nuZ ([(1:UInt8), (2:UInt8), (1:UInt8)]) 0 (2:Int)) (okE 0 (decide (NuOk ([(1:UInt8), (2:UInt8), (1:UInt8)]) 0 (2:Int))))).length) = 0))) rfl rfl (by decide +kernel) (Ev_bin _ _ _ rfl rfl (fun _ => eqGuard_errV ..) fun _ => eql_errV Try.underlying30 _ _) rfl ?_
  refine JL_val _ (Ev_pickT _ rfl (by decide +kernel) rfl) rfl ?_
  refine JL_val _ (Ev_assign rfl) rfl ?_
  refine JL_nil ?_
  refine JQ_then ?_
  refine JC_ret ?_
  refine JQ_ret (.bool (decide (endN (okE (okE 0 (decide (NuOk ([(1:UInt8), (2:UInt8), (1:UInt8)]) 0 (2:Int)))) (decide (FgOk (nuZ ([(1:UInt8), (2:UInt8), (1:UInt8)]) 0 (2:Int)) (okE 0 (decide (NuOk ([(1:UInt8), (2:UInt8), (1:UInt8)]) 0 (2:Int))))))) ((fgZ (nuZ ([(1:UInt8), (2:UInt8), (1:UInt8)]) 0 (2:Int)) (okE 0 (decide (NuOk ([(1:UInt8), (2:UInt8), (1:UInt8)]) 0 (2:Int))))).length) = 0))) (res1 Try.results38 (RV_tmp rfl)) fun w1 hw1 => ?_
  exact ⟨_, [], rfl, ⟨by rw [show (decide (endN (okE (okE 0 (decide (NuOk ([(1:UInt8), (2:UInt8), (1:UInt8)]) 0 (2:Int)))) (decide (FgOk (nuZ ([(1:UInt8), (2:UInt8), (1:UInt8)]) 0 (2:Int)) (okE 0 (decide (NuOk ([(1:UInt8), (2:UInt8), (1:UInt8)]) 0 (2:Int))))))) ((fgZ (nuZ ([(1:UInt8), (2:UInt8), (1:UInt8)]) 0 (2:Int)) (okE 0 (decide (NuOk ([(1:UInt8), (2:UInt8), (1:UInt8)]) 0 (2:Int))))).length) = 0)) = true from (by decide +kernel)], rfl⟩, hw1.sub (by simp) (by simp)⟩

theorem octNil0_c (s : Int) (w : World) (hs : Szd s) : Calls Try.prog 13 #[I64 (s)] w (Post w [] (fun v L => v = .bool true ∧ L = [])) := by
  refine enter w [] 48 [] [I64 (s)] Try.func13 rfl rfl (by simp) (Hp.start (by simp) (by simp) (by simp)) ?_
  show JC _ _ _ [(0, I64 (s))] _
  refine JC_seq ?_
  refine JC_region ?_
  refine JL_val _ (Ev_assign rfl) rfl ?_
  refine JL_nil ?_
  refine JQ_then ?_
  refine JC_seq ?_
  refine JC_seq ?_
  refine JC_region ?_
  refine JL_step (Step_callP 38 [] (.bool true) (Cl_func [] Try.call38 rfl) (fun w1 hw1 => alive1_c  w1 )) rfl ?_
  rintro v1 L1 ⟨rfl, rfl⟩
  show JL _ _ _ _ ((4, .bool true) :: _) []
  refine JL_val (.bool (!true)) (Ev_not rfl) rfl ?_
  refine JL_nil ?_
  refine JQ_then ?_
  refine JC_condF _ rfl rfl ?_
  refine JC_skip ?_
  refine JQ_then ?_
  refine JC_seq ?_
  refine JC_region ?_
  refine JL_val _ (Ev_assign rfl) rfl ?_
  refine JL_nil ?_
  refine JQ_then ?_
  refine JC_seq ?_
  refine JC_region ?_
  refine JL_val _ (Ev_move rfl) rfl ?_
  refine JL_val (.iface 36 (I64 (2:Int))) (Ev_iface Try.underlying36 rfl rfl) rfl ?_
  refine JL_step (Step_callP 63 [.pointer none, .iface 36 (I64 (2:Int))] (.tuple #[]) (Cl_func [.pointer none, .iface 36 (I64 (2:Int))] Try.call63 rfl) (fun w1 hw1 => failRdNil_c (.iface 36 (I64 (2:Int))) w1)) rfl ?_
  rintro v1 L1 ⟨rfl, rfl⟩
  show JL _ _ _ _ ((8, .tuple #[]) :: _) []
  refine JL_nil ?_
  refine JQ_then ?_
  refine JC_seq ?_
  refine JC_region ?_
  refine JL_val _ (Ev_move rfl) rfl ?_
  refine JL_val _ (Ev_move rfl) rfl ?_
  refine JL_step (Step_callP 54 [.pointer none, I64 (s)] (U64 (0:UInt64)) (Cl_func [.pointer none, I64 (s)] Try.call54 rfl) (fun w1 hw1 => numRNil0_c (s) w1 hs)) rfl ?_
  rintro v1 L1 ⟨rfl, rfl⟩
  show JL _ _ _ _ ((11, U64 (0:UInt64)) :: _) []
  refine JL_val (.bool (decide ((0:UInt64) = (0:UInt64)))) (Ev_bini rfl rfl fun _ => bin_eql_u64 (0:UInt64) (0:UInt64)) rfl ?_
  refine JL_val _ (Ev_move rfl) rfl ?_
  refine JL_gval 4 13 true _ _ rfl rfl (by decide) (Ev_move rfl) rfl ?_
  refine JL_gval 4 13 true _ _ rfl rfl (by decide) (Ev_move rfl) rfl ?_
  refine JL_gstep 4 13 true _ rfl rfl (by decide) (Step_callP 56 [.pointer none, I64 (s)] (.slice none 0 0) (Cl_func [.pointer none, I64 (s)] Try.call56 rfl) (fun w1 hw1 => bytRNil_c (s) w1)) rfl ?_
  rintro v1 L1 ⟨rfl, rfl⟩
  show JL _ _ _ _ ((16, .slice none 0 0) :: _) []
  refine JL_gval 4 13 true _ (I64 (0:Int)) rfl rfl (by decide) (Ev_len Try.underlying38 rfl) rfl ?_
  refine JL_gval 4 13 true _ (.bool (decide ((0:Int) = (0:Int)))) rfl rfl (by decide) (Ev_bini rfl rfl fun _ => bin_eql_i _ _) rfl ?_
  refine JL_val _ (Ev_pickT _ rfl (by decide) rfl) rfl ?_
  refine JL_val _ (Ev_move rfl) rfl ?_
  refine JL_gval 11 20 true _ _ rfl rfl (by decide) (Ev_move rfl) rfl ?_
  refine JL_gval 11 20 true _ _ rfl rfl (by decide) (Ev_move rfl) rfl ?_
  refine JL_gstep 11 20 true _ rfl rfl (by decide) (Step_callP 58 [.pointer none, I64 (s)] (.slice none 0 0) (Cl_func [.pointer none, I64 (s)] Try.call58 rfl) (fun w1 hw1 => rawRNil_c (s) w1)) rfl ?_
  rintro v1 L1 ⟨rfl, rfl⟩
  show JL _ _ _ _ ((23, .slice none 0 0) :: _) []
  refine JL_gval 11 20 true _ (I64 (0:Int)) rfl rfl (by decide) (Ev_len Try.underlying38 rfl) rfl ?_
  refine JL_gval 11 20 true _ (.bool (decide ((0:Int) = (0:Int)))) rfl rfl (by decide) (Ev_bini rfl rfl fun _ => bin_eql_i _ _) rfl ?_
  refine JL_val _ (Ev_pickT _ rfl (by decide) rfl) rfl ?_
  refine JL_val _ (Ev_move rfl) rfl ?_
  refine JL_gval 18 27 true _ _ rfl rfl (by decide) (Ev_move rfl) rfl ?_
  refine JL_gstep 18 27 true _ rfl rfl (by decide) (Step_callP 60 [.pointer none] (.agg (cu8 (zr8 32)).toArray) (Cl_func [.pointer none] Try.call60 rfl) (fun w1 hw1 => hasRNil_c w1)) rfl ?_
  rintro v1 L1 ⟨rfl, rfl⟩
  show JL _ _ _ _ ((29, .agg (cu8 (zr8 32)).toArray) :: _) []
  refine JL_gval 18 27 true _ (.agg (cu8 (zr8 32)).toArray) rfl rfl (by decide) (Ev_build [] _ rfl (fun _ => by kernel_rfl)) rfl ?_
  refine JL_gval 18 27 true _ (.bool (decide ((zr8 32) = (zr8 32)))) rfl rfl (by decide) (Ev_bin _ _ _ rfl rfl (fun _ => eqGuard_agg _ _ _ _ _ _ (by kernel_rfl)) fun _ => eql_arr8 Try.underlying76 Try.underlying5 Try.isAgg5 Try.cells5 Try.has5 (by simp [(zr8_len 32)]) (by simp [(zr8_len 32)])) rfl ?_
  refine JL_val _ (Ev_pickT _ rfl (by decide) rfl) rfl ?_
  refine JL_val _ (Ev_move rfl) rfl ?_
  refine JL_gval 24 33 true _ _ rfl rfl (by decide +kernel) (Ev_move rfl) rfl ?_
  refine JL_gstep 24 33 true _ rfl rfl (by decide +kernel) (Step_callP 62 [.pointer none] (.bool false) (Cl_func [.pointer none] Try.call62 rfl) (fun w1 hw1 => flgRNil_c w1)) rfl ?_
  rintro v1 L1 ⟨rfl, rfl⟩
  show JL _ _ _ _ ((35, .bool false) :: _) []
  refine JL_gval 24 33 true _ (.bool (!false)) rfl rfl (by decide +kernel) (Ev_not rfl) rfl ?_
  refine JL_val _ (Ev_pickT _ rfl (by decide +kernel) rfl) rfl ?_
  refine JL_val _ (Ev_move rfl) rfl ?_
  refine JL_gval 29 38 true _ _ rfl rfl rfl (Ev_move rfl) rfl ?_
  refine JL_gstep 29 38 true _ rfl rfl rfl (Step_callP 64 [.pointer none] (I64 (0:Int)) (Cl_func [.pointer none] Try.call64 rfl) (fun w1 hw1 => leftNil_c w1)) rfl ?_
  rintro v1 L1 ⟨rfl, rfl⟩
  show JL _ _ _ _ ((40, I64 (0:Int)) :: _) []
  refine JL_gval 29 38 true _ (.bool (decide ((0:Int) = (0:Int)))) rfl rfl rfl (Ev_bini rfl rfl fun _ => bin_eql_i _ _) rfl ?_
  refine JL_val _ (Ev_pickT _ rfl rfl rfl) rfl ?_
  refine JL_val _ (Ev_move rfl) rfl ?_
  refine JL_gval 34 43 true _ _ rfl rfl (by decide) (Ev_move rfl) rfl ?_
  refine JL_gstep 34 43 true _ rfl rfl (by decide) (Step_callP 66 [.pointer none] (.iface 36 (I64 (11:Int))) (Cl_func [.pointer none] Try.call66 rfl) (fun w1 hw1 => endNil_c w1)) rfl ?_
  rintro v1 L1 ⟨rfl, rfl⟩
  show JL _ _ _ _ ((45, .iface 36 (I64 (11:Int))) :: _) []
  refine JL_gstep 34 43 true _ rfl rfl (by decide) (Step_callP 24 [.iface 36 (I64 (11:Int)), I64 (11:Int)] (.bool true) (Cl_func [.iface 36 (I64 (11:Int)), I64 (11:Int)] Try.call24 rfl) (fun w1 hw1 => is_c 11 11 w1)) rfl ?_
  rintro v1 L1 ⟨rfl, rfl⟩
  show JL _ _ _ _ ((46, .bool true) :: _) []
  refine JL_val _ (Ev_pickT _ rfl (by decide) rfl) rfl ?_
  refine JL_val _ (Ev_assign rfl) rfl ?_
  refine JL_nil ?_
  refine JQ_then ?_
  refine JC_ret ?_
  refine JQ_ret (.bool true) (res1 Try.results13 (RV_tmp rfl)) fun w1 hw1 => ?_
  exact ⟨_, [], rfl, ⟨by rw [show (true) = true from rfl], rfl⟩, hw1.sub (by simp) (by simp)⟩

theorem octNil1_c (s : Int) (w : World) (hs : ¬ Szd s) : Calls Try.prog 13 #[I64 (s)] w (Post w [] (fun v L => v = .bool true ∧ L = [])) := by
  refine enter w [] 48 [] [I64 (s)] Try.func13 rfl rfl (by simp) (Hp.start (by simp) (by simp) (by simp)) ?_
  show JC _ _ _ [(0, I64 (s))] _
  refine JC_seq ?_
  refine JC_region ?_
  refine JL_val _ (Ev_assign rfl) rfl ?_
  refine JL_nil ?_
  refine JQ_then ?_
  refine JC_seq ?_
  refine JC_seq ?_
  refine JC_region ?_
  refine JL_step (Step_callP 38 [] (.bool true) (Cl_func [] Try.call38 rfl) (fun w1 hw1 => alive1_c  w1 )) rfl ?_
  rintro v1 L1 ⟨rfl, rfl⟩
  show JL _ _ _ _ ((4, .bool true) :: _) []
  refine JL_val (.bool (!true)) (Ev_not rfl) rfl ?_
  refine JL_nil ?_
  refine JQ_then ?_
  refine JC_condF _ rfl rfl ?_
  refine JC_skip ?_
  refine JQ_then ?_
  refine JC_seq ?_
  refine JC_region ?_
  refine JL_val _ (Ev_assign rfl) rfl ?_
  refine JL_nil ?_
  refine JQ_then ?_
  refine JC_seq ?_
  refine JC_region ?_
  refine JL_val _ (Ev_move rfl) rfl ?_
  refine JL_val (.iface 36 (I64 (2:Int))) (Ev_iface Try.underlying36 rfl rfl) rfl ?_
  refine JL_step (Step_callP 63 [.pointer none, .iface 36 (I64 (2:Int))] (.tuple #[]) (Cl_func [.pointer none, .iface 36 (I64 (2:Int))] Try.call63 rfl) (fun w1 hw1 => failRdNil_c (.iface 36 (I64 (2:Int))) w1)) rfl ?_
  rintro v1 L1 ⟨rfl, rfl⟩
  show JL _ _ _ _ ((8, .tuple #[]) :: _) []
  refine JL_nil ?_
  refine JQ_then ?_
  refine JC_seq ?_
  refine JC_region ?_
  refine JL_val _ (Ev_move rfl) rfl ?_
  refine JL_val _ (Ev_move rfl) rfl ?_
  refine JL_step (Step_callP 54 [.pointer none, I64 (s)] (U64 (0:UInt64)) (Cl_func [.pointer none, I64 (s)] Try.call54 rfl) (fun w1 hw1 => numRNil1_c (s) w1 hs)) rfl ?_
  rintro v1 L1 ⟨rfl, rfl⟩
  show JL _ _ _ _ ((11, U64 (0:UInt64)) :: _) []
  refine JL_val (.bool (decide ((0:UInt64) = (0:UInt64)))) (Ev_bini rfl rfl fun _ => bin_eql_u64 (0:UInt64) (0:UInt64)) rfl ?_
  refine JL_val _ (Ev_move rfl) rfl ?_
  refine JL_gval 4 13 true _ _ rfl rfl (by decide) (Ev_move rfl) rfl ?_
  refine JL_gval 4 13 true _ _ rfl rfl (by decide) (Ev_move rfl) rfl ?_
  refine JL_gstep 4 13 true _ rfl rfl (by decide) (Step_callP 56 [.pointer none, I64 (s)] (.slice none 0 0) (Cl_func [.pointer none, I64 (s)] Try.call56 rfl) (fun w1 hw1 => bytRNil_c (s) w1)) rfl ?_
  rintro v1 L1 ⟨rfl, rfl⟩
  show JL _ _ _ _ ((16, .slice none 0 0) :: _) []
  refine JL_gval 4 13 true _ (I64 (0:Int)) rfl rfl (by decide) (Ev_len Try.underlying38 rfl) rfl ?_
  refine JL_gval 4 13 true _ (.bool (decide ((0:Int) = (0:Int)))) rfl rfl (by decide) (Ev_bini rfl rfl fun _ => bin_eql_i _ _) rfl ?_
  refine JL_val _ (Ev_pickT _ rfl (by decide) rfl) rfl ?_
  refine JL_val _ (Ev_move rfl) rfl ?_
  refine JL_gval 11 20 true _ _ rfl rfl (by decide) (Ev_move rfl) rfl ?_
  refine JL_gval 11 20 true _ _ rfl rfl (by decide) (Ev_move rfl) rfl ?_
  refine JL_gstep 11 20 true _ rfl rfl (by decide) (Step_callP 58 [.pointer none, I64 (s)] (.slice none 0 0) (Cl_func [.pointer none, I64 (s)] Try.call58 rfl) (fun w1 hw1 => rawRNil_c (s) w1)) rfl ?_
  rintro v1 L1 ⟨rfl, rfl⟩
  show JL _ _ _ _ ((23, .slice none 0 0) :: _) []
  refine JL_gval 11 20 true _ (I64 (0:Int)) rfl rfl (by decide) (Ev_len Try.underlying38 rfl) rfl ?_
  refine JL_gval 11 20 true _ (.bool (decide ((0:Int) = (0:Int)))) rfl rfl (by decide) (Ev_bini rfl rfl fun _ => bin_eql_i _ _) rfl ?_
  refine JL_val _ (Ev_pickT _ rfl (by decide) rfl) rfl ?_
  refine JL_val _ (Ev_move rfl) rfl ?_
  refine JL_gval 18 27 true _ _ rfl rfl (by decide) (Ev_move rfl) rfl ?_
  refine JL_gstep 18 27 true _ rfl rfl (by decide) (Step_callP 60 [.pointer none] (.agg (cu8 (zr8 32)).toArray) (Cl_func [.pointer none] Try.call60 rfl) (fun w1 hw1 => hasRNil_c w1)) rfl ?_
  rintro v1 L1 ⟨rfl, rfl⟩
  show JL _ _ _ _ ((29, .agg (cu8 (zr8 32)).toArray) :: _) []
  refine JL_gval 18 27 true _ (.agg (cu8 (zr8 32)).toArray) rfl rfl (by decide) (Ev_build [] _ rfl (fun _ => by kernel_rfl)) rfl ?_
  refine JL_gval 18 27 true _ (.bool (decide ((zr8 32) = (zr8 32)))) rfl rfl (by decide) (Ev_bin _ _ _ rfl rfl (fun _ => eqGuard_agg _ _ _ _ _ _ (by kernel_rfl)) fun _ => eql_arr8 Try.underlying76 Try.underlying5 Try.isAgg5 Try.cells5 Try.has5 (by simp [(zr8_len 32)]) (by simp [(zr8_len 32)])) rfl ?_
  refine JL_val _ (Ev_pickT _ rfl (by decide) rfl) rfl ?_
  refine JL_val _ (Ev_move rfl) rfl ?_
  refine JL_gval 24 33 true _ _ rfl rfl (by decide +kernel) (Ev_move rfl) rfl ?_
  refine JL_gstep 24 33 true _ rfl rfl (by decide +kernel) (Step_callP 62 [.pointer none] (.bool false) (Cl_func [.pointer none] Try.call62 rfl) (fun w1 hw1 => flgRNil_c w1)) rfl ?_
  rintro v1 L1 ⟨rfl, rfl⟩
  show JL _ _ _ _ ((35, .bool false) :: _) []
  refine JL_gval 24 33 true _ (.bool (!false)) rfl rfl (by decide +kernel) (Ev_not rfl) rfl ?_
  refine JL_val _ (Ev_pickT _ rfl (by decide +kernel) rfl) rfl ?_
  refine JL_val _ (Ev_move rfl) rfl ?_
  refine JL_gval 29 38 true _ _ rfl rfl rfl (Ev_move rfl) rfl ?_
  refine JL_gstep 29 38 true _ rfl rfl rfl (Step_callP 64 [.pointer none] (I64 (0:Int)) (Cl_func [.pointer none] Try.call64 rfl) (fun w1 hw1 => leftNil_c w1)) rfl ?_
  rintro v1 L1 ⟨rfl, rfl⟩
  show JL _ _ _ _ ((40, I64 (0:Int)) :: _) []
  refine JL_gval 29 38 true _ (.bool (decide ((0:Int) = (0:Int)))) rfl rfl rfl (Ev_bini rfl rfl fun _ => bin_eql_i _ _) rfl ?_
  refine JL_val _ (Ev_pickT _ rfl rfl rfl) rfl ?_
  refine JL_val _ (Ev_move rfl) rfl ?_
  refine JL_gval 34 43 true _ _ rfl rfl (by decide) (Ev_move rfl) rfl ?_
  refine JL_gstep 34 43 true _ rfl rfl (by decide) (Step_callP 66 [.pointer none] (.iface 36 (I64 (11:Int))) (Cl_func [.pointer none] Try.call66 rfl) (fun w1 hw1 => endNil_c w1)) rfl ?_
  rintro v1 L1 ⟨rfl, rfl⟩
  show JL _ _ _ _ ((45, .iface 36 (I64 (11:Int))) :: _) []
  refine JL_gstep 34 43 true _ rfl rfl (by decide) (Step_callP 24 [.iface 36 (I64 (11:Int)), I64 (11:Int)] (.bool true) (Cl_func [.iface 36 (I64 (11:Int)), I64 (11:Int)] Try.call24 rfl) (fun w1 hw1 => is_c 11 11 w1)) rfl ?_
  rintro v1 L1 ⟨rfl, rfl⟩
  show JL _ _ _ _ ((46, .bool true) :: _) []
  refine JL_val _ (Ev_pickT _ rfl (by decide) rfl) rfl ?_
  refine JL_val _ (Ev_assign rfl) rfl ?_
  refine JL_nil ?_
  refine JQ_then ?_
  refine JC_ret ?_
  refine JQ_ret (.bool true) (res1 Try.results13 (RV_tmp rfl)) fun w1 hw1 => ?_
  exact ⟨_, [], rfl, ⟨by rw [show (true) = true from rfl], rfl⟩, hw1.sub (by simp) (by simp)⟩

theorem octetsNil_w (s : Int) (w : World) (hs : -9223372036854775808 ≤ s ∧ s ≤ 9223372036854775807) : Calls Try.prog 13 #[I64 s] w (Post w [] (fun v L => v = .bool true ∧ L = [])) := by
  by_cases h : Szd s
  · exact octNil0_c s w h
  · exact octNil1_c s w h

end Go.Proofs.Ytncoifiafklkjaa
