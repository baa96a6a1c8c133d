import Derived.Test.YtncoifiafklkjaaDoorNodeLaw
import Derived.Test.YtncoifiafklkjaaDoorSxSt
namespace Go.Proofs.YtncoifiafklkjaaDoor
open Go Go.Sx
set_option linter.unusedVariables false
set_option linter.unusedSimpArgs false
set_option maxRecDepth 100000
attribute [local irreducible] mid zr8 zr32 zr64 numK rnK ftN valK rvalK rotr wordL spreadL comprL cpN adN spN wrdN constL initL padL stN outN routN sumG putL leafT joinT empL empA empR kindN
theorem put7_c (e : UInt64) (d t : List UInt8) (w : World) (hd : d.length = 32) (ht : t.length = 16) : Calls Tryd.prog 67 #[.agg (List.toArray (α := Value) ([U64 e] ++ cu8 d ++ cu8 t))] w (Post w [] (fun v L => ∃ g sp cap, v = Slc g 0 56 cap ∧ L = [⟨g, cu8 (putL e d t) ++ sp, 5, (0, 0)⟩] ∧ sp.length = cap - 56 ∧ 56 ≤ cap ∧ cap ≤ maxLen)) := by
  have hmx : maxLen = 9223372036854775807 := rfl
  refine enter (P := Tryd.prog) (f := 67) (fn := Tryd.f67) w [] 25 [] [.agg (List.toArray (α := Value) ([U64 e] ++ cu8 d ++ cu8 t))] Tryd.func67 rfl rfl (by simp) (Hp.start (by simp) (by simp) (by simp)) ?_
  show JC _ _ _ [(0, .agg (List.toArray (α := Value) ([U64 e] ++ cu8 d ++ cu8 t)))] _
  refine JC_seq ?_
  refine JC_region ?_
  refine JL_step (Step_box (.agg (List.toArray (α := Value) ([U64 e] ++ cu8 d ++ cu8 t))) ([U64 e] ++ cu8 d ++ cu8 t) rfl (by first | rfl | simp)) rfl ?_
  rintro v1 L1 ⟨nb1, hnb1, rfl, rfl⟩
  show JL _ _ _ _ ((1, Ptr nb1 0) :: _) [⟨nb1, [U64 e] ++ cu8 d ++ cu8 t, 76, (0, 0)⟩]
  refine JL_val _ (Ev_assign rfl) rfl ?_
  refine JL_nil ?_
  refine JQ_then ?_
  refine JC_seq ?_
  refine JC_region ?_
  refine JL_val (.agg (List.toArray (α := Value) ([.nilIface, .slice none 0 0]))) (Ev_build [] _ rfl (fun _ => by kernel_rfl)) rfl ?_
  refine JL_step (Step_box (.agg (List.toArray (α := Value) ([.nilIface, .slice none 0 0]))) ([.nilIface, .slice none 0 0]) rfl (by first | rfl | simp)) rfl ?_
  rintro v1 L1 ⟨nb2, hnb2, rfl, rfl⟩
  show JL _ _ _ _ ((7, Ptr nb2 0) :: _) [⟨nb1, [U64 e] ++ cu8 d ++ cu8 t, 76, (0, 0)⟩, ⟨nb2, [.nilIface, .slice none 0 0], 138, (0, 0)⟩]
  refine JL_val _ (Ev_assign rfl) rfl ?_
  refine JL_nil ?_
  refine JQ_then ?_
  refine JC_seq ?_
  refine JC_draw 25 5 [(0, Ptr nb2 0), (1, Ptr nb1 0), (2, U64 e), (4, Ptr nb1 1), (5, Slc nb1 1 32 32), (7, Ptr nb1 33), (8, Slc nb1 33 16 16)] Tryd.mixed rfl (by decide +kernel) ?_
  refine DP_one ⟨[], [0, 1, 2, 4, 5, 7, 8], [], [0, 1, 2, 4, 5, 7, 8], [3]⟩ 3 _ rfl rfl (by decide +kernel) rfl ⟨⟨_, rfl, Qok_val rfl (Ev_move rfl)⟩, ⟨_, rfl, Qok_val rfl (Ev_fieldAddr 0 58 1 Tryd.underlying76 rfl Tryd.sizeOf58 rfl rfl)⟩, ⟨_, rfl, Qok_val rfl (Ev_load rfl (Ld_one Tryd.isAgg58 (MemAt.ent 0 rfl (Seg.left (Seg.left (Seg.head))))))⟩, ⟨_, rfl, Qok_val rfl (Ev_fieldAddr 1 74 32 Tryd.underlying76 rfl Tryd.sizeOf74 rfl rfl)⟩, ⟨_, rfl, Qok_val rfl (Ev_sliceA 32 5 1 0 32 1 32 Tryd.underlying74 Tryd.sizeOf5 rfl rfl rfl (by omega) (by omega) (by omega) (by omega) (by omega) 32 (by omega))⟩, ⟨_, rfl, Qok_val rfl (Ev_fieldAddr 33 54 16 Tryd.underlying76 rfl Tryd.sizeOf54 rfl rfl)⟩, ⟨_, rfl, Qok_val rfl (Ev_sliceA 16 5 1 0 16 33 16 Tryd.underlying54 Tryd.sizeOf5 rfl rfl rfl (by omega) (by omega) (by omega) (by omega) (by omega) 16 (by omega))⟩, trivial⟩ rfl (Cok_step rfl (Step_call 97 _ [false, true] [nb2] _ (Cl_func [Ptr nb2 0, U64 e, I64 (8:Int)] Tryd.call97 rfl) rfl (fun w1 hw1 => numN_c nb2 8 .nilIface e 8 w1 (hw1.ent _ (List.mem_of_getElem? (i := 1) rfl)) (by unfold Szd; omega) (fun h => absurd h (by omega)) (by omega)))) ?_
  rintro v1 L1 ⟨_, ⟨rfl, nb3, sp1, cp1, rfl, hc1, hc2, hc3⟩, rfl⟩
  refine ⟨[], ?_⟩
  show DP _ _ _ _ _ _ _ _ [⟨nb1, [U64 e] ++ cu8 d ++ cu8 t, 76, (0, 0)⟩, ⟨nb2, [.nilIface, Slc nb3 0 8 cp1], 138, (0, 0)⟩, ⟨nb3, cu8 (numK 8 e 8) ++ sp1, 5, (0, 0)⟩]
  refine DP_one ⟨[3], [0, 1, 2, 4, 5, 7, 8], [0, 1, 2], [4, 5, 7, 8], [6]⟩ 6 _ rfl rfl (by decide +kernel) rfl ⟨⟨_, rfl, Qok_val rfl (Ev_fieldAddr 1 74 32 Tryd.underlying76 rfl Tryd.sizeOf74 rfl rfl)⟩, ⟨_, rfl, Qok_val rfl (Ev_sliceA 32 5 1 0 32 1 32 Tryd.underlying74 Tryd.sizeOf5 rfl rfl rfl (by omega) (by omega) (by omega) (by omega) (by omega) 32 (by omega))⟩, ⟨_, rfl, Qok_val rfl (Ev_fieldAddr 33 54 16 Tryd.underlying76 rfl Tryd.sizeOf54 rfl rfl)⟩, ⟨_, rfl, Qok_val rfl (Ev_sliceA 16 5 1 0 16 33 16 Tryd.underlying54 Tryd.sizeOf5 rfl rfl rfl (by omega) (by omega) (by omega) (by omega) (by omega) 16 (by omega))⟩, trivial⟩ rfl (Cok_step rfl (Step_call 106 _ [false, true, true] [nb2, nb3] _ (Cl_func [Ptr nb2 0, Slc nb1 1 32 32] Tryd.call106 rfl) rfl (fun w1 hw1 => rawO_c nb2 nb3 8 cp1 40 .nilIface (numK 8 e 8) sp1 (some ⟨nb1, 1, none⟩) 32 32 d w1 (hw1.ent _ (List.mem_of_getElem? (i := 1) rfl)) (hw1.ent _ (List.mem_of_getElem? (i := 2) rfl)) (hw1.ne (i := 1) (j := 2) rfl rfl (by decide)) (show (numK 8 e 8).length = 8 from (numK_len _ _ _)) hc1 hc2 hc3 (by omega) hd (by omega) (RdB.of hw1 (MemAt.ent 0 rfl (Seg.left (Seg.right 1 0 rfl rfl (Seg.whole _)))) (by intro _; simp only [List.mem_cons, List.not_mem_nil, or_false, not_or]; exact ⟨hw1.ne (i := 0) (j := 1) rfl rfl (by decide), hw1.ne (i := 0) (j := 2) rfl rfl (by decide)⟩)) (by omega)))) ?_
  rintro v1 L1 ⟨_, ⟨rfl, nb4, sp2, cp2, rfl, hc4, hc5, hc6⟩, rfl⟩
  refine ⟨[], ?_⟩
  show DP _ _ _ _ _ _ _ _ [⟨nb1, [U64 e] ++ cu8 d ++ cu8 t, 76, (0, 0)⟩, ⟨nb2, [.nilIface, Slc nb4 0 40 cp2], 138, (0, 0)⟩, ⟨nb4, cu8 ((numK 8 e 8) ++ d) ++ sp2, 5, (0, 0)⟩]
  refine DP_one ⟨[3, 6], [0, 1, 2, 4, 5, 7, 8], [0, 1, 2, 4, 5], [7, 8], [9]⟩ 9 _ rfl rfl (by decide +kernel) rfl ⟨⟨_, rfl, Qok_val rfl (Ev_fieldAddr 33 54 16 Tryd.underlying76 rfl Tryd.sizeOf54 rfl rfl)⟩, ⟨_, rfl, Qok_val rfl (Ev_sliceA 16 5 1 0 16 33 16 Tryd.underlying54 Tryd.sizeOf5 rfl rfl rfl (by omega) (by omega) (by omega) (by omega) (by omega) 16 (by omega))⟩, trivial⟩ rfl (Cok_step rfl (Step_call 106 _ [false, true, true] [nb2, nb4] _ (Cl_func [Ptr nb2 0, Slc nb1 33 16 16] Tryd.call106 rfl) rfl (fun w1 hw1 => rawO_c nb2 nb4 40 cp2 56 .nilIface ((numK 8 e 8) ++ d) sp2 (some ⟨nb1, 33, none⟩) 16 16 t w1 (hw1.ent _ (List.mem_of_getElem? (i := 1) rfl)) (hw1.ent _ (List.mem_of_getElem? (i := 2) rfl)) (hw1.ne (i := 1) (j := 2) rfl rfl (by decide)) (show ((numK 8 e 8) ++ d).length = 40 from (by rw [List.length_append, (show (numK 8 e 8).length = 8 from (numK_len _ _ _)), hd] <;> omega)) hc4 hc5 hc6 (by omega) ht (by omega) (RdB.of hw1 (MemAt.ent 0 rfl (Seg.right 33 0 (by simp [hd]) rfl (Seg.whole _))) (by intro _; simp only [List.mem_cons, List.not_mem_nil, or_false, not_or]; exact ⟨hw1.ne (i := 0) (j := 1) rfl rfl (by decide), hw1.ne (i := 0) (j := 2) rfl rfl (by decide)⟩)) (by omega)))) ?_
  rintro v1 L1 ⟨_, ⟨rfl, nb5, sp3, cp3, rfl, hc7, hc8, hc9⟩, rfl⟩
  refine ⟨[], ?_⟩
  show DP _ _ _ _ _ _ _ _ [⟨nb1, [U64 e] ++ cu8 d ++ cu8 t, 76, (0, 0)⟩, ⟨nb2, [.nilIface, Slc nb5 0 56 cp3], 138, (0, 0)⟩, ⟨nb5, cu8 (((numK 8 e 8) ++ d) ++ t) ++ sp3, 5, (0, 0)⟩]
  refine DP_one ⟨[3, 6, 9], [0, 1, 2, 4, 5, 7, 8], [0, 1, 2, 4, 5, 7, 8], [], [10]⟩ 10 _ rfl rfl (by decide +kernel) rfl trivial rfl (Cok_step rfl (Step_callN 98 [Ptr nb2 0] _ (Cl_func [Ptr nb2 0] Tryd.call98 rfl) (fun w1 hw1 => doneO_c nb2 0 nb5 56 cp3 (((numK 8 e 8) ++ d) ++ t) w1 (RdA.of hw1 (MemAt.ent 1 rfl (Seg.whole _)) (by simp)) rfl (show (((numK 8 e 8) ++ d) ++ t).length = 56 from (by rw [List.length_append, (show ((numK 8 e 8) ++ d).length = 40 from (by rw [List.length_append, (show (numK 8 e 8).length = 8 from (numK_len _ _ _)), hd] <;> omega)), ht] <;> omega)) (by omega) (RdB.of hw1 (MemAt.ent 2 rfl (Seg.left (Seg.whole _))) (by simp))))) ?_
  rintro v1 L1 ⟨_, ⟨nb6, sp4, cp4, rfl, rfl, hc10, hc11, hc12⟩, rfl⟩
  refine ⟨[(11, .tuple #[Slc nb6 0 56 cp4, .nilIface]), (12, Slc nb6 0 56 cp4), (13, .nilIface), (14, Slc nb6 0 56 cp4), (15, .nilIface)], ?_⟩
  show DP _ _ _ _ _ _ _ _ [⟨nb1, [U64 e] ++ cu8 d ++ cu8 t, 76, (0, 0)⟩, ⟨nb2, [.nilIface, Slc nb5 0 56 cp3], 138, (0, 0)⟩, ⟨nb5, cu8 (((numK 8 e 8) ++ d) ++ t) ++ sp3, 5, (0, 0)⟩, ⟨nb6, cu8 (((numK 8 e 8) ++ d) ++ t) ++ sp4, 5, (0, 0)⟩]
  refine DP_end ⟨[3, 6, 9, 10], [0, 1, 2, 4, 5, 7, 8, 11, 12, 13, 14, 15], [0, 1, 2, 4, 5, 7, 8], [11, 12, 13, 14, 15], []⟩ rfl rfl (by decide +kernel) rfl ⟨⟨_, rfl, Qok_val rfl (Ev_move rfl)⟩, ⟨_, rfl, Qok_val rfl (Ev_extract rfl rfl)⟩, ⟨_, rfl, Qok_val rfl (Ev_extract rfl rfl)⟩, ⟨_, rfl, Qok_val rfl (Ev_assign rfl)⟩, ⟨_, rfl, Qok_val rfl (Ev_assign rfl)⟩, trivial⟩ ?_
  refine K_sub (F' := [(4, Slc nb6 0 56 cp4), (5, .nilIface), (2, .slice none 0 0)]) (Sub.cons (by kernel_rfl) (Sub.cons (by kernel_rfl) (Sub.cons (by kernel_rfl) (Sub.nil)))) ?_
  show JQ _ _ _ [(4, Slc nb6 0 56 cp4), (5, .nilIface), (2, .slice none 0 0)] _
  refine JQ_then ?_
  refine JC_seq ?_
  refine JC_seq ?_
  refine JC_region ?_
  refine JL_val _ (Ev_move rfl) rfl ?_
  refine JL_val (.bool false) (Ev_bin _ _ _ rfl rfl (fun _ => eqGuard_nn ..) fun _ => neq_if_nil_nil Tryd.underlying39) rfl ?_
  refine JL_nil ?_
  refine JQ_then ?_
  refine JC_condF _ rfl rfl ?_
  refine JC_skip ?_
  refine JQ_then ?_
  refine JC_seq ?_
  refine JC_region ?_
  refine JL_val _ (Ev_move rfl) rfl ?_
  refine JL_val _ (Ev_assign rfl) rfl ?_
  refine JL_nil ?_
  refine JQ_then ?_
  refine JC_ret ?_
  refine K_mask [false, false, false, true] ?_
  show JQ _ _ _ _ [⟨nb6, cu8 (((numK 8 e 8) ++ d) ++ t) ++ sp4, 5, (0, 0)⟩]
  refine JQ_ret (Slc nb6 0 56 cp4) (res1 Tryd.results67 (RV_tmp rfl)) fun w1 hw1 => ?_
  have hq : ((numK 8 e 8) ++ d) ++ t = putL e d t := by rw [putL]
  rw [hq] at hw1
  exact ⟨_, _, rfl, ⟨nb6, sp4, cp4, rfl, rfl, hc10, hc11, hc12⟩, hw1.sub (by simp) (by simp)⟩

theorem leafText_c (i : UInt64) (e : UInt64) (d t : List UInt8)  (w : World) (hd : d.length = 32) (ht : t.length = 16) (hx : 4 < 8 → i >>> UInt64.ofNat (8*4) = 0)  : Calls Tryd.prog 79 #[U64 i, .agg (List.toArray (α := Value) ([U64 e] ++ cu8 d ++ cu8 t))] w (Post w [] (fun v L => ∃ g sp cap, v = .tuple #[Slc g 0 61 cap, .nilIface] ∧ L = [⟨g, cu8 (leafT i e d t) ++ sp, 5, (0, 0)⟩] ∧ sp.length = cap - 61 ∧ 61 ≤ cap ∧ cap ≤ maxLen)) := by
  have hmx : maxLen = 9223372036854775807 := rfl
  refine enter (P := Tryd.prog) (f := 79) (fn := Tryd.f79) w [] 19 [] [U64 i, .agg (List.toArray (α := Value) ([U64 e] ++ cu8 d ++ cu8 t))] Tryd.func79 rfl rfl (by simp) (Hp.start (by simp) (by simp) (by simp)) ?_
  show JC _ _ _ [(0, U64 i), (1, .agg (List.toArray (α := Value) ([U64 e] ++ cu8 d ++ cu8 t)))] _
  refine JC_seq ?_
  refine JC_region ?_
  refine JL_step (Step_box (.agg (List.toArray (α := Value) ([U64 e] ++ cu8 d ++ cu8 t))) ([U64 e] ++ cu8 d ++ cu8 t) rfl (by first | rfl | simp)) rfl ?_
  rintro v1 L1 ⟨nb1, hnb1, rfl, rfl⟩
  show JL _ _ _ _ ((3, Ptr nb1 0) :: _) [⟨nb1, [U64 e] ++ cu8 d ++ cu8 t, 76, (0, 0)⟩]
  refine JL_val _ (Ev_assign rfl) rfl ?_
  refine JL_val _ (Ev_assign rfl) rfl ?_
  refine JL_nil ?_
  refine JQ_then ?_
  refine JC_seq ?_
  refine JC_region ?_
  refine JL_val (.agg (List.toArray (α := Value) ([.nilIface, .slice none 0 0]))) (Ev_build [] _ rfl (fun _ => by kernel_rfl)) rfl ?_
  refine JL_step (Step_box (.agg (List.toArray (α := Value) ([.nilIface, .slice none 0 0]))) ([.nilIface, .slice none 0 0]) rfl (by first | rfl | simp)) rfl ?_
  rintro v1 L1 ⟨nb2, hnb2, rfl, rfl⟩
  show JL _ _ _ _ ((8, Ptr nb2 0) :: _) [⟨nb1, [U64 e] ++ cu8 d ++ cu8 t, 76, (0, 0)⟩, ⟨nb2, [.nilIface, .slice none 0 0], 138, (0, 0)⟩]
  refine JL_val _ (Ev_assign rfl) rfl ?_
  refine JL_nil ?_
  refine JQ_then ?_
  refine JC_seq ?_
  refine JC_draw 19 6 [(0, Ptr nb2 0), (2, U64 i), (4, .agg (List.toArray (α := Value) ([U64 e] ++ cu8 d ++ cu8 t)))] Tryd.mixed rfl (by decide +kernel) ?_
  refine DP_one ⟨[], [0, 2, 4], [], [0, 2, 4], [1]⟩ 1 _ rfl rfl (by decide +kernel) rfl ⟨⟨_, rfl, Qok_val rfl (Ev_move rfl)⟩, ⟨_, rfl, Qok_val rfl (Ev_move rfl)⟩, ⟨_, rfl, Qok_val rfl (Ev_load rfl (Ld_agg Tryd.isAgg76 Tryd.sizeOf76 (by simp [hd, ht]) (MemAt.ent 0 rfl (Seg.whole _))))⟩, trivial⟩ rfl (Cok_step rfl (Step_call 97 _ [false, true] [nb2] _ (Cl_func [Ptr nb2 0, U64 (1:UInt64), I64 (1:Int)] Tryd.call97 rfl) rfl (fun w1 hw1 => numN_c nb2 1 .nilIface (1:UInt64) 1 w1 (hw1.ent _ (List.mem_of_getElem? (i := 1) rfl)) (by unfold Szd; omega) (fun _ => by decide) (by omega)))) ?_
  rintro v1 L1 ⟨_, ⟨rfl, nb3, sp1, cp1, rfl, hc1, hc2, hc3⟩, rfl⟩
  refine ⟨[], ?_⟩
  show DP _ _ _ _ _ _ _ _ [⟨nb1, [U64 e] ++ cu8 d ++ cu8 t, 76, (0, 0)⟩, ⟨nb2, [.nilIface, Slc nb3 0 1 cp1], 138, (0, 0)⟩, ⟨nb3, cu8 (numK 1 (1:UInt64) 1) ++ sp1, 5, (0, 0)⟩]
  refine DP_one ⟨[1], [0, 2, 4], [0], [2, 4], [3]⟩ 3 _ rfl rfl (by decide +kernel) rfl ⟨⟨_, rfl, Qok_val rfl (Ev_move rfl)⟩, ⟨_, rfl, Qok_val rfl (Ev_load rfl (Ld_agg Tryd.isAgg76 Tryd.sizeOf76 (by simp [hd, ht]) (MemAt.ent 0 rfl (Seg.whole _))))⟩, trivial⟩ rfl (Cok_step rfl (Step_call 97 _ [false, true, true] [nb2, nb3] _ (Cl_func [Ptr nb2 0, U64 i, I64 (4:Int)] Tryd.call97 rfl) rfl (fun w1 hw1 => numO_c nb2 nb3 1 cp1 5 .nilIface (numK 1 (1:UInt64) 1) sp1 i 4 w1 (hw1.ent _ (List.mem_of_getElem? (i := 1) rfl)) (hw1.ent _ (List.mem_of_getElem? (i := 2) rfl)) (hw1.ne (i := 1) (j := 2) rfl rfl (by decide)) (show (numK 1 (1:UInt64) 1).length = 1 from (numK_len _ _ _)) hc1 hc2 hc3 (by omega) (by unfold Szd; omega) hx (by omega)))) ?_
  rintro v1 L1 ⟨_, ⟨rfl, nb4, sp2, cp2, rfl, hc4, hc5, hc6⟩, rfl⟩
  refine ⟨[], ?_⟩
  show DP _ _ _ _ _ _ _ _ [⟨nb1, [U64 e] ++ cu8 d ++ cu8 t, 76, (0, 0)⟩, ⟨nb2, [.nilIface, Slc nb4 0 5 cp2], 138, (0, 0)⟩, ⟨nb4, cu8 ((numK 1 (1:UInt64) 1) ++ numK 4 i 4) ++ sp2, 5, (0, 0)⟩]
  refine DP_one ⟨[1, 3], [0, 2, 4], [0, 2], [4], [5]⟩ 5 _ rfl rfl (by decide +kernel) rfl ⟨⟨_, rfl, Qok_val rfl (Ev_load rfl (Ld_agg Tryd.isAgg76 Tryd.sizeOf76 (by simp [hd, ht]) (MemAt.ent 0 rfl (Seg.whole _))))⟩, trivial⟩ rfl (Cok_step rfl (Step_callN 67 [.agg (List.toArray (α := Value) ([U64 e] ++ cu8 d ++ cu8 t))] _ (Cl_func [.agg (List.toArray (α := Value) ([U64 e] ++ cu8 d ++ cu8 t))] Tryd.call67 rfl) (fun w1 hw1 => put7_c e d t w1 hd ht))) ?_
  rintro v1 L1 ⟨_, ⟨nb5, sp3, cp3, rfl, rfl, hc7, hc8, hc9⟩, rfl⟩
  refine ⟨[], ?_⟩
  show DP _ _ _ _ _ _ _ _ [⟨nb1, [U64 e] ++ cu8 d ++ cu8 t, 76, (0, 0)⟩, ⟨nb2, [.nilIface, Slc nb4 0 5 cp2], 138, (0, 0)⟩, ⟨nb4, cu8 ((numK 1 (1:UInt64) 1) ++ numK 4 i 4) ++ sp2, 5, (0, 0)⟩, ⟨nb5, cu8 (putL e d t) ++ sp3, 5, (0, 0)⟩]
  refine DP_one ⟨[1, 3, 5], [0, 2, 4], [0, 2, 4], [], [6]⟩ 6 _ rfl rfl (by decide +kernel) rfl trivial rfl (Cok_step rfl (Step_call 106 _ [false, true, true, false] [nb2, nb4] _ (Cl_func [Ptr nb2 0, Slc nb5 0 56 cp3] Tryd.call106 rfl) rfl (fun w1 hw1 => rawO_c nb2 nb4 5 cp2 61 .nilIface ((numK 1 (1:UInt64) 1) ++ numK 4 i 4) sp2 (some ⟨nb5, 0, none⟩) 56 cp3 (putL e d t) w1 (hw1.ent _ (List.mem_of_getElem? (i := 1) rfl)) (hw1.ent _ (List.mem_of_getElem? (i := 2) rfl)) (hw1.ne (i := 1) (j := 2) rfl rfl (by decide)) (show ((numK 1 (1:UInt64) 1) ++ numK 4 i 4).length = 5 from (by rw [List.length_append, (show (numK 1 (1:UInt64) 1).length = 1 from (numK_len _ _ _)), numK_len] <;> omega)) hc4 hc5 hc6 (by omega) (show (putL e d t).length = 56 from (putL_len hd ht)) (by omega) (RdB.of hw1 (MemAt.ent 3 rfl (Seg.left (Seg.whole _))) (by intro _; simp only [List.mem_cons, List.not_mem_nil, or_false, not_or]; exact ⟨hw1.ne (i := 3) (j := 1) rfl rfl (by decide), hw1.ne (i := 3) (j := 2) rfl rfl (by decide)⟩)) (by omega)))) ?_
  rintro v1 L1 ⟨_, ⟨rfl, nb6, sp4, cp4, rfl, hc10, hc11, hc12⟩, rfl⟩
  refine ⟨[], ?_⟩
  show DP _ _ _ _ _ _ _ _ [⟨nb1, [U64 e] ++ cu8 d ++ cu8 t, 76, (0, 0)⟩, ⟨nb5, cu8 (putL e d t) ++ sp3, 5, (0, 0)⟩, ⟨nb2, [.nilIface, Slc nb6 0 61 cp4], 138, (0, 0)⟩, ⟨nb6, cu8 (((numK 1 (1:UInt64) 1) ++ numK 4 i 4) ++ (putL e d t)) ++ sp4, 5, (0, 0)⟩]
  refine DP_one ⟨[1, 3, 5, 6], [0, 2, 4], [0, 2, 4], [], [7]⟩ 7 _ rfl rfl (by decide +kernel) rfl trivial rfl (Cok_step rfl (Step_callN 98 [Ptr nb2 0] _ (Cl_func [Ptr nb2 0] Tryd.call98 rfl) (fun w1 hw1 => doneO_c nb2 0 nb6 61 cp4 (((numK 1 (1:UInt64) 1) ++ numK 4 i 4) ++ (putL e d t)) w1 (RdA.of hw1 (MemAt.ent 2 rfl (Seg.whole _)) (by simp)) rfl (show (((numK 1 (1:UInt64) 1) ++ numK 4 i 4) ++ (putL e d t)).length = 61 from (by rw [List.length_append, (show ((numK 1 (1:UInt64) 1) ++ numK 4 i 4).length = 5 from (by rw [List.length_append, (show (numK 1 (1:UInt64) 1).length = 1 from (numK_len _ _ _)), numK_len] <;> omega)), (show (putL e d t).length = 56 from (putL_len hd ht))] <;> omega)) (by omega) (RdB.of hw1 (MemAt.ent 3 rfl (Seg.left (Seg.whole _))) (by simp))))) ?_
  rintro v1 L1 ⟨_, ⟨nb7, sp5, cp5, rfl, rfl, hc13, hc14, hc15⟩, rfl⟩
  refine ⟨[(8, Slc nb7 0 61 cp5), (9, .nilIface), (10, Slc nb7 0 61 cp5), (11, .nilIface)], ?_⟩
  show DP _ _ _ _ _ _ _ _ [⟨nb1, [U64 e] ++ cu8 d ++ cu8 t, 76, (0, 0)⟩, ⟨nb5, cu8 (putL e d t) ++ sp3, 5, (0, 0)⟩, ⟨nb2, [.nilIface, Slc nb6 0 61 cp4], 138, (0, 0)⟩, ⟨nb6, cu8 (((numK 1 (1:UInt64) 1) ++ numK 4 i 4) ++ (putL e d t)) ++ sp4, 5, (0, 0)⟩, ⟨nb7, cu8 (((numK 1 (1:UInt64) 1) ++ numK 4 i 4) ++ (putL e d t)) ++ sp5, 5, (0, 0)⟩]
  refine DP_end ⟨[1, 3, 5, 6, 7], [0, 2, 4, 8, 9, 10, 11], [0, 2, 4], [8, 9, 10, 11], []⟩ rfl rfl (by decide +kernel) rfl ⟨⟨_, rfl, Qok_val rfl (Ev_extract rfl rfl)⟩, ⟨_, rfl, Qok_val rfl (Ev_extract rfl rfl)⟩, ⟨_, rfl, Qok_val rfl (Ev_assign rfl)⟩, ⟨_, rfl, Qok_val rfl (Ev_assign rfl)⟩, trivial⟩ ?_
  refine K_sub (F' := [(4, Slc nb7 0 61 cp5), (5, .nilIface)]) (Sub.cons (by kernel_rfl) (Sub.cons (by kernel_rfl) (Sub.nil))) ?_
  show JQ _ _ _ [(4, Slc nb7 0 61 cp5), (5, .nilIface)] _
  refine JQ_then ?_
  refine JC_ret ?_
  refine K_mask [false, false, false, false, true] ?_
  show JQ _ _ _ _ [⟨nb7, cu8 (((numK 1 (1:UInt64) 1) ++ numK 4 i 4) ++ (putL e d t)) ++ sp5, 5, (0, 0)⟩]
  refine JQ_ret (.tuple #[Slc nb7 0 61 cp5, .nilIface]) (res2 Tryd.results79 (RV_tmp rfl) (RV_tmp rfl)) fun w1 hw1 => ?_
  have hq : ((numK 1 (1:UInt64) 1) ++ numK 4 i 4) ++ (putL e d t) = leafT i e d t := by rw [leafT]
  rw [hq] at hw1
  exact ⟨_, _, rfl, ⟨nb7, sp5, cp5, rfl, rfl, hc13, hc14, hc15⟩, hw1.sub (by simp) (by simp)⟩

theorem leafTextB_c (i : UInt64) (e : UInt64) (d t : List UInt8)  (w : World) (hd : d.length = 32) (ht : t.length = 16) (hx : i >>> UInt64.ofNat (8*4) ≠ 0)  : Calls Tryd.prog 79 #[U64 i, .agg (List.toArray (α := Value) ([U64 e] ++ cu8 d ++ cu8 t))] w (Post w [] (fun v L => v = .tuple #[.slice none 0 0, .iface 43 (I64 1)] ∧ L = [])) := by
  have hmx : maxLen = 9223372036854775807 := rfl
  refine enter (P := Tryd.prog) (f := 79) (fn := Tryd.f79) w [] 19 [] [U64 i, .agg (List.toArray (α := Value) ([U64 e] ++ cu8 d ++ cu8 t))] Tryd.func79 rfl rfl (by simp) (Hp.start (by simp) (by simp) (by simp)) ?_
  show JC _ _ _ [(0, U64 i), (1, .agg (List.toArray (α := Value) ([U64 e] ++ cu8 d ++ cu8 t)))] _
  refine JC_seq ?_
  refine JC_region ?_
  refine JL_step (Step_box (.agg (List.toArray (α := Value) ([U64 e] ++ cu8 d ++ cu8 t))) ([U64 e] ++ cu8 d ++ cu8 t) rfl (by first | rfl | simp)) rfl ?_
  rintro v1 L1 ⟨nb1, hnb1, rfl, rfl⟩
  show JL _ _ _ _ ((3, Ptr nb1 0) :: _) [⟨nb1, [U64 e] ++ cu8 d ++ cu8 t, 76, (0, 0)⟩]
  refine JL_val _ (Ev_assign rfl) rfl ?_
  refine JL_val _ (Ev_assign rfl) rfl ?_
  refine JL_nil ?_
  refine JQ_then ?_
  refine JC_seq ?_
  refine JC_region ?_
  refine JL_val (.agg (List.toArray (α := Value) ([.nilIface, .slice none 0 0]))) (Ev_build [] _ rfl (fun _ => by kernel_rfl)) rfl ?_
  refine JL_step (Step_box (.agg (List.toArray (α := Value) ([.nilIface, .slice none 0 0]))) ([.nilIface, .slice none 0 0]) rfl (by first | rfl | simp)) rfl ?_
  rintro v1 L1 ⟨nb2, hnb2, rfl, rfl⟩
  show JL _ _ _ _ ((8, Ptr nb2 0) :: _) [⟨nb1, [U64 e] ++ cu8 d ++ cu8 t, 76, (0, 0)⟩, ⟨nb2, [.nilIface, .slice none 0 0], 138, (0, 0)⟩]
  refine JL_val _ (Ev_assign rfl) rfl ?_
  refine JL_nil ?_
  refine JQ_then ?_
  refine JC_seq ?_
  refine JC_draw 19 6 [(0, Ptr nb2 0), (2, U64 i), (4, .agg (List.toArray (α := Value) ([U64 e] ++ cu8 d ++ cu8 t)))] Tryd.mixed rfl (by decide +kernel) ?_
  refine DP_one ⟨[], [0, 2, 4], [], [0, 2, 4], [1]⟩ 1 _ rfl rfl (by decide +kernel) rfl ⟨⟨_, rfl, Qok_val rfl (Ev_move rfl)⟩, ⟨_, rfl, Qok_val rfl (Ev_move rfl)⟩, ⟨_, rfl, Qok_val rfl (Ev_load rfl (Ld_agg Tryd.isAgg76 Tryd.sizeOf76 (by simp [hd, ht]) (MemAt.ent 0 rfl (Seg.whole _))))⟩, trivial⟩ rfl (Cok_step rfl (Step_call 97 _ [false, true] [nb2] _ (Cl_func [Ptr nb2 0, U64 (1:UInt64), I64 (1:Int)] Tryd.call97 rfl) rfl (fun w1 hw1 => numN_c nb2 1 .nilIface (1:UInt64) 1 w1 (hw1.ent _ (List.mem_of_getElem? (i := 1) rfl)) (by unfold Szd; omega) (fun _ => by decide) (by omega)))) ?_
  rintro v1 L1 ⟨_, ⟨rfl, nb3, sp1, cp1, rfl, hc1, hc2, hc3⟩, rfl⟩
  refine ⟨[], ?_⟩
  show DP _ _ _ _ _ _ _ _ [⟨nb1, [U64 e] ++ cu8 d ++ cu8 t, 76, (0, 0)⟩, ⟨nb2, [.nilIface, Slc nb3 0 1 cp1], 138, (0, 0)⟩, ⟨nb3, cu8 (numK 1 (1:UInt64) 1) ++ sp1, 5, (0, 0)⟩]
  refine DP_one ⟨[1], [0, 2, 4], [0], [2, 4], [3]⟩ 3 _ rfl rfl (by decide +kernel) rfl ⟨⟨_, rfl, Qok_val rfl (Ev_move rfl)⟩, ⟨_, rfl, Qok_val rfl (Ev_load rfl (Ld_agg Tryd.isAgg76 Tryd.sizeOf76 (by simp [hd, ht]) (MemAt.ent 0 rfl (Seg.whole _))))⟩, trivial⟩ rfl (Cok_step rfl (Step_callW 97 [Ptr nb2 0, U64 i, I64 (4:Int)] 1 ⟨nb2, [.nilIface, Slc nb3 0 1 cp1], 138, (0, 0)⟩ _ (fun v e' l' => v = Ptr nb2 0 ∧ e' = ⟨nb2, [errV 43 (erN 0 1), Slc nb3 0 1 cp1], 138, (0, 0)⟩ ∧ l' = []) (Cl_func [Ptr nb2 0, U64 i, I64 (4:Int)] Tryd.call97 rfl) rfl (by rintro v l ⟨rfl, rfl⟩; exact ⟨_, _, rfl, rfl, rfl, rfl, rfl⟩) (fun w1 hw1 => numB2_c nb2 0 (Slc nb3 0 1 cp1) i 4 w1 (hw1.ent _ (List.mem_of_getElem? (i := 1) rfl)) (by unfold Szd; omega) (by decide) hx))) ?_
  rintro v1 L1 ⟨_, _, ⟨rfl, rfl, rfl⟩, rfl⟩
  refine ⟨[], ?_⟩
  show DP _ _ _ _ _ _ _ _ [⟨nb1, [U64 e] ++ cu8 d ++ cu8 t, 76, (0, 0)⟩, ⟨nb2, [errV 43 (erN 0 1), Slc nb3 0 1 cp1], 138, (0, 0)⟩, ⟨nb3, cu8 (numK 1 (1:UInt64) 1) ++ sp1, 5, (0, 0)⟩]
  refine DP_one ⟨[1, 3], [0, 2, 4], [0, 2], [4], [5]⟩ 5 _ rfl rfl (by decide +kernel) rfl ⟨⟨_, rfl, Qok_val rfl (Ev_load rfl (Ld_agg Tryd.isAgg76 Tryd.sizeOf76 (by simp [hd, ht]) (MemAt.ent 0 rfl (Seg.whole _))))⟩, trivial⟩ rfl (Cok_step rfl (Step_callN 67 [.agg (List.toArray (α := Value) ([U64 e] ++ cu8 d ++ cu8 t))] _ (Cl_func [.agg (List.toArray (α := Value) ([U64 e] ++ cu8 d ++ cu8 t))] Tryd.call67 rfl) (fun w1 hw1 => put7_c e d t w1 hd ht))) ?_
  rintro v1 L1 ⟨_, ⟨nb4, sp2, cp2, rfl, rfl, hc4, hc5, hc6⟩, rfl⟩
  refine ⟨[], ?_⟩
  show DP _ _ _ _ _ _ _ _ [⟨nb1, [U64 e] ++ cu8 d ++ cu8 t, 76, (0, 0)⟩, ⟨nb2, [errV 43 (erN 0 1), Slc nb3 0 1 cp1], 138, (0, 0)⟩, ⟨nb3, cu8 (numK 1 (1:UInt64) 1) ++ sp1, 5, (0, 0)⟩, ⟨nb4, cu8 (putL e d t) ++ sp2, 5, (0, 0)⟩]
  refine DP_one ⟨[1, 3, 5], [0, 2, 4], [0, 2, 4], [], [6]⟩ 6 _ rfl rfl (by decide +kernel) rfl trivial rfl (Cok_step rfl (Step_call 106 _ [false, true, true, false] [nb2, nb3] _ (Cl_func [Ptr nb2 0, Slc nb4 0 56 cp2] Tryd.call106 rfl) rfl (fun w1 hw1 => rawO_c nb2 nb3 1 cp1 57 (errV 43 (erN 0 1)) (numK 1 (1:UInt64) 1) sp1 (some ⟨nb4, 0, none⟩) 56 cp2 (putL e d t) w1 (hw1.ent _ (List.mem_of_getElem? (i := 1) rfl)) (hw1.ent _ (List.mem_of_getElem? (i := 2) rfl)) (hw1.ne (i := 1) (j := 2) rfl rfl (by decide)) (show (numK 1 (1:UInt64) 1).length = 1 from (numK_len _ _ _)) hc1 hc2 hc3 (by omega) (show (putL e d t).length = 56 from (putL_len hd ht)) (by omega) (RdB.of hw1 (MemAt.ent 3 rfl (Seg.left (Seg.whole _))) (by intro _; simp only [List.mem_cons, List.not_mem_nil, or_false, not_or]; exact ⟨hw1.ne (i := 3) (j := 1) rfl rfl (by decide), hw1.ne (i := 3) (j := 2) rfl rfl (by decide)⟩)) (by omega)))) ?_
  rintro v1 L1 ⟨_, ⟨rfl, nb5, sp3, cp3, rfl, hc7, hc8, hc9⟩, rfl⟩
  refine ⟨[], ?_⟩
  show DP _ _ _ _ _ _ _ _ [⟨nb1, [U64 e] ++ cu8 d ++ cu8 t, 76, (0, 0)⟩, ⟨nb4, cu8 (putL e d t) ++ sp2, 5, (0, 0)⟩, ⟨nb2, [errV 43 (erN 0 1), Slc nb5 0 57 cp3], 138, (0, 0)⟩, ⟨nb5, cu8 ((numK 1 (1:UInt64) 1) ++ (putL e d t)) ++ sp3, 5, (0, 0)⟩]
  refine DP_one ⟨[1, 3, 5, 6], [0, 2, 4], [0, 2, 4], [], [7]⟩ 7 _ rfl rfl (by decide +kernel) rfl trivial rfl (Cok_step rfl (Step_callP 98 [Ptr nb2 0] (.tuple #[.slice none 0 0, errV 43 (erN 0 1)]) (Cl_func [Ptr nb2 0] Tryd.call98 rfl) (fun w1 hw1 => doneE_c nb2 (erN 0 1) (Slc nb5 0 57 cp3) w1 (RdA.of hw1 (MemAt.ent 2 rfl (Seg.whole _)) (by simp)) (by decide)))) ?_
  rintro v1 L1 ⟨rfl, rfl⟩
  refine ⟨[(8, .slice none 0 0), (9, errV 43 (erN 0 1)), (10, .slice none 0 0), (11, errV 43 (erN 0 1))], ?_⟩
  show DP _ _ _ _ _ _ _ _ [⟨nb1, [U64 e] ++ cu8 d ++ cu8 t, 76, (0, 0)⟩, ⟨nb4, cu8 (putL e d t) ++ sp2, 5, (0, 0)⟩, ⟨nb2, [errV 43 (erN 0 1), Slc nb5 0 57 cp3], 138, (0, 0)⟩, ⟨nb5, cu8 ((numK 1 (1:UInt64) 1) ++ (putL e d t)) ++ sp3, 5, (0, 0)⟩]
  refine DP_end ⟨[1, 3, 5, 6, 7], [0, 2, 4, 8, 9, 10, 11], [0, 2, 4], [8, 9, 10, 11], []⟩ rfl rfl (by decide +kernel) rfl ⟨⟨_, rfl, Qok_val rfl (Ev_extract rfl rfl)⟩, ⟨_, rfl, Qok_val rfl (Ev_extract rfl rfl)⟩, ⟨_, rfl, Qok_val rfl (Ev_assign rfl)⟩, ⟨_, rfl, Qok_val rfl (Ev_assign rfl)⟩, trivial⟩ ?_
  refine K_sub (F' := [(4, .slice none 0 0), (5, errV 43 (erN 0 1))]) (Sub.cons (by kernel_rfl) (Sub.cons (by kernel_rfl) (Sub.nil))) ?_
  show JQ _ _ _ [(4, .slice none 0 0), (5, errV 43 (erN 0 1))] _
  refine JQ_then ?_
  refine JC_ret ?_
  refine K_mask [false, false, false, false] ?_
  show JQ _ _ _ _ []
  refine JQ_ret (.tuple #[.slice none 0 0, errV 43 (erN 0 1)]) (res2 Tryd.results79 (RV_tmp rfl) (RV_tmp rfl)) fun w1 hw1 => ?_
  exact ⟨_, [], rfl, ⟨rfl, rfl⟩, hw1.sub (by simp) (by simp)⟩

theorem joinTextB_c (h : Int) (l r : List UInt8) (w : World) (hl : l.length = 32) (hr : r.length = 32) (hh : h < 1 ∨ 32 < h) : Calls Tryd.prog 71 #[I64 (h), .agg (cu8 l).toArray, .agg (cu8 r).toArray] w (Post w [] (fun v L => v = .tuple #[.slice none 0 0, .iface 43 (I64 1)] ∧ L = [])) := by
  refine enter w [] 30 [] [I64 (h), .agg (cu8 l).toArray, .agg (cu8 r).toArray] Tryd.func71 rfl rfl (by simp) (Hp.start (by simp) (by simp) (by simp)) ?_
  show JC _ _ _ [(0, I64 (h)), (1, .agg (cu8 l).toArray), (2, .agg (cu8 r).toArray)] _
  refine JC_seq ?_
  refine JC_region ?_
  refine JL_step (Step_box (.agg (cu8 l).toArray) (cu8 l) rfl (by first | rfl | simp)) rfl ?_
  rintro v1 L1 ⟨nb1, hnb1, rfl, rfl⟩
  show JL _ _ _ _ ((4, Ptr nb1 0) :: _) [⟨nb1, cu8 l, 25, (0, 0)⟩]
  refine JL_step (Step_box (.agg (cu8 r).toArray) (cu8 r) rfl (by first | rfl | simp)) rfl ?_
  rintro v1 L1 ⟨nb2, hnb2, rfl, rfl⟩
  show JL _ _ _ _ ((5, Ptr nb2 0) :: _) [⟨nb1, cu8 l, 25, (0, 0)⟩, ⟨nb2, cu8 r, 25, (0, 0)⟩]
  refine JL_val _ (Ev_assign rfl) rfl ?_
  refine JL_val _ (Ev_assign rfl) rfl ?_
  refine JL_nil ?_
  refine JQ_then ?_
  refine JC_seq ?_
  refine JC_seq ?_
  refine JC_region ?_
  refine JL_val _ (Ev_move rfl) rfl ?_
  refine JL_val (.bool (decide ((h) < (1:Int)))) (Ev_bini rfl rfl fun _ => bin_lss_i _ _) rfl ?_
  refine JL_val _ (Ev_move rfl) rfl ?_
  rcases Bool.eq_false_or_eq_true (decide ((h) < (1:Int))) with hb1 | hb1
  ·
    have hp1 : (h) < (1:Int) := of_decide_eq_true hb1
    refine JL_gskip 2 11 false _ rfl rfl hb1 rfl ?_
    refine JL_gskip 2 11 false _ rfl rfl hb1 rfl ?_
    refine JL_val _ (Ev_pickT _ rfl hb1 rfl) rfl ?_
    refine JL_nil ?_
    refine JQ_then ?_
    refine JC_condT _ rfl rfl ?_
    refine JC_seq ?_
    refine JC_region ?_
    refine JL_val (.iface 43 (I64 (1:Int))) (Ev_iface Tryd.underlying43 rfl rfl) rfl ?_
    refine JL_val _ (Ev_assign rfl) rfl ?_
    refine JL_val _ (Ev_assign rfl) rfl ?_
    refine JL_nil ?_
    refine JQ_then ?_
    refine JC_ret ?_
    refine JQ_then_ret ?_
    refine K_mask [false, false] ?_
    show JQ _ _ _ _ []
    refine JQ_ret (.tuple #[.slice none 0 0, .iface 43 (I64 (1:Int))]) (res2 Tryd.results71 (RV_tmp rfl) (RV_tmp rfl)) fun w1 hw1 => ?_
    exact ⟨_, [], rfl, ⟨rfl, rfl⟩, hw1.sub (by simp) (by simp)⟩
  ·
    have hp1 : ¬ ((h) < (1:Int)) := of_decide_eq_false hb1
    refine JL_gval 2 11 false _ _ rfl rfl hb1 (Ev_move rfl) rfl ?_
    refine JL_gval 2 11 false _ (.bool (decide ((32:Int) < (h)))) rfl rfl hb1 (Ev_bini rfl rfl fun _ => bin_gtr_i _ _) rfl ?_
    refine JL_val _ (Ev_pickF _ rfl hb1 rfl) rfl ?_
    refine JL_nil ?_
    refine JQ_then ?_
    refine JC_cond (decide ((32:Int) < (h))) rfl (fun hb2 => ?_) (fun hb2 => ?_)
    ·
      have hp2 : (32:Int) < (h) := of_decide_eq_true hb2
      refine JC_seq ?_
      refine JC_region ?_
      refine JL_val (.iface 43 (I64 (1:Int))) (Ev_iface Tryd.underlying43 rfl rfl) rfl ?_
      refine JL_val _ (Ev_assign rfl) rfl ?_
      refine JL_val _ (Ev_assign rfl) rfl ?_
      refine JL_nil ?_
      refine JQ_then ?_
      refine JC_ret ?_
      refine JQ_then_ret ?_
      refine K_mask [false, false] ?_
      show JQ _ _ _ _ []
      refine JQ_ret (.tuple #[.slice none 0 0, .iface 43 (I64 (1:Int))]) (res2 Tryd.results71 (RV_tmp rfl) (RV_tmp rfl)) fun w1 hw1 => ?_
      exact ⟨_, [], rfl, ⟨rfl, rfl⟩, hw1.sub (by simp) (by simp)⟩
    ·
      have hp2 : ¬ ((32:Int) < (h)) := of_decide_eq_false hb2
      exfalso; omega

theorem joinText_c (h : Nat) (l r : List UInt8) (w : World) (hl : l.length = 32) (hr : r.length = 32) (h1 : 1 ≤ h) (h2 : h ≤ 32) : Calls Tryd.prog 71 #[I64 ((h:Int)), .agg (cu8 l).toArray, .agg (cu8 r).toArray] w (Post w [] (fun v L => ∃ g sp cap, v = .tuple #[Slc g 0 66 cap, .nilIface] ∧ L = [⟨g, cu8 (joinT h l r) ++ sp, 5, (0, 0)⟩] ∧ sp.length = cap - 66 ∧ 66 ≤ cap ∧ cap ≤ maxLen)) := by
  have hmx : maxLen = 9223372036854775807 := rfl
  refine enter w [] 30 [] [I64 ((h:Int)), .agg (cu8 l).toArray, .agg (cu8 r).toArray] Tryd.func71 rfl rfl (by simp) (Hp.start (by simp) (by simp) (by simp)) ?_
  show JC _ _ _ [(0, I64 ((h:Int))), (1, .agg (cu8 l).toArray), (2, .agg (cu8 r).toArray)] _
  refine JC_seq ?_
  refine JC_region ?_
  refine JL_step (Step_box (.agg (cu8 l).toArray) (cu8 l) rfl (by first | rfl | simp)) rfl ?_
  rintro v1 L1 ⟨nb1, hnb1, rfl, rfl⟩
  show JL _ _ _ _ ((4, Ptr nb1 0) :: _) [⟨nb1, cu8 l, 25, (0, 0)⟩]
  refine JL_step (Step_box (.agg (cu8 r).toArray) (cu8 r) rfl (by first | rfl | simp)) rfl ?_
  rintro v1 L1 ⟨nb2, hnb2, rfl, rfl⟩
  show JL _ _ _ _ ((5, Ptr nb2 0) :: _) [⟨nb1, cu8 l, 25, (0, 0)⟩, ⟨nb2, cu8 r, 25, (0, 0)⟩]
  refine JL_val _ (Ev_assign rfl) rfl ?_
  refine JL_val _ (Ev_assign rfl) rfl ?_
  refine JL_nil ?_
  refine JQ_then ?_
  refine JC_seq ?_
  refine JC_seq ?_
  refine JC_region ?_
  refine JL_val _ (Ev_move rfl) rfl ?_
  refine JL_val (.bool (decide (((h:Int)) < (1:Int)))) (Ev_bini rfl rfl fun _ => bin_lss_i _ _) rfl ?_
  refine JL_val _ (Ev_move rfl) rfl ?_
  refine JL_gval 2 11 false _ _ rfl rfl (decide_eq_false (by omega)) (Ev_move rfl) rfl ?_
  refine JL_gval 2 11 false _ (.bool (decide ((32:Int) < ((h:Int))))) rfl rfl (decide_eq_false (by omega)) (Ev_bini rfl rfl fun _ => bin_gtr_i _ _) rfl ?_
  refine JL_val _ (Ev_pickF _ rfl (decide_eq_false (by omega)) rfl) rfl ?_
  refine JL_nil ?_
  refine JQ_then ?_
  refine JC_condF _ rfl (decide_eq_false (by omega)) ?_
  refine JC_skip ?_
  refine JQ_then ?_
  refine JC_seq ?_
  refine JC_region ?_
  refine JL_val (.agg (List.toArray (α := Value) ([.nilIface, .slice none 0 0]))) (Ev_build [] _ rfl (fun _ => by kernel_rfl)) rfl ?_
  refine JL_step (Step_box (.agg (List.toArray (α := Value) ([.nilIface, .slice none 0 0]))) ([.nilIface, .slice none 0 0]) rfl (by first | rfl | simp)) rfl ?_
  rintro v1 L1 ⟨nb3, hnb3, rfl, rfl⟩
  show JL _ _ _ _ ((17, Ptr nb3 0) :: _) [⟨nb1, cu8 l, 25, (0, 0)⟩, ⟨nb2, cu8 r, 25, (0, 0)⟩, ⟨nb3, [.nilIface, .slice none 0 0], 138, (0, 0)⟩]
  refine JL_val _ (Ev_assign rfl) rfl ?_
  refine JL_nil ?_
  refine JQ_then ?_
  refine JC_seq ?_
  refine JC_draw 30 6 [(0, Ptr nb3 0), (2, I64 ((h:Int))), (3, U64 (UInt64.ofNat h)), (5, .agg (cu8 l).toArray), (7, .agg (cu8 r).toArray)] Tryd.mixed rfl (by decide +kernel) ?_
  refine DP_one ⟨[], [0, 2, 3, 5, 7], [], [0, 2, 3, 5, 7], [1]⟩ 1 _ rfl rfl (by decide +kernel) rfl ⟨⟨_, rfl, Qok_val rfl (Ev_move rfl)⟩, ⟨_, rfl, Qok_val rfl (Ev_move rfl)⟩, ⟨_, rfl, Qok_val rfl (Ev_conv _ _ rfl fun _ => conv_i64_u64 (by rw [Tryd.underlying3]; rfl) Tryd.underlying58 h _ (by omega))⟩, ⟨_, rfl, Qok_val rfl (Ev_load rfl (Ld_agg Tryd.isAgg25 Tryd.sizeOf25 (len_cu8 hl) (MemAt.ent 0 rfl (Seg.whole _))))⟩, ⟨_, rfl, Qok_val rfl (Ev_load rfl (Ld_agg Tryd.isAgg25 Tryd.sizeOf25 (len_cu8 hr) (MemAt.ent 1 rfl (Seg.whole _))))⟩, trivial⟩ rfl (Cok_step rfl (Step_call 97 _ [false, false, true] [nb3] _ (Cl_func [Ptr nb3 0, U64 (2:UInt64), I64 (1:Int)] Tryd.call97 rfl) rfl (fun w1 hw1 => numN_c nb3 1 .nilIface (2:UInt64) 1 w1 (hw1.ent _ (List.mem_of_getElem? (i := 2) rfl)) (by unfold Szd; omega) (fun _ => by decide) (by omega)))) ?_
  rintro v1 L1 ⟨_, ⟨rfl, nb4, sp1, cp1, rfl, hc1, hc2, hc3⟩, rfl⟩
  refine ⟨[], ?_⟩
  show DP _ _ _ _ _ _ _ _ [⟨nb1, cu8 l, 25, (0, 0)⟩, ⟨nb2, cu8 r, 25, (0, 0)⟩, ⟨nb3, [.nilIface, Slc nb4 0 1 cp1], 138, (0, 0)⟩, ⟨nb4, cu8 (numK 1 (2:UInt64) 1) ++ sp1, 5, (0, 0)⟩]
  refine DP_one ⟨[1], [0, 2, 3, 5, 7], [0], [2, 3, 5, 7], [4]⟩ 4 _ rfl rfl (by decide +kernel) rfl ⟨⟨_, rfl, Qok_val rfl (Ev_move rfl)⟩, ⟨_, rfl, Qok_val rfl (Ev_conv _ _ rfl fun _ => conv_i64_u64 (by rw [Tryd.underlying3]; rfl) Tryd.underlying58 h _ (by omega))⟩, ⟨_, rfl, Qok_val rfl (Ev_load rfl (Ld_agg Tryd.isAgg25 Tryd.sizeOf25 (len_cu8 hl) (MemAt.ent 0 rfl (Seg.whole _))))⟩, ⟨_, rfl, Qok_val rfl (Ev_load rfl (Ld_agg Tryd.isAgg25 Tryd.sizeOf25 (len_cu8 hr) (MemAt.ent 1 rfl (Seg.whole _))))⟩, trivial⟩ rfl (Cok_step rfl (Step_call 97 _ [false, false, true, true] [nb3, nb4] _ (Cl_func [Ptr nb3 0, U64 (UInt64.ofNat h), I64 (1:Int)] Tryd.call97 rfl) rfl (fun w1 hw1 => numO_c nb3 nb4 1 cp1 2 .nilIface (numK 1 (2:UInt64) 1) sp1 (UInt64.ofNat h) 1 w1 (hw1.ent _ (List.mem_of_getElem? (i := 2) rfl)) (hw1.ent _ (List.mem_of_getElem? (i := 3) rfl)) (hw1.ne (i := 2) (j := 3) rfl rfl (by decide)) (show (numK 1 (2:UInt64) 1).length = 1 from (numK_len _ _ _)) hc1 hc2 hc3 (by omega) (by unfold Szd; omega) (fun _ => shr8 (by omega)) (by omega)))) ?_
  rintro v1 L1 ⟨_, ⟨rfl, nb5, sp2, cp2, rfl, hc4, hc5, hc6⟩, rfl⟩
  refine ⟨[], ?_⟩
  show DP _ _ _ _ _ _ _ _ [⟨nb1, cu8 l, 25, (0, 0)⟩, ⟨nb2, cu8 r, 25, (0, 0)⟩, ⟨nb3, [.nilIface, Slc nb5 0 2 cp2], 138, (0, 0)⟩, ⟨nb5, cu8 ((numK 1 (2:UInt64) 1) ++ numK 1 (UInt64.ofNat h) 1) ++ sp2, 5, (0, 0)⟩]
  refine DP_one ⟨[1, 4], [0, 2, 3, 5, 7], [0, 2, 3], [5, 7], [6]⟩ 6 _ rfl rfl (by decide +kernel) rfl ⟨⟨_, rfl, Qok_val rfl (Ev_load rfl (Ld_agg Tryd.isAgg25 Tryd.sizeOf25 (len_cu8 hl) (MemAt.ent 0 rfl (Seg.whole _))))⟩, ⟨_, rfl, Qok_val rfl (Ev_load rfl (Ld_agg Tryd.isAgg25 Tryd.sizeOf25 (len_cu8 hr) (MemAt.ent 1 rfl (Seg.whole _))))⟩, trivial⟩ rfl (Cok_step rfl (Step_call 111 _ [false, false, true, true] [nb3, nb5] _ (Cl_func [Ptr nb3 0, .agg (cu8 l).toArray] Tryd.call111 rfl) rfl (fun w1 hw1 => hashO_c nb3 nb5 2 cp2 34 .nilIface ((numK 1 (2:UInt64) 1) ++ numK 1 (UInt64.ofNat h) 1) sp2 l w1 (hw1.ent _ (List.mem_of_getElem? (i := 2) rfl)) (hw1.ent _ (List.mem_of_getElem? (i := 3) rfl)) (hw1.ne (i := 2) (j := 3) rfl rfl (by decide)) (show ((numK 1 (2:UInt64) 1) ++ numK 1 (UInt64.ofNat h) 1).length = 2 from (by rw [List.length_append, (show (numK 1 (2:UInt64) 1).length = 1 from (numK_len _ _ _)), numK_len] <;> omega)) hc4 hc5 hc6 (by omega) hl (by omega)))) ?_
  rintro v1 L1 ⟨_, ⟨rfl, nb6, sp3, cp3, rfl, hc7, hc8, hc9⟩, rfl⟩
  refine ⟨[], ?_⟩
  show DP _ _ _ _ _ _ _ _ [⟨nb1, cu8 l, 25, (0, 0)⟩, ⟨nb2, cu8 r, 25, (0, 0)⟩, ⟨nb3, [.nilIface, Slc nb6 0 34 cp3], 138, (0, 0)⟩, ⟨nb6, cu8 (((numK 1 (2:UInt64) 1) ++ numK 1 (UInt64.ofNat h) 1) ++ l) ++ sp3, 5, (0, 0)⟩]
  refine DP_one ⟨[1, 4, 6], [0, 2, 3, 5, 7], [0, 2, 3, 5], [7], [8]⟩ 8 _ rfl rfl (by decide +kernel) rfl ⟨⟨_, rfl, Qok_val rfl (Ev_load rfl (Ld_agg Tryd.isAgg25 Tryd.sizeOf25 (len_cu8 hr) (MemAt.ent 1 rfl (Seg.whole _))))⟩, trivial⟩ rfl (Cok_step rfl (Step_call 111 _ [false, false, true, true] [nb3, nb6] _ (Cl_func [Ptr nb3 0, .agg (cu8 r).toArray] Tryd.call111 rfl) rfl (fun w1 hw1 => hashO_c nb3 nb6 34 cp3 66 .nilIface (((numK 1 (2:UInt64) 1) ++ numK 1 (UInt64.ofNat h) 1) ++ l) sp3 r w1 (hw1.ent _ (List.mem_of_getElem? (i := 2) rfl)) (hw1.ent _ (List.mem_of_getElem? (i := 3) rfl)) (hw1.ne (i := 2) (j := 3) rfl rfl (by decide)) (show (((numK 1 (2:UInt64) 1) ++ numK 1 (UInt64.ofNat h) 1) ++ l).length = 34 from (by rw [List.length_append, (show ((numK 1 (2:UInt64) 1) ++ numK 1 (UInt64.ofNat h) 1).length = 2 from (by rw [List.length_append, (show (numK 1 (2:UInt64) 1).length = 1 from (numK_len _ _ _)), numK_len] <;> omega)), hl] <;> omega)) hc7 hc8 hc9 (by omega) hr (by omega)))) ?_
  rintro v1 L1 ⟨_, ⟨rfl, nb7, sp4, cp4, rfl, hc10, hc11, hc12⟩, rfl⟩
  refine ⟨[], ?_⟩
  show DP _ _ _ _ _ _ _ _ [⟨nb1, cu8 l, 25, (0, 0)⟩, ⟨nb2, cu8 r, 25, (0, 0)⟩, ⟨nb3, [.nilIface, Slc nb7 0 66 cp4], 138, (0, 0)⟩, ⟨nb7, cu8 ((((numK 1 (2:UInt64) 1) ++ numK 1 (UInt64.ofNat h) 1) ++ l) ++ r) ++ sp4, 5, (0, 0)⟩]
  refine DP_one ⟨[1, 4, 6, 8], [0, 2, 3, 5, 7], [0, 2, 3, 5, 7], [], [9]⟩ 9 _ rfl rfl (by decide +kernel) rfl trivial rfl (Cok_step rfl (Step_callN 98 [Ptr nb3 0] _ (Cl_func [Ptr nb3 0] Tryd.call98 rfl) (fun w1 hw1 => doneO_c nb3 0 nb7 66 cp4 ((((numK 1 (2:UInt64) 1) ++ numK 1 (UInt64.ofNat h) 1) ++ l) ++ r) w1 (RdA.of hw1 (MemAt.ent 2 rfl (Seg.whole _)) (by simp)) rfl (show ((((numK 1 (2:UInt64) 1) ++ numK 1 (UInt64.ofNat h) 1) ++ l) ++ r).length = 66 from (by rw [List.length_append, (show (((numK 1 (2:UInt64) 1) ++ numK 1 (UInt64.ofNat h) 1) ++ l).length = 34 from (by rw [List.length_append, (show ((numK 1 (2:UInt64) 1) ++ numK 1 (UInt64.ofNat h) 1).length = 2 from (by rw [List.length_append, (show (numK 1 (2:UInt64) 1).length = 1 from (numK_len _ _ _)), numK_len] <;> omega)), hl] <;> omega)), hr] <;> omega)) (by omega) (RdB.of hw1 (MemAt.ent 3 rfl (Seg.left (Seg.whole _))) (by simp))))) ?_
  rintro v1 L1 ⟨_, ⟨nb8, sp5, cp5, rfl, rfl, hc13, hc14, hc15⟩, rfl⟩
  refine ⟨[(10, Slc nb8 0 66 cp5), (11, .nilIface), (12, Slc nb8 0 66 cp5), (13, .nilIface)], ?_⟩
  show DP _ _ _ _ _ _ _ _ [⟨nb1, cu8 l, 25, (0, 0)⟩, ⟨nb2, cu8 r, 25, (0, 0)⟩, ⟨nb3, [.nilIface, Slc nb7 0 66 cp4], 138, (0, 0)⟩, ⟨nb7, cu8 ((((numK 1 (2:UInt64) 1) ++ numK 1 (UInt64.ofNat h) 1) ++ l) ++ r) ++ sp4, 5, (0, 0)⟩, ⟨nb8, cu8 ((((numK 1 (2:UInt64) 1) ++ numK 1 (UInt64.ofNat h) 1) ++ l) ++ r) ++ sp5, 5, (0, 0)⟩]
  refine DP_end ⟨[1, 4, 6, 8, 9], [0, 2, 3, 5, 7, 10, 11, 12, 13], [0, 2, 3, 5, 7], [10, 11, 12, 13], []⟩ rfl rfl (by decide +kernel) rfl ⟨⟨_, rfl, Qok_val rfl (Ev_extract rfl rfl)⟩, ⟨_, rfl, Qok_val rfl (Ev_extract rfl rfl)⟩, ⟨_, rfl, Qok_val rfl (Ev_assign rfl)⟩, ⟨_, rfl, Qok_val rfl (Ev_assign rfl)⟩, trivial⟩ ?_
  refine K_sub (F' := [(6, Slc nb8 0 66 cp5), (7, .nilIface)]) (Sub.cons (by kernel_rfl) (Sub.cons (by kernel_rfl) (Sub.nil))) ?_
  show JQ _ _ _ [(6, Slc nb8 0 66 cp5), (7, .nilIface)] _
  refine JQ_then ?_
  refine JC_ret ?_
  refine K_mask [false, false, false, false, true] ?_
  show JQ _ _ _ _ [⟨nb8, cu8 ((((numK 1 (2:UInt64) 1) ++ numK 1 (UInt64.ofNat h) 1) ++ l) ++ r) ++ sp5, 5, (0, 0)⟩]
  refine JQ_ret (.tuple #[Slc nb8 0 66 cp5, .nilIface]) (res2 Tryd.results71 (RV_tmp rfl) (RV_tmp rfl)) fun w1 hw1 => ?_
  have hq : (((numK 1 (2:UInt64) 1) ++ numK 1 (UInt64.ofNat h) 1) ++ l) ++ r = joinT h l r := by rw [joinT]
  rw [hq] at hw1
  exact ⟨_, _, rfl, ⟨nb8, sp5, cp5, rfl, rfl, hc13, hc14, hc15⟩, hw1.sub (by simp) (by simp)⟩

theorem hashed_c (az : Option Addr) (n cz : Nat) (z : List UInt8) (w : World) (ha : az.isNone = false) (hz : z.length = n) (hn : n ≤ 1000000) (hr : RdB w [] az z) (hG : GLs w) : Calls Tryd.prog 110 #[.slice az n cz, .nilIface] w (Post w [] (fun v L => v = .tuple #[.agg (cu8 (sumG constL initL z)).toArray, .nilIface] ∧ L = [])) := by
  have hmx : maxLen = 9223372036854775807 := rfl
  refine enter w [] 12 [] [.slice az n cz, .nilIface] Tryd.func110 rfl rfl (by simp) (Hp.start (by simp) (by simp) (by simp)) ?_
  show JC _ _ _ [(0, .slice az n cz), (1, .nilIface)] _
  refine JC_seq ?_
  refine JC_region ?_
  refine JL_step (Step_alloc _ (cu8 (zr8 32)) Tryd.zeroValue25 (by kernel_rfl)) rfl ?_
  rintro v1 L1 ⟨nb1, hnb1, rfl, rfl⟩
  show JL _ _ _ _ ((4, Ptr nb1 0) :: _) [⟨nb1, cu8 (zr8 32), 25, (0, 0)⟩]
  refine JL_val _ (Ev_assign rfl) rfl ?_
  refine JL_nil ?_
  refine JQ_then ?_
  refine JC_seq ?_
  refine JC_seq ?_
  refine JC_region ?_
  refine JL_val _ (Ev_move rfl) rfl ?_
  refine JL_val (.bool false) (Ev_bin _ _ _ rfl rfl (fun _ => eqGuard_nn ..) fun _ => neq_if_nil_nil Tryd.underlying39) rfl ?_
  refine JL_nil ?_
  refine JQ_then ?_
  refine JC_condF _ rfl rfl ?_
  refine JC_skip ?_
  refine JQ_then ?_
  refine JC_seq ?_
  refine JC_region ?_
  refine JL_val _ (Ev_move rfl) rfl ?_
  refine JL_step (Step_callP 23 [.slice az n cz] (.agg (cu8 (sumG constL initL z)).toArray) (Cl_func [.slice az n cz] Tryd.call23 rfl) (fun w1 hw1 => sum_c az n cz z w1 hz (fun h => by rw [h] at ha; cases ha) (by omega) (hr.at (M' := []) hw1 (by simp)) (hG.at hw1))) rfl ?_
  rintro v1 L1 ⟨rfl, rfl⟩
  show JL _ _ _ _ ((11, .agg (cu8 (sumG constL initL z)).toArray) :: _) [⟨nb1, cu8 (zr8 32), 25, (0, 0)⟩]
  refine JL_step (Step_store 0 nb1 0 32 (cu8 (zr8 32)) 25 (.agg (cu8 (sumG constL initL z)).toArray) (cu8 (sumG constL initL z)) (cu8 (sumG constL initL z)) rfl rfl rfl (by first | rfl | simp) Tryd.sizeOf25 (len_cu8 (sumG_len _ _ _)) (by first | exact one_u8 | exact one_u32 | exact one_u64 | (simp [cu8, cu32, cu64, Value.oneCell']; done)) (by simp [(zr8_len 32)]) (lay_whole (by simp [(zr8_len 32), (sumG_len _ _ _)]))) rfl ?_
  rintro v1 L1 ⟨rfl, rfl⟩
  show JL _ _ _ _ _ [⟨nb1, cu8 (sumG constL initL z), 25, (0, 0)⟩]
  refine JL_val _ (Ev_assign rfl) rfl ?_
  refine JL_nil ?_
  refine JQ_then ?_
  refine JC_ret ?_
  refine JQ_ret (.tuple #[.agg (cu8 (sumG constL initL z)).toArray, .nilIface]) (res2 Tryd.results110 (RV_cell rfl (Ld_agg Tryd.isAgg25 Tryd.sizeOf25 (len_cu8 (sumG_len _ _ _)) (MemAt.ent 0 rfl (Seg.whole _)))) (RV_tmp rfl)) fun w1 hw1 => ?_
  exact ⟨_, [], rfl, ⟨rfl, rfl⟩, hw1.sub (by simp) (by simp)⟩

theorem hashedB_c  (w : World) : Calls Tryd.prog 110 #[.slice none 0 0, .iface 43 (I64 (1:Int))] w (Post w [] (fun v L => v = .tuple #[.agg (cu8 (zr8 32)).toArray, .iface 43 (I64 1)] ∧ L = [])) := by
  refine enter w [] 12 [] [.slice none 0 0, .iface 43 (I64 (1:Int))] Tryd.func110 rfl rfl (by simp) (Hp.start (by simp) (by simp) (by simp)) ?_
  show JC _ _ _ [(0, .slice none 0 0), (1, .iface 43 (I64 (1:Int)))] _
  refine JC_seq ?_
  refine JC_region ?_
  refine JL_step (Step_alloc _ (cu8 (zr8 32)) Tryd.zeroValue25 (by kernel_rfl)) rfl ?_
  rintro v1 L1 ⟨nb1, hnb1, rfl, rfl⟩
  show JL _ _ _ _ ((4, Ptr nb1 0) :: _) [⟨nb1, cu8 (zr8 32), 25, (0, 0)⟩]
  refine JL_val _ (Ev_assign rfl) rfl ?_
  refine JL_nil ?_
  refine JQ_then ?_
  refine JC_seq ?_
  refine JC_seq ?_
  refine JC_region ?_
  refine JL_val _ (Ev_move rfl) rfl ?_
  refine JL_val (.bool true) (Ev_bin _ _ _ rfl rfl (fun _ => eqGuard_if ..) fun _ => neq_if_nil Tryd.underlying39) rfl ?_
  refine JL_nil ?_
  refine JQ_then ?_
  refine JC_condT _ rfl rfl ?_
  refine JC_seq ?_
  refine JC_region ?_
  refine JL_val (.agg (cu8 (zr8 32)).toArray) (Ev_build [] _ rfl (fun _ => by kernel_rfl)) rfl ?_
  refine JL_val _ (Ev_move rfl) rfl ?_
  refine JL_step (Step_store 0 nb1 0 32 (cu8 (zr8 32)) 25 (.agg (cu8 (zr8 32)).toArray) (cu8 (zr8 32)) (cu8 (zr8 32)) rfl rfl rfl (by first | rfl | simp) Tryd.sizeOf25 (len_cu8 (zr8_len 32)) (by first | exact one_u8 | exact one_u32 | exact one_u64 | (simp [cu8, cu32, cu64, Value.oneCell']; done)) (by simp [(zr8_len 32)]) (lay_whole (by simp [(zr8_len 32), (zr8_len 32)]))) rfl ?_
  rintro v1 L1 ⟨rfl, rfl⟩
  show JL _ _ _ _ _ [⟨nb1, cu8 (zr8 32), 25, (0, 0)⟩]
  refine JL_val _ (Ev_assign rfl) rfl ?_
  refine JL_nil ?_
  refine JQ_then ?_
  refine JC_ret ?_
  refine JQ_then_ret ?_
  refine JQ_ret (.tuple #[.agg (cu8 (zr8 32)).toArray, .iface 43 (I64 (1:Int))]) (res2 Tryd.results110 (RV_cell rfl (Ld_agg Tryd.isAgg25 Tryd.sizeOf25 (len_cu8 (zr8_len 32)) (MemAt.ent 0 rfl (Seg.whole _)))) (RV_tmp rfl)) fun w1 hw1 => ?_
  exact ⟨_, [], rfl, ⟨rfl, rfl⟩, hw1.sub (by simp) (by simp)⟩

theorem leaf_c (i : UInt64) (e : UInt64) (d t : List UInt8)  (w : World) (hd : d.length = 32) (ht : t.length = 16) (hx : 4 < 8 → i >>> UInt64.ofNat (8*4) = 0) (hG : GLs w) : Calls Tryd.prog 80 #[U64 i, .agg (List.toArray (α := Value) ([U64 e] ++ cu8 d ++ cu8 t))] w (Post w [] (fun v L => v = .tuple #[.agg (cu8 (sumG constL initL (leafT i e d t))).toArray, .nilIface] ∧ L = [])) := by
  refine enter (P := Tryd.prog) (f := 80) (fn := Tryd.f80) w [] 14 [] [U64 i, .agg (List.toArray (α := Value) ([U64 e] ++ cu8 d ++ cu8 t))] Tryd.func80 rfl rfl (by simp) (Hp.start (by simp) (by simp) (by simp)) ?_
  show JC _ _ _ [(0, U64 i), (1, .agg (List.toArray (α := Value) ([U64 e] ++ cu8 d ++ cu8 t)))] _
  refine JC_seq ?_
  refine JC_region ?_
  refine JL_step (Step_box (.agg (List.toArray (α := Value) ([U64 e] ++ cu8 d ++ cu8 t))) ([U64 e] ++ cu8 d ++ cu8 t) rfl (by first | rfl | simp)) rfl ?_
  rintro v1 L1 ⟨nb1, hnb1, rfl, rfl⟩
  show JL _ _ _ _ ((3, Ptr nb1 0) :: _) [⟨nb1, [U64 e] ++ cu8 d ++ cu8 t, 76, (0, 0)⟩]
  refine JL_step (Step_alloc _ (cu8 (zr8 32)) Tryd.zeroValue25 (by kernel_rfl)) rfl ?_
  rintro v1 L1 ⟨nb2, hnb2, rfl, rfl⟩
  show JL _ _ _ _ ((4, Ptr nb2 0) :: _) [⟨nb1, [U64 e] ++ cu8 d ++ cu8 t, 76, (0, 0)⟩, ⟨nb2, cu8 (zr8 32), 25, (0, 0)⟩]
  refine JL_val _ (Ev_assign rfl) rfl ?_
  refine JL_nil ?_
  refine JQ_then ?_
  refine JC_seq ?_
  refine JC_region ?_
  refine JL_val _ (Ev_move rfl) rfl ?_
  refine JL_val (.agg (List.toArray (α := Value) ([U64 e] ++ cu8 d ++ cu8 t))) (Ev_load rfl (Ld_agg Tryd.isAgg76 Tryd.sizeOf76 (by simp [hd, ht]) (MemAt.ent 0 rfl (Seg.whole _)))) rfl ?_
  refine JL_step (Step_callN 79 [U64 i, .agg (List.toArray (α := Value) ([U64 e] ++ cu8 d ++ cu8 t))] _ (Cl_func [U64 i, .agg (List.toArray (α := Value) ([U64 e] ++ cu8 d ++ cu8 t))] Tryd.call79 rfl) (fun w1 hw1 => leafText_c i e d t w1 hd ht hx)) rfl ?_
  rintro v1 L1 ⟨_, ⟨nb3, sp1, cp1, rfl, rfl, hc1, hc2, hc3⟩, rfl⟩
  show JL _ _ _ _ ((8, .tuple #[Slc nb3 0 61 cp1, .nilIface]) :: _) [⟨nb1, [U64 e] ++ cu8 d ++ cu8 t, 76, (0, 0)⟩, ⟨nb2, cu8 (zr8 32), 25, (0, 0)⟩, ⟨nb3, cu8 (leafT i e d t) ++ sp1, 5, (0, 0)⟩]
  refine JL_val _ (Ev_extract rfl rfl) rfl ?_
  refine JL_val _ (Ev_extract rfl rfl) rfl ?_
  refine JL_step (Step_callP 110 [Slc nb3 0 61 cp1, .nilIface] (.tuple #[.agg (cu8 (sumG constL initL (leafT i e d t))).toArray, .nilIface]) (Cl_func [Slc nb3 0 61 cp1, .nilIface] Tryd.call110 rfl) (fun w1 hw1 => hashed_c (some ⟨nb3, 0, none⟩) 61 cp1 (leafT i e d t) w1 rfl (show (leafT i e d t).length = 61 from (leafT_len hd ht)) (by omega) (RdB.of hw1 (MemAt.ent 2 rfl (Seg.left (Seg.whole _))) (by simp)) (hG.at hw1))) rfl ?_
  rintro v1 L1 ⟨rfl, rfl⟩
  show JL _ _ _ _ ((11, .tuple #[.agg (cu8 (sumG constL initL (leafT i e d t))).toArray, .nilIface]) :: _) [⟨nb1, [U64 e] ++ cu8 d ++ cu8 t, 76, (0, 0)⟩, ⟨nb2, cu8 (zr8 32), 25, (0, 0)⟩, ⟨nb3, cu8 (leafT i e d t) ++ sp1, 5, (0, 0)⟩]
  refine JL_val _ (Ev_extract rfl rfl) rfl ?_
  refine JL_val _ (Ev_extract rfl rfl) rfl ?_
  refine JL_step (Step_store 1 nb2 0 32 (cu8 (zr8 32)) 25 (.agg (cu8 (sumG constL initL (leafT i e d t))).toArray) (cu8 (sumG constL initL (leafT i e d t))) (cu8 (sumG constL initL (leafT i e d t))) rfl rfl rfl (by first | rfl | simp) Tryd.sizeOf25 (len_cu8 (sumG_len _ _ _)) (by first | exact one_u8 | exact one_u32 | exact one_u64 | (simp [cu8, cu32, cu64, Value.oneCell']; done)) (by simp [(zr8_len 32)]) (lay_whole (by simp [(zr8_len 32), (sumG_len _ _ _)]))) rfl ?_
  rintro v1 L1 ⟨rfl, rfl⟩
  show JL _ _ _ _ _ [⟨nb1, [U64 e] ++ cu8 d ++ cu8 t, 76, (0, 0)⟩, ⟨nb2, cu8 (sumG constL initL (leafT i e d t)), 25, (0, 0)⟩, ⟨nb3, cu8 (leafT i e d t) ++ sp1, 5, (0, 0)⟩]
  refine JL_val _ (Ev_assign rfl) rfl ?_
  refine JL_nil ?_
  refine JQ_then ?_
  refine JC_ret ?_
  refine K_mask [false, true, false] ?_
  show JQ _ _ _ _ [⟨nb2, cu8 (sumG constL initL (leafT i e d t)), 25, (0, 0)⟩]
  refine JQ_ret (.tuple #[.agg (cu8 (sumG constL initL (leafT i e d t))).toArray, .nilIface]) (res2 Tryd.results80 (RV_cell rfl (Ld_agg Tryd.isAgg25 Tryd.sizeOf25 (len_cu8 (sumG_len _ _ _)) (MemAt.ent 0 rfl (Seg.whole _)))) (RV_tmp rfl)) fun w1 hw1 => ?_
  exact ⟨_, [], rfl, ⟨rfl, rfl⟩, hw1.sub (by simp) (by simp)⟩

theorem leafB_c (i : UInt64) (e : UInt64) (d t : List UInt8)  (w : World) (hd : d.length = 32) (ht : t.length = 16) (hx : i >>> UInt64.ofNat (8*4) ≠ 0) (hG : GLs w) : Calls Tryd.prog 80 #[U64 i, .agg (List.toArray (α := Value) ([U64 e] ++ cu8 d ++ cu8 t))] w (Post w [] (fun v L => v = .tuple #[.agg (cu8 (zr8 32)).toArray, .iface 43 (I64 1)] ∧ L = [])) := by
  refine enter (P := Tryd.prog) (f := 80) (fn := Tryd.f80) w [] 14 [] [U64 i, .agg (List.toArray (α := Value) ([U64 e] ++ cu8 d ++ cu8 t))] Tryd.func80 rfl rfl (by simp) (Hp.start (by simp) (by simp) (by simp)) ?_
  show JC _ _ _ [(0, U64 i), (1, .agg (List.toArray (α := Value) ([U64 e] ++ cu8 d ++ cu8 t)))] _
  refine JC_seq ?_
  refine JC_region ?_
  refine JL_step (Step_box (.agg (List.toArray (α := Value) ([U64 e] ++ cu8 d ++ cu8 t))) ([U64 e] ++ cu8 d ++ cu8 t) rfl (by first | rfl | simp)) rfl ?_
  rintro v1 L1 ⟨nb1, hnb1, rfl, rfl⟩
  show JL _ _ _ _ ((3, Ptr nb1 0) :: _) [⟨nb1, [U64 e] ++ cu8 d ++ cu8 t, 76, (0, 0)⟩]
  refine JL_step (Step_alloc _ (cu8 (zr8 32)) Tryd.zeroValue25 (by kernel_rfl)) rfl ?_
  rintro v1 L1 ⟨nb2, hnb2, rfl, rfl⟩
  show JL _ _ _ _ ((4, Ptr nb2 0) :: _) [⟨nb1, [U64 e] ++ cu8 d ++ cu8 t, 76, (0, 0)⟩, ⟨nb2, cu8 (zr8 32), 25, (0, 0)⟩]
  refine JL_val _ (Ev_assign rfl) rfl ?_
  refine JL_nil ?_
  refine JQ_then ?_
  refine JC_seq ?_
  refine JC_region ?_
  refine JL_val _ (Ev_move rfl) rfl ?_
  refine JL_val (.agg (List.toArray (α := Value) ([U64 e] ++ cu8 d ++ cu8 t))) (Ev_load rfl (Ld_agg Tryd.isAgg76 Tryd.sizeOf76 (by simp [hd, ht]) (MemAt.ent 0 rfl (Seg.whole _)))) rfl ?_
  refine JL_step (Step_callP 79 [U64 i, .agg (List.toArray (α := Value) ([U64 e] ++ cu8 d ++ cu8 t))] (.tuple #[.slice none 0 0, .iface 43 (I64 (1:Int))]) (Cl_func [U64 i, .agg (List.toArray (α := Value) ([U64 e] ++ cu8 d ++ cu8 t))] Tryd.call79 rfl) (fun w1 hw1 => leafTextB_c i e d t w1 hd ht hx)) rfl ?_
  rintro v1 L1 ⟨rfl, rfl⟩
  show JL _ _ _ _ ((8, .tuple #[.slice none 0 0, .iface 43 (I64 (1:Int))]) :: _) [⟨nb1, [U64 e] ++ cu8 d ++ cu8 t, 76, (0, 0)⟩, ⟨nb2, cu8 (zr8 32), 25, (0, 0)⟩]
  refine JL_val _ (Ev_extract rfl rfl) rfl ?_
  refine JL_val _ (Ev_extract rfl rfl) rfl ?_
  refine JL_step (Step_callP 110 [.slice none 0 0, .iface 43 (I64 (1:Int))] (.tuple #[.agg (cu8 (zr8 32)).toArray, .iface 43 (I64 (1:Int))]) (Cl_func [.slice none 0 0, .iface 43 (I64 (1:Int))] Tryd.call110 rfl) (fun w1 hw1 => hashedB_c w1)) rfl ?_
  rintro v1 L1 ⟨rfl, rfl⟩
  show JL _ _ _ _ ((11, .tuple #[.agg (cu8 (zr8 32)).toArray, .iface 43 (I64 (1:Int))]) :: _) [⟨nb1, [U64 e] ++ cu8 d ++ cu8 t, 76, (0, 0)⟩, ⟨nb2, cu8 (zr8 32), 25, (0, 0)⟩]
  refine JL_val _ (Ev_extract rfl rfl) rfl ?_
  refine JL_val _ (Ev_extract rfl rfl) rfl ?_
  refine JL_step (Step_store 1 nb2 0 32 (cu8 (zr8 32)) 25 (.agg (cu8 (zr8 32)).toArray) (cu8 (zr8 32)) (cu8 (zr8 32)) rfl rfl rfl (by first | rfl | simp) Tryd.sizeOf25 (len_cu8 (zr8_len 32)) (by first | exact one_u8 | exact one_u32 | exact one_u64 | (simp [cu8, cu32, cu64, Value.oneCell']; done)) (by simp [(zr8_len 32)]) (lay_whole (by simp [(zr8_len 32), (zr8_len 32)]))) rfl ?_
  rintro v1 L1 ⟨rfl, rfl⟩
  show JL _ _ _ _ _ [⟨nb1, [U64 e] ++ cu8 d ++ cu8 t, 76, (0, 0)⟩, ⟨nb2, cu8 (zr8 32), 25, (0, 0)⟩]
  refine JL_val _ (Ev_assign rfl) rfl ?_
  refine JL_nil ?_
  refine JQ_then ?_
  refine JC_ret ?_
  refine K_mask [false, true] ?_
  show JQ _ _ _ _ [⟨nb2, cu8 (zr8 32), 25, (0, 0)⟩]
  refine JQ_ret (.tuple #[.agg (cu8 (zr8 32)).toArray, .iface 43 (I64 (1:Int))]) (res2 Tryd.results80 (RV_cell rfl (Ld_agg Tryd.isAgg25 Tryd.sizeOf25 (len_cu8 (zr8_len 32)) (MemAt.ent 0 rfl (Seg.whole _)))) (RV_tmp rfl)) fun w1 hw1 => ?_
  exact ⟨_, [], rfl, ⟨rfl, rfl⟩, hw1.sub (by simp) (by simp)⟩

theorem join_n_c (h : Nat) (l r : List UInt8) (w : World) (hl : l.length = 32) (hr : r.length = 32) (h1 : 1 ≤ h) (h2 : h ≤ 32) (hG : GLs w) : Calls Tryd.prog 70 #[I64 ((h:Int)), .agg (cu8 l).toArray, .agg (cu8 r).toArray] w (Post w [] (fun v L => v = .tuple #[.agg (cu8 (sumG constL initL (joinT h l r))).toArray, .nilIface] ∧ L = [])) := by
  refine enter w [] 17 [] [I64 ((h:Int)), .agg (cu8 l).toArray, .agg (cu8 r).toArray] Tryd.func70 rfl rfl (by simp) (Hp.start (by simp) (by simp) (by simp)) ?_
  show JC _ _ _ [(0, I64 ((h:Int))), (1, .agg (cu8 l).toArray), (2, .agg (cu8 r).toArray)] _
  refine JC_seq ?_
  refine JC_region ?_
  refine JL_step (Step_box (.agg (cu8 l).toArray) (cu8 l) rfl (by first | rfl | simp)) rfl ?_
  rintro v1 L1 ⟨nb1, hnb1, rfl, rfl⟩
  show JL _ _ _ _ ((4, Ptr nb1 0) :: _) [⟨nb1, cu8 l, 25, (0, 0)⟩]
  refine JL_step (Step_box (.agg (cu8 r).toArray) (cu8 r) rfl (by first | rfl | simp)) rfl ?_
  rintro v1 L1 ⟨nb2, hnb2, rfl, rfl⟩
  show JL _ _ _ _ ((5, Ptr nb2 0) :: _) [⟨nb1, cu8 l, 25, (0, 0)⟩, ⟨nb2, cu8 r, 25, (0, 0)⟩]
  refine JL_step (Step_alloc _ (cu8 (zr8 32)) Tryd.zeroValue25 (by kernel_rfl)) rfl ?_
  rintro v1 L1 ⟨nb3, hnb3, rfl, rfl⟩
  show JL _ _ _ _ ((6, Ptr nb3 0) :: _) [⟨nb1, cu8 l, 25, (0, 0)⟩, ⟨nb2, cu8 r, 25, (0, 0)⟩, ⟨nb3, cu8 (zr8 32), 25, (0, 0)⟩]
  refine JL_val _ (Ev_assign rfl) rfl ?_
  refine JL_nil ?_
  refine JQ_then ?_
  refine JC_seq ?_
  refine JC_region ?_
  refine JL_val _ (Ev_move rfl) rfl ?_
  refine JL_val (.agg (cu8 l).toArray) (Ev_load rfl (Ld_agg Tryd.isAgg25 Tryd.sizeOf25 (len_cu8 hl) (MemAt.ent 0 rfl (Seg.whole _)))) rfl ?_
  refine JL_val (.agg (cu8 r).toArray) (Ev_load rfl (Ld_agg Tryd.isAgg25 Tryd.sizeOf25 (len_cu8 hr) (MemAt.ent 1 rfl (Seg.whole _)))) rfl ?_
  refine JL_step (Step_callN 71 [I64 ((h:Int)), .agg (cu8 l).toArray, .agg (cu8 r).toArray] _ (Cl_func [I64 ((h:Int)), .agg (cu8 l).toArray, .agg (cu8 r).toArray] Tryd.call71 rfl) (fun w1 hw1 => joinText_c h l r w1 hl hr (by omega) (by omega))) rfl ?_
  rintro v1 L1 ⟨_, ⟨nb4, sp1, cp1, rfl, rfl, hc1, hc2, hc3⟩, rfl⟩
  show JL _ _ _ _ ((11, .tuple #[Slc nb4 0 66 cp1, .nilIface]) :: _) [⟨nb1, cu8 l, 25, (0, 0)⟩, ⟨nb2, cu8 r, 25, (0, 0)⟩, ⟨nb3, cu8 (zr8 32), 25, (0, 0)⟩, ⟨nb4, cu8 (joinT h l r) ++ sp1, 5, (0, 0)⟩]
  refine JL_val _ (Ev_extract rfl rfl) rfl ?_
  refine JL_val _ (Ev_extract rfl rfl) rfl ?_
  refine JL_step (Step_callP 110 [Slc nb4 0 66 cp1, .nilIface] (.tuple #[.agg (cu8 (sumG constL initL (joinT h l r))).toArray, .nilIface]) (Cl_func [Slc nb4 0 66 cp1, .nilIface] Tryd.call110 rfl) (fun w1 hw1 => hashed_c (some ⟨nb4, 0, none⟩) 66 cp1 (joinT h l r) w1 rfl (show (joinT h l r).length = 66 from (joinT_len hl hr)) (by omega) (RdB.of hw1 (MemAt.ent 3 rfl (Seg.left (Seg.whole _))) (by simp)) (hG.at hw1))) rfl ?_
  rintro v1 L1 ⟨rfl, rfl⟩
  show JL _ _ _ _ ((14, .tuple #[.agg (cu8 (sumG constL initL (joinT h l r))).toArray, .nilIface]) :: _) [⟨nb1, cu8 l, 25, (0, 0)⟩, ⟨nb2, cu8 r, 25, (0, 0)⟩, ⟨nb3, cu8 (zr8 32), 25, (0, 0)⟩, ⟨nb4, cu8 (joinT h l r) ++ sp1, 5, (0, 0)⟩]
  refine JL_val _ (Ev_extract rfl rfl) rfl ?_
  refine JL_val _ (Ev_extract rfl rfl) rfl ?_
  refine JL_step (Step_store 2 nb3 0 32 (cu8 (zr8 32)) 25 (.agg (cu8 (sumG constL initL (joinT h l r))).toArray) (cu8 (sumG constL initL (joinT h l r))) (cu8 (sumG constL initL (joinT h l r))) rfl rfl rfl (by first | rfl | simp) Tryd.sizeOf25 (len_cu8 (sumG_len _ _ _)) (by first | exact one_u8 | exact one_u32 | exact one_u64 | (simp [cu8, cu32, cu64, Value.oneCell']; done)) (by simp [(zr8_len 32)]) (lay_whole (by simp [(zr8_len 32), (sumG_len _ _ _)]))) rfl ?_
  rintro v1 L1 ⟨rfl, rfl⟩
  show JL _ _ _ _ _ [⟨nb1, cu8 l, 25, (0, 0)⟩, ⟨nb2, cu8 r, 25, (0, 0)⟩, ⟨nb3, cu8 (sumG constL initL (joinT h l r)), 25, (0, 0)⟩, ⟨nb4, cu8 (joinT h l r) ++ sp1, 5, (0, 0)⟩]
  refine JL_val _ (Ev_assign rfl) rfl ?_
  refine JL_nil ?_
  refine JQ_then ?_
  refine JC_ret ?_
  refine K_mask [false, false, true, false] ?_
  show JQ _ _ _ _ [⟨nb3, cu8 (sumG constL initL (joinT h l r)), 25, (0, 0)⟩]
  refine JQ_ret (.tuple #[.agg (cu8 (sumG constL initL (joinT h l r))).toArray, .nilIface]) (res2 Tryd.results70 (RV_cell rfl (Ld_agg Tryd.isAgg25 Tryd.sizeOf25 (len_cu8 (sumG_len _ _ _)) (MemAt.ent 0 rfl (Seg.whole _)))) (RV_tmp rfl)) fun w1 hw1 => ?_
  exact ⟨_, [], rfl, ⟨rfl, rfl⟩, hw1.sub (by simp) (by simp)⟩

theorem join_nB_c (h : Int) (l r : List UInt8) (w : World) (hl : l.length = 32) (hr : r.length = 32) (hh : h < 1 ∨ 32 < h) (hG : GLs w) : Calls Tryd.prog 70 #[I64 (h), .agg (cu8 l).toArray, .agg (cu8 r).toArray] w (Post w [] (fun v L => v = .tuple #[.agg (cu8 (zr8 32)).toArray, .iface 43 (I64 1)] ∧ L = [])) := by
  refine enter w [] 17 [] [I64 (h), .agg (cu8 l).toArray, .agg (cu8 r).toArray] Tryd.func70 rfl rfl (by simp) (Hp.start (by simp) (by simp) (by simp)) ?_
  show JC _ _ _ [(0, I64 (h)), (1, .agg (cu8 l).toArray), (2, .agg (cu8 r).toArray)] _
  refine JC_seq ?_
  refine JC_region ?_
  refine JL_step (Step_box (.agg (cu8 l).toArray) (cu8 l) rfl (by first | rfl | simp)) rfl ?_
  rintro v1 L1 ⟨nb1, hnb1, rfl, rfl⟩
  show JL _ _ _ _ ((4, Ptr nb1 0) :: _) [⟨nb1, cu8 l, 25, (0, 0)⟩]
  refine JL_step (Step_box (.agg (cu8 r).toArray) (cu8 r) rfl (by first | rfl | simp)) rfl ?_
  rintro v1 L1 ⟨nb2, hnb2, rfl, rfl⟩
  show JL _ _ _ _ ((5, Ptr nb2 0) :: _) [⟨nb1, cu8 l, 25, (0, 0)⟩, ⟨nb2, cu8 r, 25, (0, 0)⟩]
  refine JL_step (Step_alloc _ (cu8 (zr8 32)) Tryd.zeroValue25 (by kernel_rfl)) rfl ?_
  rintro v1 L1 ⟨nb3, hnb3, rfl, rfl⟩
  show JL _ _ _ _ ((6, Ptr nb3 0) :: _) [⟨nb1, cu8 l, 25, (0, 0)⟩, ⟨nb2, cu8 r, 25, (0, 0)⟩, ⟨nb3, cu8 (zr8 32), 25, (0, 0)⟩]
  refine JL_val _ (Ev_assign rfl) rfl ?_
  refine JL_nil ?_
  refine JQ_then ?_
  refine JC_seq ?_
  refine JC_region ?_
  refine JL_val _ (Ev_move rfl) rfl ?_
  refine JL_val (.agg (cu8 l).toArray) (Ev_load rfl (Ld_agg Tryd.isAgg25 Tryd.sizeOf25 (len_cu8 hl) (MemAt.ent 0 rfl (Seg.whole _)))) rfl ?_
  refine JL_val (.agg (cu8 r).toArray) (Ev_load rfl (Ld_agg Tryd.isAgg25 Tryd.sizeOf25 (len_cu8 hr) (MemAt.ent 1 rfl (Seg.whole _)))) rfl ?_
  refine JL_step (Step_callP 71 [I64 (h), .agg (cu8 l).toArray, .agg (cu8 r).toArray] (.tuple #[.slice none 0 0, .iface 43 (I64 (1:Int))]) (Cl_func [I64 (h), .agg (cu8 l).toArray, .agg (cu8 r).toArray] Tryd.call71 rfl) (fun w1 hw1 => joinTextB_c (h) l r w1 hl hr hh)) rfl ?_
  rintro v1 L1 ⟨rfl, rfl⟩
  show JL _ _ _ _ ((11, .tuple #[.slice none 0 0, .iface 43 (I64 (1:Int))]) :: _) [⟨nb1, cu8 l, 25, (0, 0)⟩, ⟨nb2, cu8 r, 25, (0, 0)⟩, ⟨nb3, cu8 (zr8 32), 25, (0, 0)⟩]
  refine JL_val _ (Ev_extract rfl rfl) rfl ?_
  refine JL_val _ (Ev_extract rfl rfl) rfl ?_
  refine JL_step (Step_callP 110 [.slice none 0 0, .iface 43 (I64 (1:Int))] (.tuple #[.agg (cu8 (zr8 32)).toArray, .iface 43 (I64 (1:Int))]) (Cl_func [.slice none 0 0, .iface 43 (I64 (1:Int))] Tryd.call110 rfl) (fun w1 hw1 => hashedB_c w1)) rfl ?_
  rintro v1 L1 ⟨rfl, rfl⟩
  show JL _ _ _ _ ((14, .tuple #[.agg (cu8 (zr8 32)).toArray, .iface 43 (I64 (1:Int))]) :: _) [⟨nb1, cu8 l, 25, (0, 0)⟩, ⟨nb2, cu8 r, 25, (0, 0)⟩, ⟨nb3, cu8 (zr8 32), 25, (0, 0)⟩]
  refine JL_val _ (Ev_extract rfl rfl) rfl ?_
  refine JL_val _ (Ev_extract rfl rfl) rfl ?_
  refine JL_step (Step_store 2 nb3 0 32 (cu8 (zr8 32)) 25 (.agg (cu8 (zr8 32)).toArray) (cu8 (zr8 32)) (cu8 (zr8 32)) rfl rfl rfl (by first | rfl | simp) Tryd.sizeOf25 (len_cu8 (zr8_len 32)) (by first | exact one_u8 | exact one_u32 | exact one_u64 | (simp [cu8, cu32, cu64, Value.oneCell']; done)) (by simp [(zr8_len 32)]) (lay_whole (by simp [(zr8_len 32), (zr8_len 32)]))) rfl ?_
  rintro v1 L1 ⟨rfl, rfl⟩
  show JL _ _ _ _ _ [⟨nb1, cu8 l, 25, (0, 0)⟩, ⟨nb2, cu8 r, 25, (0, 0)⟩, ⟨nb3, cu8 (zr8 32), 25, (0, 0)⟩]
  refine JL_val _ (Ev_assign rfl) rfl ?_
  refine JL_nil ?_
  refine JQ_then ?_
  refine JC_ret ?_
  refine K_mask [false, false, true] ?_
  show JQ _ _ _ _ [⟨nb3, cu8 (zr8 32), 25, (0, 0)⟩]
  refine JQ_ret (.tuple #[.agg (cu8 (zr8 32)).toArray, .iface 43 (I64 (1:Int))]) (res2 Tryd.results70 (RV_cell rfl (Ld_agg Tryd.isAgg25 Tryd.sizeOf25 (len_cu8 (zr8_len 32)) (MemAt.ent 0 rfl (Seg.whole _)))) (RV_tmp rfl)) fun w1 hw1 => ?_
  exact ⟨_, [], rfl, ⟨rfl, rfl⟩, hw1.sub (by simp) (by simp)⟩

end Go.Proofs.YtncoifiafklkjaaDoor
