import Derived.Test.YtncoifiafklkjaaDoorNode3
namespace Go.Proofs.YtncoifiafklkjaaDoor
open Go Go.Sx
set_option linter.unusedVariables false
set_option linter.unusedSimpArgs false
set_option maxRecDepth 100000
attribute [local irreducible] mid zr8 zr32 zr64 numK rnK ftN valK rvalK rotr wordL spreadL comprL cpN adN spN wrdN constL initL padL stN outN routN sumG putL leafT joinT empL empA empR kindN
theorem nodeLeavesB_c (i : UInt64) (e : UInt64) (d t : List UInt8)  (w : World) (hd : d.length = 32) (ht : t.length = 16) (hG : GLs w) (hGr : GLr w) (hGi : GLi w) (hq : (4294967295:UInt64) < i) : Calls Tryd.prog 21 #[U64 i, .agg (List.toArray (α := Value) ([U64 e] ++ cu8 d ++ cu8 t))] w (Post w [] (fun v L => v = .bool true ∧ L = [])) := by
  have hmx : maxLen = 9223372036854775807 := rfl
  refine enter (P := Tryd.prog) (f := 21) (fn := Tryd.f21) w [] 69 [] [U64 i, .agg (List.toArray (α := Value) ([U64 e] ++ cu8 d ++ cu8 t))] Tryd.func21 rfl rfl (by simp) (Hp.start (by simp) (by simp) (by simp)) ?_
  show JC _ _ _ [(0, U64 i), (1, .agg (List.toArray (α := Value) ([U64 e] ++ cu8 d ++ cu8 t)))] _
  refine JC_seq ?_
  refine JC_region ?_
  refine JL_step (Step_box (.agg (List.toArray (α := Value) ([U64 e] ++ cu8 d ++ cu8 t))) ([U64 e] ++ cu8 d ++ cu8 t) rfl (by first | rfl | simp)) rfl ?_
  rintro v1 L1 ⟨nb1, hnb1, rfl, rfl⟩
  show JL _ _ _ _ ((3, Ptr nb1 0) :: _) [⟨nb1, [U64 e] ++ cu8 d ++ cu8 t, 76, (0, 0)⟩]
  refine JL_val _ (Ev_assign rfl) rfl ?_
  refine JL_nil ?_
  refine JQ_then ?_
  refine JC_seq ?_
  refine JC_seq ?_
  refine JC_region ?_
  refine JL_step (Step_callP 69 [] (.bool true) (Cl_func [] Tryd.call69 rfl) (fun w1 hw1 => alive8_c  w1 (hG.at hw1))) rfl ?_
  rintro v1 L1 ⟨rfl, rfl⟩
  show JL _ _ _ _ ((10, .bool true) :: _) [⟨nb1, [U64 e] ++ cu8 d ++ cu8 t, 76, (0, 0)⟩]
  refine JL_val (.bool (!true)) (Ev_not rfl) rfl ?_
  refine JL_nil ?_
  refine JQ_then ?_
  refine JC_condF _ rfl rfl ?_
  refine JC_skip ?_
  refine JQ_then ?_
  refine JC_seq ?_
  refine JC_region ?_
  refine JL_val _ (Ev_move rfl) rfl ?_
  refine JL_val (.agg (List.toArray (α := Value) ([U64 e] ++ cu8 d ++ cu8 t))) (Ev_load rfl (Ld_agg Tryd.isAgg76 Tryd.sizeOf76 (by simp [hd, ht]) (MemAt.ent 0 rfl (Seg.whole _)))) rfl ?_
  refine JL_step (Step_callP 80 [U64 i, .agg (List.toArray (α := Value) ([U64 e] ++ cu8 d ++ cu8 t))] (.tuple #[.agg (cu8 (zr8 32)).toArray, .iface 43 (I64 (1:Int))]) (Cl_func [U64 i, .agg (List.toArray (α := Value) ([U64 e] ++ cu8 d ++ cu8 t))] Tryd.call80 rfl) (fun w1 hw1 => leafB_c i e d t w1 hd ht (shr4n hq) (hG.at hw1))) rfl ?_
  rintro v1 L1 ⟨rfl, rfl⟩
  show JL _ _ _ _ ((15, .tuple #[.agg (cu8 (zr8 32)).toArray, .iface 43 (I64 (1:Int))]) :: _) [⟨nb1, [U64 e] ++ cu8 d ++ cu8 t, 76, (0, 0)⟩]
  refine JL_val _ (Ev_move rfl) rfl ?_
  refine JL_val _ (Ev_extract rfl rfl) rfl ?_
  refine JL_val _ (Ev_extract rfl rfl) rfl ?_
  refine JL_step (Step_alloc _ (cu8 (zr8 32)) Tryd.zeroValue25 (by kernel_rfl)) rfl ?_
  rintro v1 L1 ⟨nb2, hnb2, rfl, rfl⟩
  show JL _ _ _ _ ((5, Ptr nb2 0) :: _) [⟨nb1, [U64 e] ++ cu8 d ++ cu8 t, 76, (0, 0)⟩, ⟨nb2, cu8 (zr8 32), 25, (0, 0)⟩]
  refine JL_step (Step_store 1 nb2 0 32 (cu8 (zr8 32)) 25 (.agg (cu8 (zr8 32)).toArray) (cu8 (zr8 32)) (cu8 (zr8 32)) rfl rfl rfl (by first | rfl | simp) Tryd.sizeOf25 (len_cu8 (zr8_len 32)) (by first | exact one_u8 | exact one_u32 | exact one_u64 | (simp [cu8, cu32, cu64, Value.oneCell']; done)) (by simp [(zr8_len 32)]) (lay_whole (by simp [(zr8_len 32), (zr8_len 32)]))) rfl ?_
  rintro v1 L1 ⟨rfl, rfl⟩
  show JL _ _ _ _ _ [⟨nb1, [U64 e] ++ cu8 d ++ cu8 t, 76, (0, 0)⟩, ⟨nb2, cu8 (zr8 32), 25, (0, 0)⟩]
  refine JL_val _ (Ev_assign rfl) rfl ?_
  refine JL_nil ?_
  refine JQ_then ?_
  refine JC_seq ?_
  refine JC_region ?_
  refine JL_val _ (Ev_move rfl) rfl ?_
  refine JL_val (.agg (List.toArray (α := Value) ([U64 e] ++ cu8 d ++ cu8 t))) (Ev_load rfl (Ld_agg Tryd.isAgg76 Tryd.sizeOf76 (by simp [hd, ht]) (MemAt.ent 0 rfl (Seg.whole _)))) rfl ?_
  refine JL_step (Step_callP 79 [U64 i, .agg (List.toArray (α := Value) ([U64 e] ++ cu8 d ++ cu8 t))] (.tuple #[.slice none 0 0, .iface 43 (I64 (1:Int))]) (Cl_func [U64 i, .agg (List.toArray (α := Value) ([U64 e] ++ cu8 d ++ cu8 t))] Tryd.call79 rfl) (fun w1 hw1 => leafTextB_c i e d t w1 hd ht (shr4n hq))) rfl ?_
  rintro v1 L1 ⟨rfl, rfl⟩
  show JL _ _ _ _ ((21, .tuple #[.slice none 0 0, .iface 43 (I64 (1:Int))]) :: _) [⟨nb1, [U64 e] ++ cu8 d ++ cu8 t, 76, (0, 0)⟩, ⟨nb2, cu8 (zr8 32), 25, (0, 0)⟩]
  refine JL_val _ (Ev_move rfl) rfl ?_
  refine JL_val _ (Ev_extract rfl rfl) rfl ?_
  refine JL_val _ (Ev_extract rfl rfl) rfl ?_
  refine JL_val _ (Ev_assign rfl) rfl ?_
  refine JL_val _ (Ev_assign rfl) rfl ?_
  refine JL_nil ?_
  refine JQ_then ?_
  refine JC_seq ?_
  refine JC_seq ?_
  refine JC_region ?_
  refine JL_val _ (Ev_move rfl) rfl ?_
  refine JL_val (.bool (decide ((4294967295:UInt64) < i))) (Ev_bini rfl rfl fun _ => bin_gtr_u64 i (4294967295:UInt64)) rfl ?_
  refine JL_nil ?_
  refine JQ_then ?_
  refine JC_condT _ rfl (decide_eq_true hq) ?_
  refine JC_seq ?_
  refine JC_region ?_
  refine JL_val _ (Ev_move rfl) rfl ?_
  refine JL_step (Step_callP 33 [.iface 43 (I64 (1:Int)), I64 (1:Int)] (.bool true) (Cl_func [.iface 43 (I64 (1:Int)), I64 (1:Int)] Tryd.call33 rfl) (fun w1 hw1 => is_c 1 1 w1)) rfl ?_
  rintro v1 L1 ⟨rfl, rfl⟩
  show JL _ _ _ _ ((27, .bool true) :: _) [⟨nb1, [U64 e] ++ cu8 d ++ cu8 t, 76, (0, 0)⟩, ⟨nb2, cu8 (zr8 32), 25, (0, 0)⟩]
  refine JL_val _ (Ev_move rfl) rfl ?_
  refine JL_gval 2 28 true _ _ rfl rfl rfl (Ev_move rfl) rfl ?_
  refine JL_gstep 2 28 true _ rfl rfl rfl (Step_callP 33 [.iface 43 (I64 (1:Int)), I64 (1:Int)] (.bool true) (Cl_func [.iface 43 (I64 (1:Int)), I64 (1:Int)] Tryd.call33 rfl) (fun w1 hw1 => is_c 1 1 w1)) rfl ?_
  rintro v1 L1 ⟨rfl, rfl⟩
  show JL _ _ _ _ ((30, .bool true) :: _) [⟨nb1, [U64 e] ++ cu8 d ++ cu8 t, 76, (0, 0)⟩, ⟨nb2, cu8 (zr8 32), 25, (0, 0)⟩]
  refine JL_val _ (Ev_pickT _ rfl rfl rfl) rfl ?_
  refine JL_val _ (Ev_move rfl) rfl ?_
  refine JL_gval 6 32 true _ (.agg (cu8 (zr8 32)).toArray) rfl rfl rfl (Ev_load rfl (Ld_agg Tryd.isAgg25 Tryd.sizeOf25 (len_cu8 (zr8_len 32)) (MemAt.ent 1 rfl (Seg.whole _)))) rfl ?_
  refine JL_gval 6 32 true _ (.agg (cu8 (zr8 32)).toArray) rfl rfl rfl (Ev_build [] _ rfl (fun _ => by kernel_rfl)) rfl ?_
  refine JL_gval 6 32 true _ (.bool (decide ((zr8 32) = (zr8 32)))) rfl rfl rfl (Ev_bin _ _ _ rfl rfl (fun _ => eqGuard_agg _ _ _ _ _ _ (by kernel_rfl)) fun _ => eql_arr8 Tryd.underlying25 Tryd.underlying5 Tryd.isAgg5 Tryd.cells5 Tryd.has5 (by simp [(zr8_len 32)]) (by simp [(zr8_len 32)])) rfl ?_
  refine JL_val _ (Ev_pickT _ rfl rfl rfl) rfl ?_
  refine JL_val _ (Ev_move rfl) rfl ?_
  refine JL_gval 11 37 true _ _ rfl rfl (decide_eq_true rfl) (Ev_move rfl) rfl ?_
  refine JL_gval 11 37 true _ (I64 (0:Int)) rfl rfl (decide_eq_true rfl) (Ev_len Tryd.underlying22 rfl) rfl ?_
  refine JL_gval 11 37 true _ (.bool (decide ((0:Int) = (0:Int)))) rfl rfl (decide_eq_true rfl) (Ev_bini rfl rfl fun _ => bin_eql_i _ _) rfl ?_
  refine JL_val _ (Ev_pickT _ rfl (decide_eq_true rfl) rfl) rfl ?_
  refine JL_val _ (Ev_assign rfl) rfl ?_
  refine JL_nil ?_
  refine JQ_then ?_
  refine JC_ret ?_
  refine JQ_then_ret ?_
  refine JQ_ret (.bool (decide ((0:Int) = (0:Int)))) (res1 Tryd.results21 (RV_tmp rfl)) fun w1 hw1 => ?_
  exact ⟨_, [], rfl, ⟨by rw [show (decide ((0:Int) = (0:Int))) = true from (by decide)], rfl⟩, hw1.sub (by simp) (by simp)⟩

theorem nodeLeavesI_c (i : UInt64) (e : UInt64) (d t : List UInt8)  (w : World) (hd : d.length = 32) (ht : t.length = 16) (hG : GLs w) (hGr : GLr w) (hGi : GLi w) (hq : ¬ (4294967295:UInt64) < i) : Calls Tryd.prog 21 #[U64 i, .agg (List.toArray (α := Value) ([U64 e] ++ cu8 d ++ cu8 t))] w (Post w [] (fun v L => v = .bool true ∧ L = [])) := by
  have hmx : maxLen = 9223372036854775807 := rfl
  refine enter (P := Tryd.prog) (f := 21) (fn := Tryd.f21) w [] 69 [] [U64 i, .agg (List.toArray (α := Value) ([U64 e] ++ cu8 d ++ cu8 t))] Tryd.func21 rfl rfl (by simp) (Hp.start (by simp) (by simp) (by simp)) ?_
  show JC _ _ _ [(0, U64 i), (1, .agg (List.toArray (α := Value) ([U64 e] ++ cu8 d ++ cu8 t)))] _
  refine JC_seq ?_
  refine JC_region ?_
  refine JL_step (Step_box (.agg (List.toArray (α := Value) ([U64 e] ++ cu8 d ++ cu8 t))) ([U64 e] ++ cu8 d ++ cu8 t) rfl (by first | rfl | simp)) rfl ?_
  rintro v1 L1 ⟨nb1, hnb1, rfl, rfl⟩
  show JL _ _ _ _ ((3, Ptr nb1 0) :: _) [⟨nb1, [U64 e] ++ cu8 d ++ cu8 t, 76, (0, 0)⟩]
  refine JL_val _ (Ev_assign rfl) rfl ?_
  refine JL_nil ?_
  refine JQ_then ?_
  refine JC_seq ?_
  refine JC_seq ?_
  refine JC_region ?_
  refine JL_step (Step_callP 69 [] (.bool true) (Cl_func [] Tryd.call69 rfl) (fun w1 hw1 => alive8_c  w1 (hG.at hw1))) rfl ?_
  rintro v1 L1 ⟨rfl, rfl⟩
  show JL _ _ _ _ ((10, .bool true) :: _) [⟨nb1, [U64 e] ++ cu8 d ++ cu8 t, 76, (0, 0)⟩]
  refine JL_val (.bool (!true)) (Ev_not rfl) rfl ?_
  refine JL_nil ?_
  refine JQ_then ?_
  refine JC_condF _ rfl rfl ?_
  refine JC_skip ?_
  refine JQ_then ?_
  refine JC_seq ?_
  refine JC_region ?_
  refine JL_val _ (Ev_move rfl) rfl ?_
  refine JL_val (.agg (List.toArray (α := Value) ([U64 e] ++ cu8 d ++ cu8 t))) (Ev_load rfl (Ld_agg Tryd.isAgg76 Tryd.sizeOf76 (by simp [hd, ht]) (MemAt.ent 0 rfl (Seg.whole _)))) rfl ?_
  refine JL_step (Step_callP 80 [U64 i, .agg (List.toArray (α := Value) ([U64 e] ++ cu8 d ++ cu8 t))] (.tuple #[.agg (cu8 (sumG constL initL (leafT i e d t))).toArray, .nilIface]) (Cl_func [U64 i, .agg (List.toArray (α := Value) ([U64 e] ++ cu8 d ++ cu8 t))] Tryd.call80 rfl) (fun w1 hw1 => leaf_c i e d t w1 hd ht (shr4z hq) (hG.at hw1))) rfl ?_
  rintro v1 L1 ⟨rfl, rfl⟩
  show JL _ _ _ _ ((15, .tuple #[.agg (cu8 (sumG constL initL (leafT i e d t))).toArray, .nilIface]) :: _) [⟨nb1, [U64 e] ++ cu8 d ++ cu8 t, 76, (0, 0)⟩]
  refine JL_val _ (Ev_move rfl) rfl ?_
  refine JL_val _ (Ev_extract rfl rfl) rfl ?_
  refine JL_val _ (Ev_extract rfl rfl) rfl ?_
  refine JL_step (Step_alloc _ (cu8 (zr8 32)) Tryd.zeroValue25 (by kernel_rfl)) rfl ?_
  rintro v1 L1 ⟨nb2, hnb2, rfl, rfl⟩
  show JL _ _ _ _ ((5, Ptr nb2 0) :: _) [⟨nb1, [U64 e] ++ cu8 d ++ cu8 t, 76, (0, 0)⟩, ⟨nb2, cu8 (zr8 32), 25, (0, 0)⟩]
  refine JL_step (Step_store 1 nb2 0 32 (cu8 (zr8 32)) 25 (.agg (cu8 (sumG constL initL (leafT i e d t))).toArray) (cu8 (sumG constL initL (leafT i e d t))) (cu8 (sumG constL initL (leafT i e d t))) rfl rfl rfl (by first | rfl | simp) Tryd.sizeOf25 (len_cu8 (sumG_len _ _ _)) (by first | exact one_u8 | exact one_u32 | exact one_u64 | (simp [cu8, cu32, cu64, Value.oneCell']; done)) (by simp [(zr8_len 32)]) (lay_whole (by simp [(zr8_len 32), (sumG_len _ _ _)]))) rfl ?_
  rintro v1 L1 ⟨rfl, rfl⟩
  show JL _ _ _ _ _ [⟨nb1, [U64 e] ++ cu8 d ++ cu8 t, 76, (0, 0)⟩, ⟨nb2, cu8 (sumG constL initL (leafT i e d t)), 25, (0, 0)⟩]
  refine JL_val _ (Ev_assign rfl) rfl ?_
  refine JL_nil ?_
  refine JQ_then ?_
  refine JC_seq ?_
  refine JC_region ?_
  refine JL_val _ (Ev_move rfl) rfl ?_
  refine JL_val (.agg (List.toArray (α := Value) ([U64 e] ++ cu8 d ++ cu8 t))) (Ev_load rfl (Ld_agg Tryd.isAgg76 Tryd.sizeOf76 (by simp [hd, ht]) (MemAt.ent 0 rfl (Seg.whole _)))) rfl ?_
  refine JL_step (Step_callN 79 [U64 i, .agg (List.toArray (α := Value) ([U64 e] ++ cu8 d ++ cu8 t))] _ (Cl_func [U64 i, .agg (List.toArray (α := Value) ([U64 e] ++ cu8 d ++ cu8 t))] Tryd.call79 rfl) (fun w1 hw1 => leafText_c i e d t w1 hd ht (shr4z hq))) rfl ?_
  rintro v1 L1 ⟨_, ⟨nb3, sp1, cp1, rfl, rfl, hc1, hc2, hc3⟩, rfl⟩
  show JL _ _ _ _ ((21, .tuple #[Slc nb3 0 61 cp1, .nilIface]) :: _) [⟨nb1, [U64 e] ++ cu8 d ++ cu8 t, 76, (0, 0)⟩, ⟨nb2, cu8 (sumG constL initL (leafT i e d t)), 25, (0, 0)⟩, ⟨nb3, cu8 (leafT i e d t) ++ sp1, 5, (0, 0)⟩]
  refine JL_val _ (Ev_move rfl) rfl ?_
  refine JL_val _ (Ev_extract rfl rfl) rfl ?_
  refine JL_val _ (Ev_extract rfl rfl) rfl ?_
  refine JL_val _ (Ev_assign rfl) rfl ?_
  refine JL_val _ (Ev_assign rfl) rfl ?_
  refine JL_nil ?_
  refine JQ_then ?_
  refine JC_seq ?_
  refine JC_seq ?_
  refine JC_region ?_
  refine JL_val _ (Ev_move rfl) rfl ?_
  refine JL_val (.bool (decide ((4294967295:UInt64) < i))) (Ev_bini rfl rfl fun _ => bin_gtr_u64 i (4294967295:UInt64)) rfl ?_
  refine JL_nil ?_
  refine JQ_then ?_
  refine JC_condF _ rfl (decide_eq_false hq) ?_
  refine JC_skip ?_
  refine JQ_then ?_
  refine JC_seq ?_
  refine JC_region ?_
  refine JL_val (.agg (List.toArray (α := Value) ([U64 e] ++ cu8 d ++ cu8 t))) (Ev_load rfl (Ld_agg Tryd.isAgg76 Tryd.sizeOf76 (by simp [hd, ht]) (MemAt.ent 0 rfl (Seg.whole _)))) rfl ?_
  refine JL_step (Step_callP 61 [.agg (List.toArray (α := Value) ([U64 e] ++ cu8 d ++ cu8 t))] (.agg (List.toArray (α := Value) ([U64 e] ++ cu8 d ++ cu8 t))) (Cl_func [.agg (List.toArray (α := Value) ([U64 e] ++ cu8 d ++ cu8 t))] Tryd.call61 rfl) (fun w1 hw1 => doc7_c e d t w1 hd ht)) rfl ?_
  rintro v1 L1 ⟨rfl, rfl⟩
  show JL _ _ _ _ ((43, .agg (List.toArray (α := Value) ([U64 e] ++ cu8 d ++ cu8 t))) :: _) [⟨nb1, [U64 e] ++ cu8 d ++ cu8 t, 76, (0, 0)⟩, ⟨nb2, cu8 (sumG constL initL (leafT i e d t)), 25, (0, 0)⟩, ⟨nb3, cu8 (leafT i e d t) ++ sp1, 5, (0, 0)⟩]
  refine JL_step (Step_alloc _ ([U64 (0:UInt64)] ++ cu8 (zr8 32) ++ cu8 (zr8 16)) Tryd.zeroValue81 (by kernel_rfl)) rfl ?_
  rintro v1 L1 ⟨nb4, hnb4, rfl, rfl⟩
  show JL _ _ _ _ ((9, Ptr nb4 0) :: _) [⟨nb1, [U64 e] ++ cu8 d ++ cu8 t, 76, (0, 0)⟩, ⟨nb2, cu8 (sumG constL initL (leafT i e d t)), 25, (0, 0)⟩, ⟨nb3, cu8 (leafT i e d t) ++ sp1, 5, (0, 0)⟩, ⟨nb4, [U64 (0:UInt64)] ++ cu8 (zr8 32) ++ cu8 (zr8 16), 81, (0, 0)⟩]
  refine JL_step (Step_store 3 nb4 0 49 ([U64 (0:UInt64)] ++ cu8 (zr8 32) ++ cu8 (zr8 16)) 81 (.agg (List.toArray (α := Value) ([U64 e] ++ cu8 d ++ cu8 t))) ([U64 e] ++ cu8 d ++ cu8 t) ([U64 e] ++ cu8 d ++ cu8 t) rfl rfl rfl (by first | rfl | simp) Tryd.sizeOf81 (by simp [hd, ht]) (one_app (one_app (by simp [Value.oneCell']) one_u8) one_u8) (by simp [(zr8_len 32), (zr8_len 16)]) (lay_whole (by simp [(zr8_len 32), (zr8_len 16), hd, ht]))) rfl ?_
  rintro v1 L1 ⟨rfl, rfl⟩
  show JL _ _ _ _ _ [⟨nb1, [U64 e] ++ cu8 d ++ cu8 t, 76, (0, 0)⟩, ⟨nb2, cu8 (sumG constL initL (leafT i e d t)), 25, (0, 0)⟩, ⟨nb3, cu8 (leafT i e d t) ++ sp1, 5, (0, 0)⟩, ⟨nb4, [U64 e] ++ cu8 d ++ cu8 t, 81, (0, 0)⟩]
  refine JL_nil ?_
  refine JQ_then ?_
  refine JC_seq ?_
  refine JC_draw 69 5 [(0, .nilIface), (1, .bool true), (2, .bool true), (3, .nilIface), (4, .bool true), (5, .bool true), (6, .bool true), (7, .agg (cu8 (sumG constL initL (leafT i e d t))).toArray), (8, U64 i), (9, .agg (List.toArray (α := Value) ([U64 e] ++ cu8 d ++ cu8 t)))] Tryd.mixed rfl (by decide +kernel) ?_
  refine DP_one ⟨[], [0, 1, 2, 3, 4, 5, 6, 7, 8, 9], [], [0, 1, 2, 3, 4, 5, 6, 7, 8, 9], [10]⟩ 10 _ rfl rfl (by decide +kernel) rfl ⟨⟨_, rfl, Qok_val rfl (Ev_move rfl)⟩, ⟨_, rfl, Qok_val rfl (Ev_bin _ _ _ rfl rfl (fun _ => eqGuard_nn ..) fun _ => eql_if_nil_nil Tryd.underlying39)⟩, ⟨_, rfl, Qok_val rfl (Ev_move rfl)⟩, ⟨_, rfl, Qok_gval 2 46 true _ rfl rfl rfl rfl (Ev_move rfl)⟩, ⟨_, rfl, Qok_gval 2 46 true _ rfl rfl rfl rfl (Ev_bin _ _ _ rfl rfl (fun _ => eqGuard_nn ..) fun _ => eql_if_nil_nil Tryd.underlying39)⟩, ⟨_, rfl, Qok_val rfl (Ev_pickT _ rfl rfl rfl)⟩, ⟨_, rfl, Qok_val rfl (Ev_move rfl)⟩, ⟨_, rfl, Qok_gval 6 50 true _ rfl rfl rfl rfl (Ev_load rfl (Ld_agg Tryd.isAgg25 Tryd.sizeOf25 (len_cu8 (sumG_len _ _ _)) (MemAt.ent 1 rfl (Seg.whole _))))⟩, ⟨_, rfl, Qok_gval 6 50 true _ rfl rfl rfl rfl (Ev_move rfl)⟩, ⟨_, rfl, Qok_gval 6 50 true _ rfl rfl rfl rfl (Ev_load rfl (Ld_agg Tryd.isAgg81 Tryd.sizeOf81 (by simp [hd, ht]) (MemAt.ent 3 rfl (Seg.whole _))))⟩, trivial⟩ rfl (Cok_gstep 6 50 true _ rfl rfl rfl rfl (Step_callP 81 [U64 i, .agg (List.toArray (α := Value) ([U64 e] ++ cu8 d ++ cu8 t))] (.agg (cu8 (sumG constL initL (leafT i e d t))).toArray) (Cl_func [U64 i, .agg (List.toArray (α := Value) ([U64 e] ++ cu8 d ++ cu8 t))] Tryd.call81 rfl) (fun w1 hw1 => rleaf_c i e d t w1 hd ht (GLr.at hw1 hGr) (GLi.at hw1 hGi)))) ?_
  rintro v1 L1 ⟨rfl, rfl⟩
  refine ⟨[(11, .bool (decide ((sumG constL initL (leafT i e d t)) = (sumG constL initL (leafT i e d t))))), (12, .bool (decide ((sumG constL initL (leafT i e d t)) = (sumG constL initL (leafT i e d t))))), (13, .bool (decide ((sumG constL initL (leafT i e d t)) = (sumG constL initL (leafT i e d t))))), (14, Slc nb3 0 61 cp1), (15, U64 i), (16, .agg (List.toArray (α := Value) ([U64 e] ++ cu8 d ++ cu8 t)))], ?_⟩
  show DP _ _ _ _ _ _ _ _ [⟨nb1, [U64 e] ++ cu8 d ++ cu8 t, 76, (0, 0)⟩, ⟨nb2, cu8 (sumG constL initL (leafT i e d t)), 25, (0, 0)⟩, ⟨nb3, cu8 (leafT i e d t) ++ sp1, 5, (0, 0)⟩, ⟨nb4, [U64 e] ++ cu8 d ++ cu8 t, 81, (0, 0)⟩]
  refine DP_one ⟨[10], [0, 1, 2, 3, 4, 5, 6, 7, 8, 9, 11, 12, 13, 14, 15, 16], [0, 1, 2, 3, 4, 5, 6, 8, 9], [7, 11, 12, 13, 14, 15, 16], [17]⟩ 17 _ rfl rfl (by decide +kernel) rfl ⟨⟨_, rfl, Qok_gval 6 50 true _ rfl rfl rfl rfl (Ev_load rfl (Ld_agg Tryd.isAgg25 Tryd.sizeOf25 (len_cu8 (sumG_len _ _ _)) (MemAt.ent 1 rfl (Seg.whole _))))⟩, ⟨_, rfl, Qok_gval 6 50 true _ rfl rfl rfl rfl (Ev_bin _ _ _ rfl rfl (fun _ => eqGuard_agg _ _ _ _ _ _ (by kernel_rfl)) fun _ => eql_arr8 Tryd.underlying25 Tryd.underlying5 Tryd.isAgg5 Tryd.cells5 Tryd.has5 (by simp [(sumG_len _ _ _)]) (by simp [(sumG_len _ _ _)]))⟩, ⟨_, rfl, Qok_val rfl (Ev_pickT _ rfl rfl rfl)⟩, ⟨_, rfl, Qok_val rfl (Ev_move rfl)⟩, ⟨_, rfl, Qok_gval 13 57 true _ rfl rfl rfl (decide_eq_true rfl) (Ev_move rfl)⟩, ⟨_, rfl, Qok_gval 13 57 true _ rfl rfl rfl (decide_eq_true rfl) (Ev_move rfl)⟩, ⟨_, rfl, Qok_gval 13 57 true _ rfl rfl rfl (decide_eq_true rfl) (Ev_load rfl (Ld_agg Tryd.isAgg81 Tryd.sizeOf81 (by simp [hd, ht]) (MemAt.ent 3 rfl (Seg.whole _))))⟩, trivial⟩ rfl (Cok_gstep 13 57 true _ rfl rfl rfl (decide_eq_true rfl) (Step_callN 82 [U64 i, .agg (List.toArray (α := Value) ([U64 e] ++ cu8 d ++ cu8 t))] _ (Cl_func [U64 i, .agg (List.toArray (α := Value) ([U64 e] ++ cu8 d ++ cu8 t))] Tryd.call82 rfl) (fun w1 hw1 => rleafText_c i e d t w1 hd ht))) ?_
  rintro v1 L1 ⟨_, ⟨nb5, sp2, cp2, rfl, rfl, hc4, hc5, hc6⟩, rfl⟩
  refine ⟨[], ?_⟩
  show DP _ _ _ _ _ _ _ _ [⟨nb1, [U64 e] ++ cu8 d ++ cu8 t, 76, (0, 0)⟩, ⟨nb2, cu8 (sumG constL initL (leafT i e d t)), 25, (0, 0)⟩, ⟨nb3, cu8 (leafT i e d t) ++ sp1, 5, (0, 0)⟩, ⟨nb4, [U64 e] ++ cu8 d ++ cu8 t, 81, (0, 0)⟩, ⟨nb5, cu8 (leafT i e d t) ++ sp2, 5, (0, 0)⟩]
  refine DP_one ⟨[10, 17], [0, 1, 2, 3, 4, 5, 6, 7, 8, 9, 11, 12, 13, 14, 15, 16], [0, 1, 2, 3, 4, 5, 6, 7, 8, 9, 11, 12, 13, 15, 16], [14], [18]⟩ 18 _ rfl rfl (by decide +kernel) rfl ⟨⟨_, rfl, Qok_gval 13 57 true _ rfl rfl rfl (decide_eq_true rfl) (Ev_move rfl)⟩, trivial⟩ rfl (Cok_gstep 13 57 true _ rfl rfl rfl (decide_eq_true rfl) (Step_callP 25 [Slc nb3 0 61 cp1, Slc nb5 0 61 cp2] (.bool (decide ((leafT i e d t) = (leafT i e d t)))) (Cl_func [Slc nb3 0 61 cp1, Slc nb5 0 61 cp2] Tryd.call25 rfl) (fun w1 hw1 => bytes_c (some ⟨nb3, 0, none⟩) (some ⟨nb5, 0, none⟩) 61 61 cp1 cp2 (leafT i e d t) (leafT i e d t) w1 (show (leafT i e d t).length = 61 from (leafT_len hd ht)) (show (leafT i e d t).length = 61 from (leafT_len hd ht)) (RdB.of hw1 (MemAt.ent 2 rfl (Seg.left (Seg.whole _))) (by simp)) (RdB.of hw1 (MemAt.ent 4 rfl (Seg.left (Seg.whole _))) (by simp))))) ?_
  rintro v1 L1 ⟨rfl, rfl⟩
  refine ⟨[(19, .bool (decide ((leafT i e d t) = (leafT i e d t)))), (20, .bool (decide ((leafT i e d t) = (leafT i e d t)))), (21, Slc nb3 0 61 cp1)], ?_⟩
  show DP _ _ _ _ _ _ _ _ [⟨nb1, [U64 e] ++ cu8 d ++ cu8 t, 76, (0, 0)⟩, ⟨nb2, cu8 (sumG constL initL (leafT i e d t)), 25, (0, 0)⟩, ⟨nb3, cu8 (leafT i e d t) ++ sp1, 5, (0, 0)⟩, ⟨nb4, [U64 e] ++ cu8 d ++ cu8 t, 81, (0, 0)⟩, ⟨nb5, cu8 (leafT i e d t) ++ sp2, 5, (0, 0)⟩]
  refine DP_one ⟨[10, 17, 18], [0, 1, 2, 3, 4, 5, 6, 7, 8, 9, 11, 12, 13, 14, 15, 16, 19, 20, 21], [0, 1, 2, 3, 4, 5, 6, 7, 8, 9, 11, 12, 13, 14, 15, 16], [19, 20, 21], [22]⟩ 22 _ rfl rfl (by decide +kernel) rfl ⟨⟨_, rfl, Qok_val rfl (Ev_pickT _ rfl (decide_eq_true rfl) rfl)⟩, ⟨_, rfl, Qok_val rfl (Ev_move rfl)⟩, ⟨_, rfl, Qok_gval 20 64 true _ rfl rfl rfl (decide_eq_true rfl) (Ev_move rfl)⟩, trivial⟩ rfl (Cok_gstep 20 64 true _ rfl rfl rfl (decide_eq_true rfl) (Step_callP 76 [Slc nb3 0 61 cp1] (I64 ((kindN (leafT i e d t):Int))) (Cl_func [Slc nb3 0 61 cp1] Tryd.call76 rfl) (fun w1 hw1 => kind_c (some ⟨nb3, 0, none⟩) 61 cp1 (leafT i e d t) w1 (show (leafT i e d t).length = 61 from (leafT_len hd ht)) (RdB.of hw1 (MemAt.ent 2 rfl (Seg.left (Seg.whole _))) (by simp))))) ?_
  rintro v1 L1 ⟨rfl, rfl⟩
  refine ⟨[(23, .bool (decide (((kindN (leafT i e d t):Int)) = (2:Int)))), (24, .bool (decide (((kindN (leafT i e d t):Int)) = (2:Int)))), (25, .bool (decide (((kindN (leafT i e d t):Int)) = (2:Int))))], ?_⟩
  show DP _ _ _ _ _ _ _ _ [⟨nb1, [U64 e] ++ cu8 d ++ cu8 t, 76, (0, 0)⟩, ⟨nb2, cu8 (sumG constL initL (leafT i e d t)), 25, (0, 0)⟩, ⟨nb3, cu8 (leafT i e d t) ++ sp1, 5, (0, 0)⟩, ⟨nb4, [U64 e] ++ cu8 d ++ cu8 t, 81, (0, 0)⟩, ⟨nb5, cu8 (leafT i e d t) ++ sp2, 5, (0, 0)⟩]
  refine DP_end ⟨[10, 17, 18, 22], [0, 1, 2, 3, 4, 5, 6, 7, 8, 9, 11, 12, 13, 14, 15, 16, 19, 20, 21, 23, 24, 25], [0, 1, 2, 3, 4, 5, 6, 7, 8, 9, 11, 12, 13, 14, 15, 16, 19, 20, 21], [23, 24, 25], []⟩ rfl rfl (by decide +kernel) rfl ⟨⟨_, rfl, Qok_gval 20 64 true _ rfl rfl rfl (decide_eq_true rfl) (Ev_bini rfl rfl fun _ => bin_eql_i _ _)⟩, ⟨_, rfl, Qok_val rfl (Ev_pickT _ rfl (decide_eq_true rfl) rfl)⟩, ⟨_, rfl, Qok_val rfl (Ev_assign rfl)⟩, trivial⟩ ?_
  refine K_sub (F' := [(4, .bool (decide (((kindN (leafT i e d t):Int)) = (2:Int))))]) (Sub.cons (by kernel_rfl) (Sub.nil)) ?_
  show JQ _ _ _ [(4, .bool (decide (((kindN (leafT i e d t):Int)) = (2:Int))))] _
  refine JQ_then ?_
  refine JC_ret ?_
  refine JQ_ret (.bool (decide (((kindN (leafT i e d t):Int)) = (2:Int)))) (res1 Tryd.results21 (RV_tmp rfl)) fun w1 hw1 => ?_
  exact ⟨_, [], rfl, ⟨by rw [show (decide (((kindN (leafT i e d t):Int)) = (2:Int))) = true from (decide_eq_true (by rw [kind_leaf hd ht]; rfl))], rfl⟩, hw1.sub (by simp) (by simp)⟩

theorem nodeLeaves_w (i : UInt64) (e : UInt64) (d t : List UInt8) (w : World) (hd : d.length = 32) (ht : t.length = 16) (hG : GLs w) (hGr : GLr w) (hGi : GLi w) : Calls Tryd.prog 21 #[U64 i, .agg (List.toArray (α := Value) ([U64 e] ++ cu8 d ++ cu8 t))] w (Post w [] (fun v L => v = .bool true ∧ L = [])) := by
  by_cases hq : (4294967295:UInt64) < i
  · exact nodeLeavesB_c i e d t w hd ht hG hGr hGi hq
  · exact nodeLeavesI_c i e d t w hd ht hG hGr hGi hq

theorem nodeJoinsB_c (h : Int) (l r : List UInt8) (w : World) (hl : l.length = 32) (hr : r.length = 32) (hG : GLs w) (hGr : GLr w) (hGi : GLi w) (hh : h < 0 ∨ 32 < h) : Calls Tryd.prog 18 #[I64 (h), .agg (cu8 l).toArray, .agg (cu8 r).toArray] w (Post w [] (fun v L => v = .bool true ∧ L = [])) := by
  have hmx : maxLen = 9223372036854775807 := rfl
  refine enter w [] 112 [] [I64 (h), .agg (cu8 l).toArray, .agg (cu8 r).toArray] Tryd.func18 rfl rfl (by simp) (Hp.start (by simp) (by simp) (by simp)) ?_
  show JC _ _ _ [(0, I64 (h)), (1, .agg (cu8 l).toArray), (2, .agg (cu8 r).toArray)] _
  refine JC_seq ?_
  refine JC_region ?_
  refine JL_step (Step_box (.agg (cu8 l).toArray) (cu8 l) rfl (by first | rfl | simp)) rfl ?_
  rintro v1 L1 ⟨nb1, hnb1, rfl, rfl⟩
  show JL _ _ _ _ ((4, Ptr nb1 0) :: _) [⟨nb1, cu8 l, 25, (0, 0)⟩]
  refine JL_step (Step_box (.agg (cu8 r).toArray) (cu8 r) rfl (by first | rfl | simp)) rfl ?_
  rintro v1 L1 ⟨nb2, hnb2, rfl, rfl⟩
  show JL _ _ _ _ ((5, Ptr nb2 0) :: _) [⟨nb1, cu8 l, 25, (0, 0)⟩, ⟨nb2, cu8 r, 25, (0, 0)⟩]
  refine JL_val _ (Ev_assign rfl) rfl ?_
  refine JL_nil ?_
  refine JQ_then ?_
  refine JC_seq ?_
  refine JC_seq ?_
  refine JC_region ?_
  refine JL_step (Step_callP 69 [] (.bool true) (Cl_func [] Tryd.call69 rfl) (fun w1 hw1 => alive8_c  w1 (hG.at hw1))) rfl ?_
  rintro v1 L1 ⟨rfl, rfl⟩
  show JL _ _ _ _ ((14, .bool true) :: _) [⟨nb1, cu8 l, 25, (0, 0)⟩, ⟨nb2, cu8 r, 25, (0, 0)⟩]
  refine JL_val (.bool (!true)) (Ev_not rfl) rfl ?_
  refine JL_nil ?_
  refine JQ_then ?_
  refine JC_condF _ rfl rfl ?_
  refine JC_skip ?_
  refine JQ_then ?_
  refine JC_seq ?_
  refine JC_region ?_
  refine JL_val _ (Ev_move rfl) rfl ?_
  refine JL_val (.agg (cu8 l).toArray) (Ev_load rfl (Ld_agg Tryd.isAgg25 Tryd.sizeOf25 (len_cu8 hl) (MemAt.ent 0 rfl (Seg.whole _)))) rfl ?_
  refine JL_val (.agg (cu8 r).toArray) (Ev_load rfl (Ld_agg Tryd.isAgg25 Tryd.sizeOf25 (len_cu8 hr) (MemAt.ent 1 rfl (Seg.whole _)))) rfl ?_
  refine JL_step (Step_callP 70 [I64 (h), .agg (cu8 l).toArray, .agg (cu8 r).toArray] (.tuple #[.agg (cu8 (zr8 32)).toArray, .iface 43 (I64 (1:Int))]) (Cl_func [I64 (h), .agg (cu8 l).toArray, .agg (cu8 r).toArray] Tryd.call70 rfl) (fun w1 hw1 => join_nB_c (h) l r w1 hl hr (by omega) (hG.at hw1))) rfl ?_
  rintro v1 L1 ⟨rfl, rfl⟩
  show JL _ _ _ _ ((20, .tuple #[.agg (cu8 (zr8 32)).toArray, .iface 43 (I64 (1:Int))]) :: _) [⟨nb1, cu8 l, 25, (0, 0)⟩, ⟨nb2, cu8 r, 25, (0, 0)⟩]
  refine JL_val _ (Ev_move rfl) rfl ?_
  refine JL_val _ (Ev_extract rfl rfl) rfl ?_
  refine JL_val _ (Ev_extract rfl rfl) rfl ?_
  refine JL_step (Step_alloc _ (cu8 (zr8 32)) Tryd.zeroValue25 (by kernel_rfl)) rfl ?_
  rintro v1 L1 ⟨nb3, hnb3, rfl, rfl⟩
  show JL _ _ _ _ ((7, Ptr nb3 0) :: _) [⟨nb1, cu8 l, 25, (0, 0)⟩, ⟨nb2, cu8 r, 25, (0, 0)⟩, ⟨nb3, cu8 (zr8 32), 25, (0, 0)⟩]
  refine JL_step (Step_store 2 nb3 0 32 (cu8 (zr8 32)) 25 (.agg (cu8 (zr8 32)).toArray) (cu8 (zr8 32)) (cu8 (zr8 32)) rfl rfl rfl (by first | rfl | simp) Tryd.sizeOf25 (len_cu8 (zr8_len 32)) (by first | exact one_u8 | exact one_u32 | exact one_u64 | (simp [cu8, cu32, cu64, Value.oneCell']; done)) (by simp [(zr8_len 32)]) (lay_whole (by simp [(zr8_len 32), (zr8_len 32)]))) rfl ?_
  rintro v1 L1 ⟨rfl, rfl⟩
  show JL _ _ _ _ _ [⟨nb1, cu8 l, 25, (0, 0)⟩, ⟨nb2, cu8 r, 25, (0, 0)⟩, ⟨nb3, cu8 (zr8 32), 25, (0, 0)⟩]
  refine JL_val _ (Ev_assign rfl) rfl ?_
  refine JL_nil ?_
  refine JQ_then ?_
  refine JC_seq ?_
  refine JC_region ?_
  refine JL_val _ (Ev_move rfl) rfl ?_
  refine JL_val (.agg (cu8 l).toArray) (Ev_load rfl (Ld_agg Tryd.isAgg25 Tryd.sizeOf25 (len_cu8 hl) (MemAt.ent 0 rfl (Seg.whole _)))) rfl ?_
  refine JL_val (.agg (cu8 r).toArray) (Ev_load rfl (Ld_agg Tryd.isAgg25 Tryd.sizeOf25 (len_cu8 hr) (MemAt.ent 1 rfl (Seg.whole _)))) rfl ?_
  refine JL_step (Step_callP 71 [I64 (h), .agg (cu8 l).toArray, .agg (cu8 r).toArray] (.tuple #[.slice none 0 0, .iface 43 (I64 (1:Int))]) (Cl_func [I64 (h), .agg (cu8 l).toArray, .agg (cu8 r).toArray] Tryd.call71 rfl) (fun w1 hw1 => joinTextB_c (h) l r w1 hl hr (by omega))) rfl ?_
  rintro v1 L1 ⟨rfl, rfl⟩
  show JL _ _ _ _ ((27, .tuple #[.slice none 0 0, .iface 43 (I64 (1:Int))]) :: _) [⟨nb1, cu8 l, 25, (0, 0)⟩, ⟨nb2, cu8 r, 25, (0, 0)⟩, ⟨nb3, cu8 (zr8 32), 25, (0, 0)⟩]
  refine JL_val _ (Ev_move rfl) rfl ?_
  refine JL_val _ (Ev_extract rfl rfl) rfl ?_
  refine JL_val _ (Ev_extract rfl rfl) rfl ?_
  refine JL_val _ (Ev_assign rfl) rfl ?_
  refine JL_val _ (Ev_assign rfl) rfl ?_
  refine JL_nil ?_
  refine JQ_then ?_
  refine JC_seq ?_
  refine JC_region ?_
  refine JL_val _ (Ev_move rfl) rfl ?_
  refine JL_step (Step_callP 72 [I64 (h)] (.tuple #[.agg (cu8 (zr8 32)).toArray, .iface 43 (I64 (1:Int))]) (Cl_func [I64 (h)] Tryd.call72 rfl) (fun w1 hw1 => emptyB_c (h) w1 hh (hG.at hw1))) rfl ?_
  rintro v1 L1 ⟨rfl, rfl⟩
  show JL _ _ _ _ ((32, .tuple #[.agg (cu8 (zr8 32)).toArray, .iface 43 (I64 (1:Int))]) :: _) [⟨nb1, cu8 l, 25, (0, 0)⟩, ⟨nb2, cu8 r, 25, (0, 0)⟩, ⟨nb3, cu8 (zr8 32), 25, (0, 0)⟩]
  refine JL_val _ (Ev_move rfl) rfl ?_
  refine JL_val _ (Ev_extract rfl rfl) rfl ?_
  refine JL_val _ (Ev_extract rfl rfl) rfl ?_
  refine JL_step (Step_alloc _ (cu8 (zr8 32)) Tryd.zeroValue25 (by kernel_rfl)) rfl ?_
  rintro v1 L1 ⟨nb4, hnb4, rfl, rfl⟩
  show JL _ _ _ _ ((11, Ptr nb4 0) :: _) [⟨nb1, cu8 l, 25, (0, 0)⟩, ⟨nb2, cu8 r, 25, (0, 0)⟩, ⟨nb3, cu8 (zr8 32), 25, (0, 0)⟩, ⟨nb4, cu8 (zr8 32), 25, (0, 0)⟩]
  refine JL_step (Step_store 3 nb4 0 32 (cu8 (zr8 32)) 25 (.agg (cu8 (zr8 32)).toArray) (cu8 (zr8 32)) (cu8 (zr8 32)) rfl rfl rfl (by first | rfl | simp) Tryd.sizeOf25 (len_cu8 (zr8_len 32)) (by first | exact one_u8 | exact one_u32 | exact one_u64 | (simp [cu8, cu32, cu64, Value.oneCell']; done)) (by simp [(zr8_len 32)]) (lay_whole (by simp [(zr8_len 32), (zr8_len 32)]))) rfl ?_
  rintro v1 L1 ⟨rfl, rfl⟩
  show JL _ _ _ _ _ [⟨nb1, cu8 l, 25, (0, 0)⟩, ⟨nb2, cu8 r, 25, (0, 0)⟩, ⟨nb3, cu8 (zr8 32), 25, (0, 0)⟩, ⟨nb4, cu8 (zr8 32), 25, (0, 0)⟩]
  refine JL_val _ (Ev_assign rfl) rfl ?_
  refine JL_nil ?_
  refine JQ_then ?_
  refine JC_seq ?_
  refine JC_region ?_
  refine JL_step (Step_callN 73 [] _ (Cl_func [] Tryd.call73 rfl) (fun w1 hw1 => rempties_c w1 (GLr.at hw1 hGr) (GLi.at hw1 hGi))) rfl ?_
  rintro v1 L1 ⟨_, ⟨nb5, sp1, cp1, rfl, rfl, hc1, hc2, hc3⟩, rfl⟩
  show JL _ _ _ _ ((35, Slc nb5 0 33 cp1) :: _) [⟨nb1, cu8 l, 25, (0, 0)⟩, ⟨nb2, cu8 r, 25, (0, 0)⟩, ⟨nb3, cu8 (zr8 32), 25, (0, 0)⟩, ⟨nb4, cu8 (zr8 32), 25, (0, 0)⟩, ⟨nb5, cu8 (empR 32) ++ sp1, 25, (0, 0)⟩]
  refine JL_val _ (Ev_assign rfl) rfl ?_
  refine JL_nil ?_
  refine JQ_then ?_
  refine JC_seq ?_
  refine JC_seq ?_
  refine JC_region ?_
  refine JL_val _ (Ev_move rfl) rfl ?_
  refine JL_val (.bool (decide ((h) < (0:Int)))) (Ev_bini rfl rfl fun _ => bin_lss_i _ _) rfl ?_
  refine JL_val _ (Ev_move rfl) rfl ?_
  rcases Bool.eq_false_or_eq_true (decide ((h) < (0:Int))) with hb1 | hb1
  ·
    have hp1 : (h) < (0:Int) := of_decide_eq_true hb1
    refine JL_gskip 2 38 false _ rfl rfl hb1 rfl ?_
    refine JL_gskip 2 38 false _ rfl rfl hb1 rfl ?_
    refine JL_val _ (Ev_pickT _ rfl hb1 rfl) rfl ?_
    refine JL_nil ?_
    refine JQ_then ?_
    refine JC_condT _ rfl rfl ?_
    refine JC_seq ?_
    refine JC_region ?_
    refine JL_val _ (Ev_move rfl) rfl ?_
    refine JL_step (Step_callP 33 [.iface 43 (I64 (1:Int)), I64 (1:Int)] (.bool true) (Cl_func [.iface 43 (I64 (1:Int)), I64 (1:Int)] Tryd.call33 rfl) (fun w1 hw1 => is_c 1 1 w1)) rfl ?_
    rintro v1 L1 ⟨rfl, rfl⟩
    show JL _ _ _ _ ((43, .bool true) :: _) [⟨nb1, cu8 l, 25, (0, 0)⟩, ⟨nb2, cu8 r, 25, (0, 0)⟩, ⟨nb3, cu8 (zr8 32), 25, (0, 0)⟩, ⟨nb4, cu8 (zr8 32), 25, (0, 0)⟩, ⟨nb5, cu8 (empR 32) ++ sp1, 25, (0, 0)⟩]
    refine JL_val _ (Ev_move rfl) rfl ?_
    refine JL_gval 2 44 true _ _ rfl rfl rfl (Ev_move rfl) rfl ?_
    refine JL_gstep 2 44 true _ rfl rfl rfl (Step_callP 33 [.iface 43 (I64 (1:Int)), I64 (1:Int)] (.bool true) (Cl_func [.iface 43 (I64 (1:Int)), I64 (1:Int)] Tryd.call33 rfl) (fun w1 hw1 => is_c 1 1 w1)) rfl ?_
    rintro v1 L1 ⟨rfl, rfl⟩
    show JL _ _ _ _ ((46, .bool true) :: _) [⟨nb1, cu8 l, 25, (0, 0)⟩, ⟨nb2, cu8 r, 25, (0, 0)⟩, ⟨nb3, cu8 (zr8 32), 25, (0, 0)⟩, ⟨nb4, cu8 (zr8 32), 25, (0, 0)⟩, ⟨nb5, cu8 (empR 32) ++ sp1, 25, (0, 0)⟩]
    refine JL_val _ (Ev_pickT _ rfl rfl rfl) rfl ?_
    refine JL_val _ (Ev_move rfl) rfl ?_
    refine JL_gval 6 48 true _ _ rfl rfl rfl (Ev_move rfl) rfl ?_
    refine JL_gstep 6 48 true _ rfl rfl rfl (Step_callP 33 [.iface 43 (I64 (1:Int)), I64 (1:Int)] (.bool true) (Cl_func [.iface 43 (I64 (1:Int)), I64 (1:Int)] Tryd.call33 rfl) (fun w1 hw1 => is_c 1 1 w1)) rfl ?_
    rintro v1 L1 ⟨rfl, rfl⟩
    show JL _ _ _ _ ((50, .bool true) :: _) [⟨nb1, cu8 l, 25, (0, 0)⟩, ⟨nb2, cu8 r, 25, (0, 0)⟩, ⟨nb3, cu8 (zr8 32), 25, (0, 0)⟩, ⟨nb4, cu8 (zr8 32), 25, (0, 0)⟩, ⟨nb5, cu8 (empR 32) ++ sp1, 25, (0, 0)⟩]
    refine JL_val _ (Ev_pickT _ rfl rfl rfl) rfl ?_
    refine JL_val _ (Ev_move rfl) rfl ?_
    refine JL_gval 10 52 true _ (.agg (cu8 (zr8 32)).toArray) rfl rfl rfl (Ev_load rfl (Ld_agg Tryd.isAgg25 Tryd.sizeOf25 (len_cu8 (zr8_len 32)) (MemAt.ent 3 rfl (Seg.whole _)))) rfl ?_
    refine JL_gval 10 52 true _ (.agg (cu8 (zr8 32)).toArray) rfl rfl rfl (Ev_build [] _ rfl (fun _ => by kernel_rfl)) rfl ?_
    refine JL_gval 10 52 true _ (.bool (decide ((zr8 32) = (zr8 32)))) rfl rfl rfl (Ev_bin _ _ _ rfl rfl (fun _ => eqGuard_agg _ _ _ _ _ _ (by kernel_rfl)) fun _ => eql_arr8 Tryd.underlying25 Tryd.underlying5 Tryd.isAgg5 Tryd.cells5 Tryd.has5 (by simp [(zr8_len 32)]) (by simp [(zr8_len 32)])) rfl ?_
    refine JL_val _ (Ev_pickT _ rfl rfl rfl) rfl ?_
    refine JL_val _ (Ev_move rfl) rfl ?_
    refine JL_gval 15 57 true _ (.agg (cu8 (zr8 32)).toArray) rfl rfl (decide_eq_true rfl) (Ev_load rfl (Ld_agg Tryd.isAgg25 Tryd.sizeOf25 (len_cu8 (zr8_len 32)) (MemAt.ent 2 rfl (Seg.whole _)))) rfl ?_
    refine JL_gval 15 57 true _ (.agg (cu8 (zr8 32)).toArray) rfl rfl (decide_eq_true rfl) (Ev_build [] _ rfl (fun _ => by kernel_rfl)) rfl ?_
    refine JL_gval 15 57 true _ (.bool (decide ((zr8 32) = (zr8 32)))) rfl rfl (decide_eq_true rfl) (Ev_bin _ _ _ rfl rfl (fun _ => eqGuard_agg _ _ _ _ _ _ (by kernel_rfl)) fun _ => eql_arr8 Tryd.underlying25 Tryd.underlying5 Tryd.isAgg5 Tryd.cells5 Tryd.has5 (by simp [(zr8_len 32)]) (by simp [(zr8_len 32)])) rfl ?_
    refine JL_val _ (Ev_pickT _ rfl (decide_eq_true rfl) rfl) rfl ?_
    refine JL_val _ (Ev_assign rfl) rfl ?_
    refine JL_nil ?_
    refine JQ_then ?_
    refine JC_ret ?_
    refine JQ_then_ret ?_
    refine JQ_ret (.bool (decide ((zr8 32) = (zr8 32)))) (res1 Tryd.results18 (RV_tmp rfl)) fun w1 hw1 => ?_
    exact ⟨_, [], rfl, ⟨by rw [show (decide ((zr8 32) = (zr8 32))) = true from (decide_eq_true rfl)], rfl⟩, hw1.sub (by simp) (by simp)⟩
  ·
    have hp1 : ¬ ((h) < (0:Int)) := of_decide_eq_false hb1
    refine JL_gval 2 38 false _ _ rfl rfl hb1 (Ev_move rfl) rfl ?_
    refine JL_gval 2 38 false _ (.bool (decide ((32:Int) < (h)))) rfl rfl hb1 (Ev_bini rfl rfl fun _ => bin_gtr_i _ _) rfl ?_
    refine JL_val _ (Ev_pickF _ rfl hb1 rfl) rfl ?_
    refine JL_nil ?_
    refine JQ_then ?_
    refine JC_cond (decide ((32:Int) < (h))) rfl (fun hb2 => ?_) (fun hb2 => ?_)
    ·
      have hp2 : (32:Int) < (h) := of_decide_eq_true hb2
      refine JC_seq ?_
      refine JC_region ?_
      refine JL_val _ (Ev_move rfl) rfl ?_
      refine JL_step (Step_callP 33 [.iface 43 (I64 (1:Int)), I64 (1:Int)] (.bool true) (Cl_func [.iface 43 (I64 (1:Int)), I64 (1:Int)] Tryd.call33 rfl) (fun w1 hw1 => is_c 1 1 w1)) rfl ?_
      rintro v1 L1 ⟨rfl, rfl⟩
      show JL _ _ _ _ ((43, .bool true) :: _) [⟨nb1, cu8 l, 25, (0, 0)⟩, ⟨nb2, cu8 r, 25, (0, 0)⟩, ⟨nb3, cu8 (zr8 32), 25, (0, 0)⟩, ⟨nb4, cu8 (zr8 32), 25, (0, 0)⟩, ⟨nb5, cu8 (empR 32) ++ sp1, 25, (0, 0)⟩]
      refine JL_val _ (Ev_move rfl) rfl ?_
      refine JL_gval 2 44 true _ _ rfl rfl rfl (Ev_move rfl) rfl ?_
      refine JL_gstep 2 44 true _ rfl rfl rfl (Step_callP 33 [.iface 43 (I64 (1:Int)), I64 (1:Int)] (.bool true) (Cl_func [.iface 43 (I64 (1:Int)), I64 (1:Int)] Tryd.call33 rfl) (fun w1 hw1 => is_c 1 1 w1)) rfl ?_
      rintro v1 L1 ⟨rfl, rfl⟩
      show JL _ _ _ _ ((46, .bool true) :: _) [⟨nb1, cu8 l, 25, (0, 0)⟩, ⟨nb2, cu8 r, 25, (0, 0)⟩, ⟨nb3, cu8 (zr8 32), 25, (0, 0)⟩, ⟨nb4, cu8 (zr8 32), 25, (0, 0)⟩, ⟨nb5, cu8 (empR 32) ++ sp1, 25, (0, 0)⟩]
      refine JL_val _ (Ev_pickT _ rfl rfl rfl) rfl ?_
      refine JL_val _ (Ev_move rfl) rfl ?_
      refine JL_gval 6 48 true _ _ rfl rfl rfl (Ev_move rfl) rfl ?_
      refine JL_gstep 6 48 true _ rfl rfl rfl (Step_callP 33 [.iface 43 (I64 (1:Int)), I64 (1:Int)] (.bool true) (Cl_func [.iface 43 (I64 (1:Int)), I64 (1:Int)] Tryd.call33 rfl) (fun w1 hw1 => is_c 1 1 w1)) rfl ?_
      rintro v1 L1 ⟨rfl, rfl⟩
      show JL _ _ _ _ ((50, .bool true) :: _) [⟨nb1, cu8 l, 25, (0, 0)⟩, ⟨nb2, cu8 r, 25, (0, 0)⟩, ⟨nb3, cu8 (zr8 32), 25, (0, 0)⟩, ⟨nb4, cu8 (zr8 32), 25, (0, 0)⟩, ⟨nb5, cu8 (empR 32) ++ sp1, 25, (0, 0)⟩]
      refine JL_val _ (Ev_pickT _ rfl rfl rfl) rfl ?_
      refine JL_val _ (Ev_move rfl) rfl ?_
      refine JL_gval 10 52 true _ (.agg (cu8 (zr8 32)).toArray) rfl rfl rfl (Ev_load rfl (Ld_agg Tryd.isAgg25 Tryd.sizeOf25 (len_cu8 (zr8_len 32)) (MemAt.ent 3 rfl (Seg.whole _)))) rfl ?_
      refine JL_gval 10 52 true _ (.agg (cu8 (zr8 32)).toArray) rfl rfl rfl (Ev_build [] _ rfl (fun _ => by kernel_rfl)) rfl ?_
      refine JL_gval 10 52 true _ (.bool (decide ((zr8 32) = (zr8 32)))) rfl rfl rfl (Ev_bin _ _ _ rfl rfl (fun _ => eqGuard_agg _ _ _ _ _ _ (by kernel_rfl)) fun _ => eql_arr8 Tryd.underlying25 Tryd.underlying5 Tryd.isAgg5 Tryd.cells5 Tryd.has5 (by simp [(zr8_len 32)]) (by simp [(zr8_len 32)])) rfl ?_
      refine JL_val _ (Ev_pickT _ rfl rfl rfl) rfl ?_
      refine JL_val _ (Ev_move rfl) rfl ?_
      refine JL_gval 15 57 true _ (.agg (cu8 (zr8 32)).toArray) rfl rfl (decide_eq_true rfl) (Ev_load rfl (Ld_agg Tryd.isAgg25 Tryd.sizeOf25 (len_cu8 (zr8_len 32)) (MemAt.ent 2 rfl (Seg.whole _)))) rfl ?_
      refine JL_gval 15 57 true _ (.agg (cu8 (zr8 32)).toArray) rfl rfl (decide_eq_true rfl) (Ev_build [] _ rfl (fun _ => by kernel_rfl)) rfl ?_
      refine JL_gval 15 57 true _ (.bool (decide ((zr8 32) = (zr8 32)))) rfl rfl (decide_eq_true rfl) (Ev_bin _ _ _ rfl rfl (fun _ => eqGuard_agg _ _ _ _ _ _ (by kernel_rfl)) fun _ => eql_arr8 Tryd.underlying25 Tryd.underlying5 Tryd.isAgg5 Tryd.cells5 Tryd.has5 (by simp [(zr8_len 32)]) (by simp [(zr8_len 32)])) rfl ?_
      refine JL_val _ (Ev_pickT _ rfl (decide_eq_true rfl) rfl) rfl ?_
      refine JL_val _ (Ev_assign rfl) rfl ?_
      refine JL_nil ?_
      refine JQ_then ?_
      refine JC_ret ?_
      refine JQ_then_ret ?_
      refine JQ_ret (.bool (decide ((zr8 32) = (zr8 32)))) (res1 Tryd.results18 (RV_tmp rfl)) fun w1 hw1 => ?_
      exact ⟨_, [], rfl, ⟨by rw [show (decide ((zr8 32) = (zr8 32))) = true from (decide_eq_true rfl)], rfl⟩, hw1.sub (by simp) (by simp)⟩
    ·
      have hp2 : ¬ ((32:Int) < (h)) := of_decide_eq_false hb2
      exfalso; omega

theorem nodeJoinsZ_c (l r : List UInt8) (w : World) (hl : l.length = 32) (hr : r.length = 32) (hG : GLs w) (hGr : GLr w) (hGi : GLi w)  : Calls Tryd.prog 18 #[I64 (0:Int), .agg (cu8 l).toArray, .agg (cu8 r).toArray] w (Post w [] (fun v L => v = .bool true ∧ L = [])) := by
  have hmx : maxLen = 9223372036854775807 := rfl
  refine enter w [] 112 [] [I64 (0:Int), .agg (cu8 l).toArray, .agg (cu8 r).toArray] Tryd.func18 rfl rfl (by simp) (Hp.start (by simp) (by simp) (by simp)) ?_
  show JC _ _ _ [(0, I64 (0:Int)), (1, .agg (cu8 l).toArray), (2, .agg (cu8 r).toArray)] _
  refine JC_seq ?_
  refine JC_region ?_
  refine JL_step (Step_box (.agg (cu8 l).toArray) (cu8 l) rfl (by first | rfl | simp)) rfl ?_
  rintro v1 L1 ⟨nb1, hnb1, rfl, rfl⟩
  show JL _ _ _ _ ((4, Ptr nb1 0) :: _) [⟨nb1, cu8 l, 25, (0, 0)⟩]
  refine JL_step (Step_box (.agg (cu8 r).toArray) (cu8 r) rfl (by first | rfl | simp)) rfl ?_
  rintro v1 L1 ⟨nb2, hnb2, rfl, rfl⟩
  show JL _ _ _ _ ((5, Ptr nb2 0) :: _) [⟨nb1, cu8 l, 25, (0, 0)⟩, ⟨nb2, cu8 r, 25, (0, 0)⟩]
  refine JL_val _ (Ev_assign rfl) rfl ?_
  refine JL_nil ?_
  refine JQ_then ?_
  refine JC_seq ?_
  refine JC_seq ?_
  refine JC_region ?_
  refine JL_step (Step_callP 69 [] (.bool true) (Cl_func [] Tryd.call69 rfl) (fun w1 hw1 => alive8_c  w1 (hG.at hw1))) rfl ?_
  rintro v1 L1 ⟨rfl, rfl⟩
  show JL _ _ _ _ ((14, .bool true) :: _) [⟨nb1, cu8 l, 25, (0, 0)⟩, ⟨nb2, cu8 r, 25, (0, 0)⟩]
  refine JL_val (.bool (!true)) (Ev_not rfl) rfl ?_
  refine JL_nil ?_
  refine JQ_then ?_
  refine JC_condF _ rfl rfl ?_
  refine JC_skip ?_
  refine JQ_then ?_
  refine JC_seq ?_
  refine JC_region ?_
  refine JL_val _ (Ev_move rfl) rfl ?_
  refine JL_val (.agg (cu8 l).toArray) (Ev_load rfl (Ld_agg Tryd.isAgg25 Tryd.sizeOf25 (len_cu8 hl) (MemAt.ent 0 rfl (Seg.whole _)))) rfl ?_
  refine JL_val (.agg (cu8 r).toArray) (Ev_load rfl (Ld_agg Tryd.isAgg25 Tryd.sizeOf25 (len_cu8 hr) (MemAt.ent 1 rfl (Seg.whole _)))) rfl ?_
  refine JL_step (Step_callP 70 [I64 (0:Int), .agg (cu8 l).toArray, .agg (cu8 r).toArray] (.tuple #[.agg (cu8 (zr8 32)).toArray, .iface 43 (I64 (1:Int))]) (Cl_func [I64 (0:Int), .agg (cu8 l).toArray, .agg (cu8 r).toArray] Tryd.call70 rfl) (fun w1 hw1 => join_nB_c (0:Int) l r w1 hl hr (by omega) (hG.at hw1))) rfl ?_
  rintro v1 L1 ⟨rfl, rfl⟩
  show JL _ _ _ _ ((20, .tuple #[.agg (cu8 (zr8 32)).toArray, .iface 43 (I64 (1:Int))]) :: _) [⟨nb1, cu8 l, 25, (0, 0)⟩, ⟨nb2, cu8 r, 25, (0, 0)⟩]
  refine JL_val _ (Ev_move rfl) rfl ?_
  refine JL_val _ (Ev_extract rfl rfl) rfl ?_
  refine JL_val _ (Ev_extract rfl rfl) rfl ?_
  refine JL_step (Step_alloc _ (cu8 (zr8 32)) Tryd.zeroValue25 (by kernel_rfl)) rfl ?_
  rintro v1 L1 ⟨nb3, hnb3, rfl, rfl⟩
  show JL _ _ _ _ ((7, Ptr nb3 0) :: _) [⟨nb1, cu8 l, 25, (0, 0)⟩, ⟨nb2, cu8 r, 25, (0, 0)⟩, ⟨nb3, cu8 (zr8 32), 25, (0, 0)⟩]
  refine JL_step (Step_store 2 nb3 0 32 (cu8 (zr8 32)) 25 (.agg (cu8 (zr8 32)).toArray) (cu8 (zr8 32)) (cu8 (zr8 32)) rfl rfl rfl (by first | rfl | simp) Tryd.sizeOf25 (len_cu8 (zr8_len 32)) (by first | exact one_u8 | exact one_u32 | exact one_u64 | (simp [cu8, cu32, cu64, Value.oneCell']; done)) (by simp [(zr8_len 32)]) (lay_whole (by simp [(zr8_len 32), (zr8_len 32)]))) rfl ?_
  rintro v1 L1 ⟨rfl, rfl⟩
  show JL _ _ _ _ _ [⟨nb1, cu8 l, 25, (0, 0)⟩, ⟨nb2, cu8 r, 25, (0, 0)⟩, ⟨nb3, cu8 (zr8 32), 25, (0, 0)⟩]
  refine JL_val _ (Ev_assign rfl) rfl ?_
  refine JL_nil ?_
  refine JQ_then ?_
  refine JC_seq ?_
  refine JC_region ?_
  refine JL_val _ (Ev_move rfl) rfl ?_
  refine JL_val (.agg (cu8 l).toArray) (Ev_load rfl (Ld_agg Tryd.isAgg25 Tryd.sizeOf25 (len_cu8 hl) (MemAt.ent 0 rfl (Seg.whole _)))) rfl ?_
  refine JL_val (.agg (cu8 r).toArray) (Ev_load rfl (Ld_agg Tryd.isAgg25 Tryd.sizeOf25 (len_cu8 hr) (MemAt.ent 1 rfl (Seg.whole _)))) rfl ?_
  refine JL_step (Step_callP 71 [I64 (0:Int), .agg (cu8 l).toArray, .agg (cu8 r).toArray] (.tuple #[.slice none 0 0, .iface 43 (I64 (1:Int))]) (Cl_func [I64 (0:Int), .agg (cu8 l).toArray, .agg (cu8 r).toArray] Tryd.call71 rfl) (fun w1 hw1 => joinTextB_c (0:Int) l r w1 hl hr (by omega))) rfl ?_
  rintro v1 L1 ⟨rfl, rfl⟩
  show JL _ _ _ _ ((27, .tuple #[.slice none 0 0, .iface 43 (I64 (1:Int))]) :: _) [⟨nb1, cu8 l, 25, (0, 0)⟩, ⟨nb2, cu8 r, 25, (0, 0)⟩, ⟨nb3, cu8 (zr8 32), 25, (0, 0)⟩]
  refine JL_val _ (Ev_move rfl) rfl ?_
  refine JL_val _ (Ev_extract rfl rfl) rfl ?_
  refine JL_val _ (Ev_extract rfl rfl) rfl ?_
  refine JL_val _ (Ev_assign rfl) rfl ?_
  refine JL_val _ (Ev_assign rfl) rfl ?_
  refine JL_nil ?_
  refine JQ_then ?_
  refine JC_seq ?_
  refine JC_region ?_
  refine JL_val _ (Ev_move rfl) rfl ?_
  refine JL_step (Step_callP 72 [I64 (0:Int)] (.tuple #[.agg (cu8 (empL 0)).toArray, .nilIface]) (Cl_func [I64 (0:Int)] Tryd.call72 rfl) (fun w1 hw1 => empty_c 0 w1 (by omega) (hG.at hw1))) rfl ?_
  rintro v1 L1 ⟨rfl, rfl⟩
  show JL _ _ _ _ ((32, .tuple #[.agg (cu8 (empL 0)).toArray, .nilIface]) :: _) [⟨nb1, cu8 l, 25, (0, 0)⟩, ⟨nb2, cu8 r, 25, (0, 0)⟩, ⟨nb3, cu8 (zr8 32), 25, (0, 0)⟩]
  refine JL_val _ (Ev_move rfl) rfl ?_
  refine JL_val _ (Ev_extract rfl rfl) rfl ?_
  refine JL_val _ (Ev_extract rfl rfl) rfl ?_
  refine JL_step (Step_alloc _ (cu8 (zr8 32)) Tryd.zeroValue25 (by kernel_rfl)) rfl ?_
  rintro v1 L1 ⟨nb4, hnb4, rfl, rfl⟩
  show JL _ _ _ _ ((11, Ptr nb4 0) :: _) [⟨nb1, cu8 l, 25, (0, 0)⟩, ⟨nb2, cu8 r, 25, (0, 0)⟩, ⟨nb3, cu8 (zr8 32), 25, (0, 0)⟩, ⟨nb4, cu8 (zr8 32), 25, (0, 0)⟩]
  refine JL_step (Step_store 3 nb4 0 32 (cu8 (zr8 32)) 25 (.agg (cu8 (empL 0)).toArray) (cu8 (empL 0)) (cu8 (empL 0)) rfl rfl rfl (by first | rfl | simp) Tryd.sizeOf25 (len_cu8 (empL_len _)) (by first | exact one_u8 | exact one_u32 | exact one_u64 | (simp [cu8, cu32, cu64, Value.oneCell']; done)) (by simp [(zr8_len 32)]) (lay_whole (by simp [(zr8_len 32), (empL_len _)]))) rfl ?_
  rintro v1 L1 ⟨rfl, rfl⟩
  show JL _ _ _ _ _ [⟨nb1, cu8 l, 25, (0, 0)⟩, ⟨nb2, cu8 r, 25, (0, 0)⟩, ⟨nb3, cu8 (zr8 32), 25, (0, 0)⟩, ⟨nb4, cu8 (empL 0), 25, (0, 0)⟩]
  refine JL_val _ (Ev_assign rfl) rfl ?_
  refine JL_nil ?_
  refine JQ_then ?_
  refine JC_seq ?_
  refine JC_region ?_
  refine JL_step (Step_callN 73 [] _ (Cl_func [] Tryd.call73 rfl) (fun w1 hw1 => rempties_c w1 (GLr.at hw1 hGr) (GLi.at hw1 hGi))) rfl ?_
  rintro v1 L1 ⟨_, ⟨nb5, sp1, cp1, rfl, rfl, hc1, hc2, hc3⟩, rfl⟩
  show JL _ _ _ _ ((35, Slc nb5 0 33 cp1) :: _) [⟨nb1, cu8 l, 25, (0, 0)⟩, ⟨nb2, cu8 r, 25, (0, 0)⟩, ⟨nb3, cu8 (zr8 32), 25, (0, 0)⟩, ⟨nb4, cu8 (empL 0), 25, (0, 0)⟩, ⟨nb5, cu8 (empR 32) ++ sp1, 25, (0, 0)⟩]
  refine JL_val _ (Ev_assign rfl) rfl ?_
  refine JL_nil ?_
  refine JQ_then ?_
  refine JC_seq ?_
  refine JC_seq ?_
  refine JC_region ?_
  refine JL_val _ (Ev_move rfl) rfl ?_
  refine JL_val (.bool (decide ((0:Int) < (0:Int)))) (Ev_bini rfl rfl fun _ => bin_lss_i _ _) rfl ?_
  refine JL_val _ (Ev_move rfl) rfl ?_
  refine JL_gval 2 38 false _ _ rfl rfl (by decide) (Ev_move rfl) rfl ?_
  refine JL_gval 2 38 false _ (.bool (decide ((32:Int) < (0:Int)))) rfl rfl (by decide) (Ev_bini rfl rfl fun _ => bin_gtr_i _ _) rfl ?_
  refine JL_val _ (Ev_pickF _ rfl (by decide) rfl) rfl ?_
  refine JL_nil ?_
  refine JQ_then ?_
  refine JC_condF _ rfl (by decide) ?_
  refine JC_skip ?_
  refine JQ_then ?_
  refine JC_seq ?_
  refine JC_seq ?_
  have hl1 : (mid (empR 32) 0 32).length = 32 := mid_len (by rw [(empR_len 32)]; omega)
  refine JC_draw 112 1 [(0, .nilIface), (1, .bool false), (2, .bool false), (3, .agg (cu8 (empL 0)).toArray), (4, Slc nb5 0 33 cp1), (5, I64 (0:Int)), (6, Ptr nb5 0), (7, .agg (cu8 (mid (empR 32) 0 32)).toArray), (8, .bool (!(decide ((empL 0) = (mid (empR 32) 0 32))))), (9, .bool (!(decide ((empL 0) = (mid (empR 32) 0 32)))))] Tryd.mixed rfl (by decide +kernel) ?_
  have hl2 : (mid (empR 32) 0 32).length = 32 := mid_len (by rw [(empR_len 32)]; omega)
  refine DP_end ⟨[], [0, 1, 2, 3, 4, 5, 6, 7, 8, 9], [], [0, 1, 2, 3, 4, 5, 6, 7, 8, 9], []⟩ rfl rfl (by decide +kernel) rfl ⟨⟨_, rfl, Qok_val rfl (Ev_move rfl)⟩, ⟨_, rfl, Qok_val rfl (Ev_bin _ _ _ rfl rfl (fun _ => eqGuard_nn ..) fun _ => neq_if_nil_nil Tryd.underlying39)⟩, ⟨_, rfl, Qok_val rfl (Ev_move rfl)⟩, ⟨_, rfl, Qok_gval 2 64 false _ rfl rfl rfl rfl (Ev_load rfl (Ld_agg Tryd.isAgg25 Tryd.sizeOf25 (len_cu8 (empL_len _)) (MemAt.ent 3 rfl (Seg.whole _))))⟩, ⟨_, rfl, Qok_gval 2 64 false _ rfl rfl rfl rfl (Ev_move rfl)⟩, ⟨_, rfl, Qok_gval 2 64 false _ rfl rfl rfl rfl (Ev_move rfl)⟩, ⟨_, rfl, Qok_gval 2 64 false _ rfl rfl rfl rfl (Ev_indexSl 25 32 0 Tryd.underlying105 Tryd.sizeOf25 rfl rfl (by omega) (by omega) (by omega))⟩, ⟨_, rfl, Qok_gval 2 64 false _ rfl rfl rfl rfl (Ev_load rfl (Ld_agg Tryd.isAgg25 Tryd.sizeOf25 (len_cu8 hl2) (MemAt.ent 4 rfl (Seg.left (segm_u8 0 32 (by rw [(empR_len 32)]; omega))))))⟩, ⟨_, rfl, Qok_gval 2 64 false _ rfl rfl rfl rfl (Ev_bin _ _ _ rfl rfl (fun _ => eqGuard_agg _ _ _ _ _ _ (by kernel_rfl)) fun _ => neq_arr8 Tryd.underlying25 Tryd.underlying5 Tryd.isAgg5 Tryd.cells5 Tryd.has5 (by simp [(empL_len _)]) (by simp [hl1]))⟩, ⟨_, rfl, Qok_val rfl (Ev_pickF _ rfl rfl rfl)⟩, trivial⟩ ?_
  refine K_sub (F' := [(71, .bool (!(decide ((empL 0) = (mid (empR 32) 0 32))))), (0, I64 (0:Int)), (4, Ptr nb1 0), (5, Ptr nb2 0), (6, .bool false), (7, Ptr nb3 0), (8, .iface 43 (I64 (1:Int))), (9, .slice none 0 0), (10, .iface 43 (I64 (1:Int)))]) (Sub.cons (by kernel_rfl) (Sub.cons (by kernel_rfl) (Sub.cons (by kernel_rfl) (Sub.cons (by kernel_rfl) (Sub.cons (by kernel_rfl) (Sub.cons (by kernel_rfl) (Sub.cons (by kernel_rfl) (Sub.cons (by kernel_rfl) (Sub.cons (by kernel_rfl) (Sub.nil)))))))))) ?_
  show JQ _ _ _ [(71, .bool (!(decide ((empL 0) = (mid (empR 32) 0 32))))), (0, I64 (0:Int)), (4, Ptr nb1 0), (5, Ptr nb2 0), (6, .bool false), (7, Ptr nb3 0), (8, .iface 43 (I64 (1:Int))), (9, .slice none 0 0), (10, .iface 43 (I64 (1:Int)))] _
  refine JQ_then ?_
  refine JC_condF _ rfl (by rw [show (decide ((empL 0) = (mid (empR 32) 0 32))) = true from (decide_eq_true (by first | exact (empR_get 32 0 (by omega)).symm | exact (empR_get 32 0 (by omega)).symm))] <;> rfl) ?_
  refine JC_skip ?_
  refine JQ_then ?_
  refine JC_seq ?_
  refine JC_seq ?_
  refine JC_region ?_
  refine JL_val _ (Ev_move rfl) rfl ?_
  refine JL_val (.bool (decide ((0:Int) = (0:Int)))) (Ev_bini rfl rfl fun _ => bin_eql_i _ _) rfl ?_
  refine JL_nil ?_
  refine JQ_then ?_
  refine JC_condT _ rfl (by decide) ?_
  refine JC_seq ?_
  refine JC_region ?_
  refine JL_val _ (Ev_move rfl) rfl ?_
  refine JL_step (Step_callP 33 [.iface 43 (I64 (1:Int)), I64 (1:Int)] (.bool true) (Cl_func [.iface 43 (I64 (1:Int)), I64 (1:Int)] Tryd.call33 rfl) (fun w1 hw1 => is_c 1 1 w1)) rfl ?_
  rintro v1 L1 ⟨rfl, rfl⟩
  show JL _ _ _ _ ((75, .bool true) :: _) [⟨nb1, cu8 l, 25, (0, 0)⟩, ⟨nb2, cu8 r, 25, (0, 0)⟩, ⟨nb3, cu8 (zr8 32), 25, (0, 0)⟩, ⟨nb4, cu8 (empL 0), 25, (0, 0)⟩, ⟨nb5, cu8 (empR 32) ++ sp1, 25, (0, 0)⟩]
  refine JL_val _ (Ev_move rfl) rfl ?_
  refine JL_gval 2 76 true _ _ rfl rfl rfl (Ev_move rfl) rfl ?_
  refine JL_gstep 2 76 true _ rfl rfl rfl (Step_callP 33 [.iface 43 (I64 (1:Int)), I64 (1:Int)] (.bool true) (Cl_func [.iface 43 (I64 (1:Int)), I64 (1:Int)] Tryd.call33 rfl) (fun w1 hw1 => is_c 1 1 w1)) rfl ?_
  rintro v1 L1 ⟨rfl, rfl⟩
  show JL _ _ _ _ ((78, .bool true) :: _) [⟨nb1, cu8 l, 25, (0, 0)⟩, ⟨nb2, cu8 r, 25, (0, 0)⟩, ⟨nb3, cu8 (zr8 32), 25, (0, 0)⟩, ⟨nb4, cu8 (empL 0), 25, (0, 0)⟩, ⟨nb5, cu8 (empR 32) ++ sp1, 25, (0, 0)⟩]
  refine JL_val _ (Ev_pickT _ rfl rfl rfl) rfl ?_
  refine JL_val _ (Ev_move rfl) rfl ?_
  refine JL_gval 6 80 true _ _ rfl rfl rfl (Ev_move rfl) rfl ?_
  refine JL_gval 6 80 true _ (I64 (0:Int)) rfl rfl rfl (Ev_len Tryd.underlying22 rfl) rfl ?_
  refine JL_gval 6 80 true _ (.bool (decide ((0:Int) = (0:Int)))) rfl rfl rfl (Ev_bini rfl rfl fun _ => bin_eql_i _ _) rfl ?_
  refine JL_val _ (Ev_pickT _ rfl rfl rfl) rfl ?_
  refine JL_val _ (Ev_assign rfl) rfl ?_
  refine JL_nil ?_
  refine JQ_then ?_
  refine JC_ret ?_
  refine JQ_then_ret ?_
  refine JQ_ret (.bool (decide ((0:Int) = (0:Int)))) (res1 Tryd.results18 (RV_tmp rfl)) fun w1 hw1 => ?_
  exact ⟨_, [], rfl, ⟨by rw [show (decide ((0:Int) = (0:Int))) = true from (by decide)], rfl⟩, hw1.sub (by simp) (by simp)⟩

theorem nodeJoinsI_c (h : Nat) (l r : List UInt8) (w : World) (hl : l.length = 32) (hr : r.length = 32) (hG : GLs w) (hGr : GLr w) (hGi : GLi w) (h1 : 1 ≤ h) (h2 : h ≤ 32) : Calls Tryd.prog 18 #[I64 ((h:Int)), .agg (cu8 l).toArray, .agg (cu8 r).toArray] w (Post w [] (fun v L => v = .bool true ∧ L = [])) := by
  have hmx : maxLen = 9223372036854775807 := rfl
  refine enter w [] 112 [] [I64 ((h:Int)), .agg (cu8 l).toArray, .agg (cu8 r).toArray] Tryd.func18 rfl rfl (by simp) (Hp.start (by simp) (by simp) (by simp)) ?_
  show JC _ _ _ [(0, I64 ((h:Int))), (1, .agg (cu8 l).toArray), (2, .agg (cu8 r).toArray)] _
  refine JC_seq ?_
  refine JC_region ?_
  refine JL_step (Step_box (.agg (cu8 l).toArray) (cu8 l) rfl (by first | rfl | simp)) rfl ?_
  rintro v1 L1 ⟨nb1, hnb1, rfl, rfl⟩
  show JL _ _ _ _ ((4, Ptr nb1 0) :: _) [⟨nb1, cu8 l, 25, (0, 0)⟩]
  refine JL_step (Step_box (.agg (cu8 r).toArray) (cu8 r) rfl (by first | rfl | simp)) rfl ?_
  rintro v1 L1 ⟨nb2, hnb2, rfl, rfl⟩
  show JL _ _ _ _ ((5, Ptr nb2 0) :: _) [⟨nb1, cu8 l, 25, (0, 0)⟩, ⟨nb2, cu8 r, 25, (0, 0)⟩]
  refine JL_val _ (Ev_assign rfl) rfl ?_
  refine JL_nil ?_
  refine JQ_then ?_
  refine JC_seq ?_
  refine JC_seq ?_
  refine JC_region ?_
  refine JL_step (Step_callP 69 [] (.bool true) (Cl_func [] Tryd.call69 rfl) (fun w1 hw1 => alive8_c  w1 (hG.at hw1))) rfl ?_
  rintro v1 L1 ⟨rfl, rfl⟩
  show JL _ _ _ _ ((14, .bool true) :: _) [⟨nb1, cu8 l, 25, (0, 0)⟩, ⟨nb2, cu8 r, 25, (0, 0)⟩]
  refine JL_val (.bool (!true)) (Ev_not rfl) rfl ?_
  refine JL_nil ?_
  refine JQ_then ?_
  refine JC_condF _ rfl rfl ?_
  refine JC_skip ?_
  refine JQ_then ?_
  refine JC_seq ?_
  refine JC_region ?_
  refine JL_val _ (Ev_move rfl) rfl ?_
  refine JL_val (.agg (cu8 l).toArray) (Ev_load rfl (Ld_agg Tryd.isAgg25 Tryd.sizeOf25 (len_cu8 hl) (MemAt.ent 0 rfl (Seg.whole _)))) rfl ?_
  refine JL_val (.agg (cu8 r).toArray) (Ev_load rfl (Ld_agg Tryd.isAgg25 Tryd.sizeOf25 (len_cu8 hr) (MemAt.ent 1 rfl (Seg.whole _)))) rfl ?_
  refine JL_step (Step_callP 70 [I64 ((h:Int)), .agg (cu8 l).toArray, .agg (cu8 r).toArray] (.tuple #[.agg (cu8 (sumG constL initL (joinT h l r))).toArray, .nilIface]) (Cl_func [I64 ((h:Int)), .agg (cu8 l).toArray, .agg (cu8 r).toArray] Tryd.call70 rfl) (fun w1 hw1 => join_n_c h l r w1 hl hr (by omega) (by omega) (hG.at hw1))) rfl ?_
  rintro v1 L1 ⟨rfl, rfl⟩
  show JL _ _ _ _ ((20, .tuple #[.agg (cu8 (sumG constL initL (joinT h l r))).toArray, .nilIface]) :: _) [⟨nb1, cu8 l, 25, (0, 0)⟩, ⟨nb2, cu8 r, 25, (0, 0)⟩]
  refine JL_val _ (Ev_move rfl) rfl ?_
  refine JL_val _ (Ev_extract rfl rfl) rfl ?_
  refine JL_val _ (Ev_extract rfl rfl) rfl ?_
  refine JL_step (Step_alloc _ (cu8 (zr8 32)) Tryd.zeroValue25 (by kernel_rfl)) rfl ?_
  rintro v1 L1 ⟨nb3, hnb3, rfl, rfl⟩
  show JL _ _ _ _ ((7, Ptr nb3 0) :: _) [⟨nb1, cu8 l, 25, (0, 0)⟩, ⟨nb2, cu8 r, 25, (0, 0)⟩, ⟨nb3, cu8 (zr8 32), 25, (0, 0)⟩]
  refine JL_step (Step_store 2 nb3 0 32 (cu8 (zr8 32)) 25 (.agg (cu8 (sumG constL initL (joinT h l r))).toArray) (cu8 (sumG constL initL (joinT h l r))) (cu8 (sumG constL initL (joinT h l r))) rfl rfl rfl (by first | rfl | simp) Tryd.sizeOf25 (len_cu8 (sumG_len _ _ _)) (by first | exact one_u8 | exact one_u32 | exact one_u64 | (simp [cu8, cu32, cu64, Value.oneCell']; done)) (by simp [(zr8_len 32)]) (lay_whole (by simp [(zr8_len 32), (sumG_len _ _ _)]))) rfl ?_
  rintro v1 L1 ⟨rfl, rfl⟩
  show JL _ _ _ _ _ [⟨nb1, cu8 l, 25, (0, 0)⟩, ⟨nb2, cu8 r, 25, (0, 0)⟩, ⟨nb3, cu8 (sumG constL initL (joinT h l r)), 25, (0, 0)⟩]
  refine JL_val _ (Ev_assign rfl) rfl ?_
  refine JL_nil ?_
  refine JQ_then ?_
  refine JC_seq ?_
  refine JC_region ?_
  refine JL_val _ (Ev_move rfl) rfl ?_
  refine JL_val (.agg (cu8 l).toArray) (Ev_load rfl (Ld_agg Tryd.isAgg25 Tryd.sizeOf25 (len_cu8 hl) (MemAt.ent 0 rfl (Seg.whole _)))) rfl ?_
  refine JL_val (.agg (cu8 r).toArray) (Ev_load rfl (Ld_agg Tryd.isAgg25 Tryd.sizeOf25 (len_cu8 hr) (MemAt.ent 1 rfl (Seg.whole _)))) rfl ?_
  refine JL_step (Step_callN 71 [I64 ((h:Int)), .agg (cu8 l).toArray, .agg (cu8 r).toArray] _ (Cl_func [I64 ((h:Int)), .agg (cu8 l).toArray, .agg (cu8 r).toArray] Tryd.call71 rfl) (fun w1 hw1 => joinText_c h l r w1 hl hr (by omega) (by omega))) rfl ?_
  rintro v1 L1 ⟨_, ⟨nb4, sp1, cp1, rfl, rfl, hc1, hc2, hc3⟩, rfl⟩
  show JL _ _ _ _ ((27, .tuple #[Slc nb4 0 66 cp1, .nilIface]) :: _) [⟨nb1, cu8 l, 25, (0, 0)⟩, ⟨nb2, cu8 r, 25, (0, 0)⟩, ⟨nb3, cu8 (sumG constL initL (joinT h l r)), 25, (0, 0)⟩, ⟨nb4, cu8 (joinT h l r) ++ sp1, 5, (0, 0)⟩]
  refine JL_val _ (Ev_move rfl) rfl ?_
  refine JL_val _ (Ev_extract rfl rfl) rfl ?_
  refine JL_val _ (Ev_extract rfl rfl) rfl ?_
  refine JL_val _ (Ev_assign rfl) rfl ?_
  refine JL_val _ (Ev_assign rfl) rfl ?_
  refine JL_nil ?_
  refine JQ_then ?_
  refine JC_seq ?_
  refine JC_region ?_
  refine JL_val _ (Ev_move rfl) rfl ?_
  refine JL_step (Step_callP 72 [I64 ((h:Int))] (.tuple #[.agg (cu8 (empL h)).toArray, .nilIface]) (Cl_func [I64 ((h:Int))] Tryd.call72 rfl) (fun w1 hw1 => empty_c h w1 (by omega) (hG.at hw1))) rfl ?_
  rintro v1 L1 ⟨rfl, rfl⟩
  show JL _ _ _ _ ((32, .tuple #[.agg (cu8 (empL h)).toArray, .nilIface]) :: _) [⟨nb1, cu8 l, 25, (0, 0)⟩, ⟨nb2, cu8 r, 25, (0, 0)⟩, ⟨nb3, cu8 (sumG constL initL (joinT h l r)), 25, (0, 0)⟩, ⟨nb4, cu8 (joinT h l r) ++ sp1, 5, (0, 0)⟩]
  refine JL_val _ (Ev_move rfl) rfl ?_
  refine JL_val _ (Ev_extract rfl rfl) rfl ?_
  refine JL_val _ (Ev_extract rfl rfl) rfl ?_
  refine JL_step (Step_alloc _ (cu8 (zr8 32)) Tryd.zeroValue25 (by kernel_rfl)) rfl ?_
  rintro v1 L1 ⟨nb5, hnb5, rfl, rfl⟩
  show JL _ _ _ _ ((11, Ptr nb5 0) :: _) [⟨nb1, cu8 l, 25, (0, 0)⟩, ⟨nb2, cu8 r, 25, (0, 0)⟩, ⟨nb3, cu8 (sumG constL initL (joinT h l r)), 25, (0, 0)⟩, ⟨nb4, cu8 (joinT h l r) ++ sp1, 5, (0, 0)⟩, ⟨nb5, cu8 (zr8 32), 25, (0, 0)⟩]
  refine JL_step (Step_store 4 nb5 0 32 (cu8 (zr8 32)) 25 (.agg (cu8 (empL h)).toArray) (cu8 (empL h)) (cu8 (empL h)) rfl rfl rfl (by first | rfl | simp) Tryd.sizeOf25 (len_cu8 (empL_len _)) (by first | exact one_u8 | exact one_u32 | exact one_u64 | (simp [cu8, cu32, cu64, Value.oneCell']; done)) (by simp [(zr8_len 32)]) (lay_whole (by simp [(zr8_len 32), (empL_len _)]))) rfl ?_
  rintro v1 L1 ⟨rfl, rfl⟩
  show JL _ _ _ _ _ [⟨nb1, cu8 l, 25, (0, 0)⟩, ⟨nb2, cu8 r, 25, (0, 0)⟩, ⟨nb3, cu8 (sumG constL initL (joinT h l r)), 25, (0, 0)⟩, ⟨nb4, cu8 (joinT h l r) ++ sp1, 5, (0, 0)⟩, ⟨nb5, cu8 (empL h), 25, (0, 0)⟩]
  refine JL_val _ (Ev_assign rfl) rfl ?_
  refine JL_nil ?_
  refine JQ_then ?_
  refine JC_seq ?_
  refine JC_region ?_
  refine JL_step (Step_callN 73 [] _ (Cl_func [] Tryd.call73 rfl) (fun w1 hw1 => rempties_c w1 (GLr.at hw1 hGr) (GLi.at hw1 hGi))) rfl ?_
  rintro v1 L1 ⟨_, ⟨nb6, sp2, cp2, rfl, rfl, hc4, hc5, hc6⟩, rfl⟩
  show JL _ _ _ _ ((35, Slc nb6 0 33 cp2) :: _) [⟨nb1, cu8 l, 25, (0, 0)⟩, ⟨nb2, cu8 r, 25, (0, 0)⟩, ⟨nb3, cu8 (sumG constL initL (joinT h l r)), 25, (0, 0)⟩, ⟨nb4, cu8 (joinT h l r) ++ sp1, 5, (0, 0)⟩, ⟨nb5, cu8 (empL h), 25, (0, 0)⟩, ⟨nb6, cu8 (empR 32) ++ sp2, 25, (0, 0)⟩]
  refine JL_val _ (Ev_assign rfl) rfl ?_
  refine JL_nil ?_
  refine JQ_then ?_
  refine JC_seq ?_
  refine JC_seq ?_
  refine JC_region ?_
  refine JL_val _ (Ev_move rfl) rfl ?_
  refine JL_val (.bool (decide (((h:Int)) < (0:Int)))) (Ev_bini rfl rfl fun _ => bin_lss_i _ _) rfl ?_
  refine JL_val _ (Ev_move rfl) rfl ?_
  refine JL_gval 2 38 false _ _ rfl rfl (decide_eq_false (by omega)) (Ev_move rfl) rfl ?_
  refine JL_gval 2 38 false _ (.bool (decide ((32:Int) < ((h:Int))))) rfl rfl (decide_eq_false (by omega)) (Ev_bini rfl rfl fun _ => bin_gtr_i _ _) rfl ?_
  refine JL_val _ (Ev_pickF _ rfl (decide_eq_false (by omega)) rfl) rfl ?_
  refine JL_nil ?_
  refine JQ_then ?_
  refine JC_condF _ rfl (decide_eq_false (by omega)) ?_
  refine JC_skip ?_
  refine JQ_then ?_
  refine JC_seq ?_
  refine JC_seq ?_
  have hl1 : (mid (empR 32) (32*h) 32).length = 32 := mid_len (by rw [(empR_len 32)]; omega)
  refine JC_draw 112 1 [(0, .nilIface), (1, .bool false), (2, .bool false), (3, .agg (cu8 (empL h)).toArray), (4, Slc nb6 0 33 cp2), (5, I64 ((h:Int))), (6, Ptr nb6 (32*h)), (7, .agg (cu8 (mid (empR 32) (32*h) 32)).toArray), (8, .bool (!(decide ((empL h) = (mid (empR 32) (32*h) 32))))), (9, .bool (!(decide ((empL h) = (mid (empR 32) (32*h) 32)))))] Tryd.mixed rfl (by decide +kernel) ?_
  have hl2 : (mid (empR 32) (32*h) 32).length = 32 := mid_len (by rw [(empR_len 32)]; omega)
  refine DP_end ⟨[], [0, 1, 2, 3, 4, 5, 6, 7, 8, 9], [], [0, 1, 2, 3, 4, 5, 6, 7, 8, 9], []⟩ rfl rfl (by decide +kernel) rfl ⟨⟨_, rfl, Qok_val rfl (Ev_move rfl)⟩, ⟨_, rfl, Qok_val rfl (Ev_bin _ _ _ rfl rfl (fun _ => eqGuard_nn ..) fun _ => neq_if_nil_nil Tryd.underlying39)⟩, ⟨_, rfl, Qok_val rfl (Ev_move rfl)⟩, ⟨_, rfl, Qok_gval 2 64 false _ rfl rfl rfl rfl (Ev_load rfl (Ld_agg Tryd.isAgg25 Tryd.sizeOf25 (len_cu8 (empL_len _)) (MemAt.ent 4 rfl (Seg.whole _))))⟩, ⟨_, rfl, Qok_gval 2 64 false _ rfl rfl rfl rfl (Ev_move rfl)⟩, ⟨_, rfl, Qok_gval 2 64 false _ rfl rfl rfl rfl (Ev_move rfl)⟩, ⟨_, rfl, Qok_gval 2 64 false _ rfl rfl rfl rfl (Ev_indexSl 25 32 (32*h) Tryd.underlying105 Tryd.sizeOf25 rfl rfl (by omega) (by omega) (by omega))⟩, ⟨_, rfl, Qok_gval 2 64 false _ rfl rfl rfl rfl (Ev_load rfl (Ld_agg Tryd.isAgg25 Tryd.sizeOf25 (len_cu8 hl2) (MemAt.ent 5 rfl (Seg.left (segm_u8 (32*h) 32 (by rw [(empR_len 32)]; omega))))))⟩, ⟨_, rfl, Qok_gval 2 64 false _ rfl rfl rfl rfl (Ev_bin _ _ _ rfl rfl (fun _ => eqGuard_agg _ _ _ _ _ _ (by kernel_rfl)) fun _ => neq_arr8 Tryd.underlying25 Tryd.underlying5 Tryd.isAgg5 Tryd.cells5 Tryd.has5 (by simp [(empL_len _)]) (by simp [hl1]))⟩, ⟨_, rfl, Qok_val rfl (Ev_pickF _ rfl rfl rfl)⟩, trivial⟩ ?_
  refine K_sub (F' := [(71, .bool (!(decide ((empL h) = (mid (empR 32) (32*h) 32))))), (0, I64 ((h:Int))), (4, Ptr nb1 0), (5, Ptr nb2 0), (6, .bool false), (7, Ptr nb3 0), (8, .nilIface), (9, Slc nb4 0 66 cp1), (10, .nilIface)]) (Sub.cons (by kernel_rfl) (Sub.cons (by kernel_rfl) (Sub.cons (by kernel_rfl) (Sub.cons (by kernel_rfl) (Sub.cons (by kernel_rfl) (Sub.cons (by kernel_rfl) (Sub.cons (by kernel_rfl) (Sub.cons (by kernel_rfl) (Sub.cons (by kernel_rfl) (Sub.nil)))))))))) ?_
  show JQ _ _ _ [(71, .bool (!(decide ((empL h) = (mid (empR 32) (32*h) 32))))), (0, I64 ((h:Int))), (4, Ptr nb1 0), (5, Ptr nb2 0), (6, .bool false), (7, Ptr nb3 0), (8, .nilIface), (9, Slc nb4 0 66 cp1), (10, .nilIface)] _
  refine JQ_then ?_
  refine JC_condF _ rfl (by rw [show (decide ((empL h) = (mid (empR 32) (32*h) 32))) = true from (decide_eq_true (by first | exact (empR_get 32 h (by omega)).symm | exact (empR_get 32 0 (by omega)).symm))] <;> rfl) ?_
  refine JC_skip ?_
  refine JQ_then ?_
  refine JC_seq ?_
  refine JC_seq ?_
  refine JC_region ?_
  refine JL_val _ (Ev_move rfl) rfl ?_
  refine JL_val (.bool (decide (((h:Int)) = (0:Int)))) (Ev_bini rfl rfl fun _ => bin_eql_i _ _) rfl ?_
  refine JL_nil ?_
  refine JQ_then ?_
  refine JC_condF _ rfl (decide_eq_false (by omega)) ?_
  refine JC_skip ?_
  refine JQ_then ?_
  refine JC_seq ?_
  refine JC_draw 112 5 [(0, .nilIface), (1, .bool true), (2, .bool true), (3, .nilIface), (4, .bool true), (5, .bool true), (6, .bool true), (7, .agg (cu8 (sumG constL initL (joinT h l r))).toArray), (8, I64 ((h:Int))), (9, .agg (cu8 l).toArray), (10, .agg (cu8 r).toArray)] Tryd.mixed rfl (by decide +kernel) ?_
  refine DP_one ⟨[], [0, 1, 2, 3, 4, 5, 6, 7, 8, 9, 10], [], [0, 1, 2, 3, 4, 5, 6, 7, 8, 9, 10], [11]⟩ 11 _ rfl rfl (by decide +kernel) rfl ⟨⟨_, rfl, Qok_val rfl (Ev_move rfl)⟩, ⟨_, rfl, Qok_val rfl (Ev_bin _ _ _ rfl rfl (fun _ => eqGuard_nn ..) fun _ => eql_if_nil_nil Tryd.underlying39)⟩, ⟨_, rfl, Qok_val rfl (Ev_move rfl)⟩, ⟨_, rfl, Qok_gval 2 87 true _ rfl rfl rfl rfl (Ev_move rfl)⟩, ⟨_, rfl, Qok_gval 2 87 true _ rfl rfl rfl rfl (Ev_bin _ _ _ rfl rfl (fun _ => eqGuard_nn ..) fun _ => eql_if_nil_nil Tryd.underlying39)⟩, ⟨_, rfl, Qok_val rfl (Ev_pickT _ rfl rfl rfl)⟩, ⟨_, rfl, Qok_val rfl (Ev_move rfl)⟩, ⟨_, rfl, Qok_gval 6 91 true _ rfl rfl rfl rfl (Ev_load rfl (Ld_agg Tryd.isAgg25 Tryd.sizeOf25 (len_cu8 (sumG_len _ _ _)) (MemAt.ent 2 rfl (Seg.whole _))))⟩, ⟨_, rfl, Qok_gval 6 91 true _ rfl rfl rfl rfl (Ev_move rfl)⟩, ⟨_, rfl, Qok_gval 6 91 true _ rfl rfl rfl rfl (Ev_load rfl (Ld_agg Tryd.isAgg25 Tryd.sizeOf25 (len_cu8 hl) (MemAt.ent 0 rfl (Seg.whole _))))⟩, ⟨_, rfl, Qok_gval 6 91 true _ rfl rfl rfl rfl (Ev_load rfl (Ld_agg Tryd.isAgg25 Tryd.sizeOf25 (len_cu8 hr) (MemAt.ent 1 rfl (Seg.whole _))))⟩, trivial⟩ rfl (Cok_gstep 6 91 true _ rfl rfl rfl rfl (Step_callP 74 [I64 ((h:Int)), .agg (cu8 l).toArray, .agg (cu8 r).toArray] (.agg (cu8 (sumG constL initL (joinT h l r))).toArray) (Cl_func [I64 ((h:Int)), .agg (cu8 l).toArray, .agg (cu8 r).toArray] Tryd.call74 rfl) (fun w1 hw1 => rjoin_n_c h l r w1 hl hr (by omega) (by omega) (GLr.at hw1 hGr) (GLi.at hw1 hGi)))) ?_
  rintro v1 L1 ⟨rfl, rfl⟩
  refine ⟨[(12, .bool (decide ((sumG constL initL (joinT h l r)) = (sumG constL initL (joinT h l r))))), (13, .bool (decide ((sumG constL initL (joinT h l r)) = (sumG constL initL (joinT h l r))))), (14, .bool (decide ((sumG constL initL (joinT h l r)) = (sumG constL initL (joinT h l r))))), (15, Slc nb4 0 66 cp1), (16, I64 ((h:Int))), (17, .agg (cu8 l).toArray), (18, .agg (cu8 r).toArray)], ?_⟩
  show DP _ _ _ _ _ _ _ _ [⟨nb1, cu8 l, 25, (0, 0)⟩, ⟨nb2, cu8 r, 25, (0, 0)⟩, ⟨nb3, cu8 (sumG constL initL (joinT h l r)), 25, (0, 0)⟩, ⟨nb4, cu8 (joinT h l r) ++ sp1, 5, (0, 0)⟩, ⟨nb5, cu8 (empL h), 25, (0, 0)⟩, ⟨nb6, cu8 (empR 32) ++ sp2, 25, (0, 0)⟩]
  refine DP_one ⟨[11], [0, 1, 2, 3, 4, 5, 6, 7, 8, 9, 10, 12, 13, 14, 15, 16, 17, 18], [0, 1, 2, 3, 4, 5, 6, 8, 9, 10], [7, 12, 13, 14, 15, 16, 17, 18], [19]⟩ 19 _ rfl rfl (by decide +kernel) rfl ⟨⟨_, rfl, Qok_gval 6 91 true _ rfl rfl rfl rfl (Ev_load rfl (Ld_agg Tryd.isAgg25 Tryd.sizeOf25 (len_cu8 (sumG_len _ _ _)) (MemAt.ent 2 rfl (Seg.whole _))))⟩, ⟨_, rfl, Qok_gval 6 91 true _ rfl rfl rfl rfl (Ev_bin _ _ _ rfl rfl (fun _ => eqGuard_agg _ _ _ _ _ _ (by kernel_rfl)) fun _ => eql_arr8 Tryd.underlying25 Tryd.underlying5 Tryd.isAgg5 Tryd.cells5 Tryd.has5 (by simp [(sumG_len _ _ _)]) (by simp [(sumG_len _ _ _)]))⟩, ⟨_, rfl, Qok_val rfl (Ev_pickT _ rfl rfl rfl)⟩, ⟨_, rfl, Qok_val rfl (Ev_move rfl)⟩, ⟨_, rfl, Qok_gval 14 99 true _ rfl rfl rfl (decide_eq_true rfl) (Ev_move rfl)⟩, ⟨_, rfl, Qok_gval 14 99 true _ rfl rfl rfl (decide_eq_true rfl) (Ev_move rfl)⟩, ⟨_, rfl, Qok_gval 14 99 true _ rfl rfl rfl (decide_eq_true rfl) (Ev_load rfl (Ld_agg Tryd.isAgg25 Tryd.sizeOf25 (len_cu8 hl) (MemAt.ent 0 rfl (Seg.whole _))))⟩, ⟨_, rfl, Qok_gval 14 99 true _ rfl rfl rfl (decide_eq_true rfl) (Ev_load rfl (Ld_agg Tryd.isAgg25 Tryd.sizeOf25 (len_cu8 hr) (MemAt.ent 1 rfl (Seg.whole _))))⟩, trivial⟩ rfl (Cok_gstep 14 99 true _ rfl rfl rfl (decide_eq_true rfl) (Step_callN 75 [I64 ((h:Int)), .agg (cu8 l).toArray, .agg (cu8 r).toArray] _ (Cl_func [I64 ((h:Int)), .agg (cu8 l).toArray, .agg (cu8 r).toArray] Tryd.call75 rfl) (fun w1 hw1 => rjoinText_c h l r w1 hl hr (by omega) (by omega)))) ?_
  rintro v1 L1 ⟨_, ⟨nb7, sp3, cp3, rfl, rfl, hc7, hc8, hc9⟩, rfl⟩
  refine ⟨[], ?_⟩
  show DP _ _ _ _ _ _ _ _ [⟨nb1, cu8 l, 25, (0, 0)⟩, ⟨nb2, cu8 r, 25, (0, 0)⟩, ⟨nb3, cu8 (sumG constL initL (joinT h l r)), 25, (0, 0)⟩, ⟨nb4, cu8 (joinT h l r) ++ sp1, 5, (0, 0)⟩, ⟨nb5, cu8 (empL h), 25, (0, 0)⟩, ⟨nb6, cu8 (empR 32) ++ sp2, 25, (0, 0)⟩, ⟨nb7, cu8 (joinT h l r) ++ sp3, 5, (0, 0)⟩]
  refine DP_one ⟨[11, 19], [0, 1, 2, 3, 4, 5, 6, 7, 8, 9, 10, 12, 13, 14, 15, 16, 17, 18], [0, 1, 2, 3, 4, 5, 6, 7, 8, 9, 10, 12, 13, 14, 16, 17, 18], [15], [20]⟩ 20 _ rfl rfl (by decide +kernel) rfl ⟨⟨_, rfl, Qok_gval 14 99 true _ rfl rfl rfl (decide_eq_true rfl) (Ev_move rfl)⟩, trivial⟩ rfl (Cok_gstep 14 99 true _ rfl rfl rfl (decide_eq_true rfl) (Step_callP 25 [Slc nb4 0 66 cp1, Slc nb7 0 66 cp3] (.bool (decide ((joinT h l r) = (joinT h l r)))) (Cl_func [Slc nb4 0 66 cp1, Slc nb7 0 66 cp3] Tryd.call25 rfl) (fun w1 hw1 => bytes_c (some ⟨nb4, 0, none⟩) (some ⟨nb7, 0, none⟩) 66 66 cp1 cp3 (joinT h l r) (joinT h l r) w1 (show (joinT h l r).length = 66 from (joinT_len hl hr)) (show (joinT h l r).length = 66 from (joinT_len hl hr)) (RdB.of hw1 (MemAt.ent 3 rfl (Seg.left (Seg.whole _))) (by simp)) (RdB.of hw1 (MemAt.ent 6 rfl (Seg.left (Seg.whole _))) (by simp))))) ?_
  rintro v1 L1 ⟨rfl, rfl⟩
  refine ⟨[(21, .bool (decide ((joinT h l r) = (joinT h l r)))), (22, .bool (decide ((joinT h l r) = (joinT h l r)))), (23, Slc nb4 0 66 cp1)], ?_⟩
  show DP _ _ _ _ _ _ _ _ [⟨nb1, cu8 l, 25, (0, 0)⟩, ⟨nb2, cu8 r, 25, (0, 0)⟩, ⟨nb3, cu8 (sumG constL initL (joinT h l r)), 25, (0, 0)⟩, ⟨nb4, cu8 (joinT h l r) ++ sp1, 5, (0, 0)⟩, ⟨nb5, cu8 (empL h), 25, (0, 0)⟩, ⟨nb6, cu8 (empR 32) ++ sp2, 25, (0, 0)⟩, ⟨nb7, cu8 (joinT h l r) ++ sp3, 5, (0, 0)⟩]
  refine DP_one ⟨[11, 19, 20], [0, 1, 2, 3, 4, 5, 6, 7, 8, 9, 10, 12, 13, 14, 15, 16, 17, 18, 21, 22, 23], [0, 1, 2, 3, 4, 5, 6, 7, 8, 9, 10, 12, 13, 14, 15, 16, 17, 18], [21, 22, 23], [24]⟩ 24 _ rfl rfl (by decide +kernel) rfl ⟨⟨_, rfl, Qok_val rfl (Ev_pickT _ rfl (decide_eq_true rfl) rfl)⟩, ⟨_, rfl, Qok_val rfl (Ev_move rfl)⟩, ⟨_, rfl, Qok_gval 22 107 true _ rfl rfl rfl (decide_eq_true rfl) (Ev_move rfl)⟩, trivial⟩ rfl (Cok_gstep 22 107 true _ rfl rfl rfl (decide_eq_true rfl) (Step_callP 76 [Slc nb4 0 66 cp1] (I64 ((kindN (joinT h l r):Int))) (Cl_func [Slc nb4 0 66 cp1] Tryd.call76 rfl) (fun w1 hw1 => kind_c (some ⟨nb4, 0, none⟩) 66 cp1 (joinT h l r) w1 (show (joinT h l r).length = 66 from (joinT_len hl hr)) (RdB.of hw1 (MemAt.ent 3 rfl (Seg.left (Seg.whole _))) (by simp))))) ?_
  rintro v1 L1 ⟨rfl, rfl⟩
  refine ⟨[(25, .bool (decide (((kindN (joinT h l r):Int)) = (3:Int)))), (26, .bool (decide (((kindN (joinT h l r):Int)) = (3:Int)))), (27, .bool (decide (((kindN (joinT h l r):Int)) = (3:Int))))], ?_⟩
  show DP _ _ _ _ _ _ _ _ [⟨nb1, cu8 l, 25, (0, 0)⟩, ⟨nb2, cu8 r, 25, (0, 0)⟩, ⟨nb3, cu8 (sumG constL initL (joinT h l r)), 25, (0, 0)⟩, ⟨nb4, cu8 (joinT h l r) ++ sp1, 5, (0, 0)⟩, ⟨nb5, cu8 (empL h), 25, (0, 0)⟩, ⟨nb6, cu8 (empR 32) ++ sp2, 25, (0, 0)⟩, ⟨nb7, cu8 (joinT h l r) ++ sp3, 5, (0, 0)⟩]
  refine DP_end ⟨[11, 19, 20, 24], [0, 1, 2, 3, 4, 5, 6, 7, 8, 9, 10, 12, 13, 14, 15, 16, 17, 18, 21, 22, 23, 25, 26, 27], [0, 1, 2, 3, 4, 5, 6, 7, 8, 9, 10, 12, 13, 14, 15, 16, 17, 18, 21, 22, 23], [25, 26, 27], []⟩ rfl rfl (by decide +kernel) rfl ⟨⟨_, rfl, Qok_gval 22 107 true _ rfl rfl rfl (decide_eq_true rfl) (Ev_bini rfl rfl fun _ => bin_eql_i _ _)⟩, ⟨_, rfl, Qok_val rfl (Ev_pickT _ rfl (decide_eq_true rfl) rfl)⟩, ⟨_, rfl, Qok_val rfl (Ev_assign rfl)⟩, trivial⟩ ?_
  refine K_sub (F' := [(6, .bool (decide (((kindN (joinT h l r):Int)) = (3:Int))))]) (Sub.cons (by kernel_rfl) (Sub.nil)) ?_
  show JQ _ _ _ [(6, .bool (decide (((kindN (joinT h l r):Int)) = (3:Int))))] _
  refine JQ_then ?_
  refine JC_ret ?_
  refine JQ_ret (.bool (decide (((kindN (joinT h l r):Int)) = (3:Int)))) (res1 Tryd.results18 (RV_tmp rfl)) fun w1 hw1 => ?_
  exact ⟨_, [], rfl, ⟨by rw [show (decide (((kindN (joinT h l r):Int)) = (3:Int))) = true from (decide_eq_true (by rw [kind_join hl hr h1 h2]; rfl))], rfl⟩, hw1.sub (by simp) (by simp)⟩

theorem nodeJoins_w (h : Int) (l r : List UInt8) (w : World) (hb : -9223372036854775808 ≤ h ∧ h ≤ 9223372036854775807) (hl : l.length = 32) (hr : r.length = 32) (hG : GLs w) (hGr : GLr w) (hGi : GLi w) : Calls Tryd.prog 18 #[I64 h, .agg (cu8 l).toArray, .agg (cu8 r).toArray] w (Post w [] (fun v L => v = .bool true ∧ L = [])) := by
  by_cases h0 : h < 0 ∨ 32 < h
  · exact nodeJoinsB_c h l r w hl hr hG hGr hGi h0
  · by_cases h1 : h = 0
    · subst h1; exact nodeJoinsZ_c l r w hl hr hG hGr hGi
    · obtain ⟨k, rfl⟩ : ∃ k : Nat, h = k := ⟨h.toNat, by omega⟩
      exact nodeJoinsI_c k l r w hl hr hG hGr hGi (by omega) (by omega)

theorem nodeKindsB_c (az : Option Addr) (n cz : Nat) (z : List UInt8) (w : World) (hz : z.length = n) (hr : RdB w [] az z) (hG : GLs w) (hGr : GLr w) (hGi : GLi w) (hn : 500 < n) : Calls Tryd.prog 19 #[.slice az n cz] w (Post w [] (fun v L => v = .bool true ∧ L = [])) := by
  have hmx : maxLen = 9223372036854775807 := rfl
  refine enter w [] 37 [] [.slice az n cz] Tryd.func19 rfl rfl (by simp) (Hp.start (by simp) (by simp) (by simp)) ?_
  show JC _ _ _ [(0, .slice az n cz)] _
  refine JC_seq ?_
  refine JC_region ?_
  refine JL_val _ (Ev_assign rfl) rfl ?_
  refine JL_nil ?_
  refine JQ_then ?_
  refine JC_seq ?_
  refine JC_seq ?_
  refine JC_region ?_
  refine JL_step (Step_callP 69 [] (.bool true) (Cl_func [] Tryd.call69 rfl) (fun w1 hw1 => alive8_c  w1 (hG.at hw1))) rfl ?_
  rintro v1 L1 ⟨rfl, rfl⟩
  show JL _ _ _ _ ((6, .bool true) :: _) []
  refine JL_val (.bool (!true)) (Ev_not rfl) rfl ?_
  refine JL_nil ?_
  refine JQ_then ?_
  refine JC_condF _ rfl rfl ?_
  refine JC_skip ?_
  refine JQ_then ?_
  refine JC_seq ?_
  refine JC_seq ?_
  refine JC_region ?_
  refine JL_val _ (Ev_move rfl) rfl ?_
  refine JL_val (I64 ((n:Int))) (Ev_len Tryd.underlying22 rfl) rfl ?_
  refine JL_val (.bool (decide ((500:Int) < ((n:Int))))) (Ev_bini rfl rfl fun _ => bin_gtr_i _ _) rfl ?_
  refine JL_nil ?_
  refine JQ_then ?_
  refine JC_condT _ rfl (decide_eq_true (by omega)) ?_
  refine JC_seq ?_
  refine JC_region ?_
  refine JL_val _ (Ev_assign rfl) rfl ?_
  refine JL_nil ?_
  refine JQ_then ?_
  refine JC_ret ?_
  refine JQ_then_ret ?_
  refine JQ_ret (.bool true) (res1 Tryd.results19 (RV_tmp rfl)) fun w1 hw1 => ?_
  exact ⟨_, [], rfl, ⟨by rw [show (true) = true from rfl], rfl⟩, hw1.sub (by simp) (by simp)⟩

theorem nodeKindsI_c (az : Option Addr) (n cz : Nat) (z : List UInt8) (w : World) (hz : z.length = n) (hr : RdB w [] az z) (hG : GLs w) (hGr : GLr w) (hGi : GLi w) (hn : n ≤ 500) : Calls Tryd.prog 19 #[.slice az n cz] w (Post w [] (fun v L => v = .bool true ∧ L = [])) := by
  have hmx : maxLen = 9223372036854775807 := rfl
  refine enter w [] 37 [] [.slice az n cz] Tryd.func19 rfl rfl (by simp) (Hp.start (by simp) (by simp) (by simp)) ?_
  show JC _ _ _ [(0, .slice az n cz)] _
  refine JC_seq ?_
  refine JC_region ?_
  refine JL_val _ (Ev_assign rfl) rfl ?_
  refine JL_nil ?_
  refine JQ_then ?_
  refine JC_seq ?_
  refine JC_seq ?_
  refine JC_region ?_
  refine JL_step (Step_callP 69 [] (.bool true) (Cl_func [] Tryd.call69 rfl) (fun w1 hw1 => alive8_c  w1 (hG.at hw1))) rfl ?_
  rintro v1 L1 ⟨rfl, rfl⟩
  show JL _ _ _ _ ((6, .bool true) :: _) []
  refine JL_val (.bool (!true)) (Ev_not rfl) rfl ?_
  refine JL_nil ?_
  refine JQ_then ?_
  refine JC_condF _ rfl rfl ?_
  refine JC_skip ?_
  refine JQ_then ?_
  refine JC_seq ?_
  refine JC_seq ?_
  refine JC_region ?_
  refine JL_val _ (Ev_move rfl) rfl ?_
  refine JL_val (I64 ((n:Int))) (Ev_len Tryd.underlying22 rfl) rfl ?_
  refine JL_val (.bool (decide ((500:Int) < ((n:Int))))) (Ev_bini rfl rfl fun _ => bin_gtr_i _ _) rfl ?_
  refine JL_nil ?_
  refine JQ_then ?_
  refine JC_condF _ rfl (decide_eq_false (by omega)) ?_
  refine JC_skip ?_
  refine JQ_then ?_
  refine JC_seq ?_
  refine JC_region ?_
  refine JL_step (Step_callP 77 [] (.agg (cu8 (empA 32)).toArray) (Cl_func [] Tryd.call77 rfl) (fun w1 hw1 => empties_c  w1 (hG.at hw1))) rfl ?_
  rintro v1 L1 ⟨rfl, rfl⟩
  show JL _ _ _ _ ((11, .agg (cu8 (empA 32)).toArray) :: _) []
  refine JL_step (Step_alloc _ (cu8 (zr8 1056)) Tryd.zeroValue111 (by kernel_rfl)) rfl ?_
  rintro v1 L1 ⟨nb1, hnb1, rfl, rfl⟩
  show JL _ _ _ _ ((3, Ptr nb1 0) :: _) [⟨nb1, cu8 (zr8 1056), 111, (0, 0)⟩]
  refine JL_step (Step_store 0 nb1 0 1056 (cu8 (zr8 1056)) 111 (.agg (cu8 (empA 32)).toArray) (cu8 (empA 32)) (cu8 (empA 32)) rfl rfl rfl (by first | rfl | simp) Tryd.sizeOf111 (len_cu8 (empA_len 32 (by decide))) (by first | exact one_u8 | exact one_u32 | exact one_u64 | (simp [cu8, cu32, cu64, Value.oneCell']; done)) (by simp [(zr8_len 1056)]) (lay_whole (by simp [(zr8_len 1056), (empA_len 32 (by decide))]))) rfl ?_
  rintro v1 L1 ⟨rfl, rfl⟩
  show JL _ _ _ _ _ [⟨nb1, cu8 (empA 32), 111, (0, 0)⟩]
  refine JL_nil ?_
  refine JQ_then ?_
  refine JC_seq ?_
  refine JC_region ?_
  refine JL_step (Step_callN 73 [] _ (Cl_func [] Tryd.call73 rfl) (fun w1 hw1 => rempties_c w1 (GLr.at hw1 hGr) (GLi.at hw1 hGi))) rfl ?_
  rintro v1 L1 ⟨_, ⟨nb2, sp1, cp1, rfl, rfl, hc1, hc2, hc3⟩, rfl⟩
  show JL _ _ _ _ ((12, Slc nb2 0 33 cp1) :: _) [⟨nb1, cu8 (empA 32), 111, (0, 0)⟩, ⟨nb2, cu8 (empR 32) ++ sp1, 25, (0, 0)⟩]
  refine JL_val _ (Ev_assign rfl) rfl ?_
  refine JL_nil ?_
  refine JQ_then ?_
  refine JC_seq ?_
  refine JC_seq ?_
  refine JC_region ?_
  refine JL_val _ (Ev_move rfl) rfl ?_
  refine JL_nil ?_
  refine JQ_then ?_
  refine JC_block ?_
  refine JC_loop (ι := Nat) (fun i => [(0, .slice az n cz), (3, Ptr nb1 0), (4, Slc nb2 0 33 cp1), (13, I64 ((i:Int)))]) (fun i => [⟨nb1, cu8 (empA 32), 111, (0, 0)⟩, ⟨nb2, cu8 (empR 32) ++ sp1, 25, (0, 0)⟩]) (fun i => i ≤ 33) (fun i => 33 - i) 0 (by omega) (Sub.cons rfl (Sub.cons rfl (Sub.cons rfl (Sub.cons rfl (Sub.nil))))) rfl ?_
  rintro i hx1
  show JC _ _ _ [(0, .slice az n cz), (3, Ptr nb1 0), (4, Slc nb2 0 33 cp1), (13, I64 ((i:Int)))] [⟨nb1, cu8 (empA 32), 111, (0, 0)⟩, ⟨nb2, cu8 (empR 32) ++ sp1, 25, (0, 0)⟩]
  refine JC_seq ?_
  refine JC_region ?_
  refine JL_val (.bool (decide (((i:Int)) < (33:Int)))) (Ev_bini rfl rfl fun _ => bin_lss_i _ _) rfl ?_
  refine JL_nil ?_
  refine JQ_then ?_
  refine JC_seq ?_
  refine JC_cond (decide (((i:Int)) < (33:Int))) rfl (fun hb1 => ?_) (fun hb1 => ?_)
  ·
    have hp1 : ((i:Int)) < (33:Int) := of_decide_eq_true hb1
    refine JC_skip ?_
    refine JQ_then ?_
    refine JC_seq ?_
    refine JC_block ?_
    refine JC_seq ?_
    refine JC_region ?_
    refine JL_val _ (Ev_move rfl) rfl ?_
    refine JL_val _ (Ev_assign rfl) rfl ?_
    refine JL_nil ?_
    refine JQ_then ?_
    refine JC_seq ?_
    have hl1 : (mid (empA 32) (32*i) 32).length = 32 := mid_len (by rw [(empA_len 32 (by decide))]; omega)
    have hl2 : (mid (empR 32) (32*i) 32).length = 32 := mid_len (by rw [(empR_len 32)]; omega)
    refine JC_draw 37 1 [(0, I64 ((i:Int))), (1, Ptr nb1 (32*i)), (2, .agg (cu8 (mid (empA 32) (32*i) 32)).toArray), (3, Slc nb2 0 33 cp1), (4, I64 ((i:Int))), (5, Ptr nb2 (32*i)), (6, .agg (cu8 (mid (empR 32) (32*i) 32)).toArray), (7, .bool (!(decide ((mid (empA 32) (32*i) 32) = (mid (empR 32) (32*i) 32)))))] Tryd.mixed rfl (by decide +kernel) ?_
    have hl3 : (mid (empA 32) (32*i) 32).length = 32 := mid_len (by rw [(empA_len 32 (by decide))]; omega)
    have hl4 : (mid (empR 32) (32*i) 32).length = 32 := mid_len (by rw [(empR_len 32)]; omega)
    refine DP_end ⟨[], [0, 1, 2, 3, 4, 5, 6, 7], [], [0, 1, 2, 3, 4, 5, 6, 7], []⟩ rfl rfl (by decide +kernel) rfl ⟨⟨_, rfl, Qok_val rfl (Ev_move rfl)⟩, ⟨_, rfl, Qok_val rfl (Ev_indexArr 33 25 32 (32*i) Tryd.underlying111 Tryd.sizeOf25 rfl rfl (by omega) (by omega) (by omega))⟩, ⟨_, rfl, Qok_val rfl (Ev_load rfl (Ld_agg Tryd.isAgg25 Tryd.sizeOf25 (len_cu8 hl3) (MemAt.ent 0 rfl (segm_u8 (32*i) 32 (by rw [(empA_len 32 (by decide))]; omega)))))⟩, ⟨_, rfl, Qok_val rfl (Ev_move rfl)⟩, ⟨_, rfl, Qok_val rfl (Ev_move rfl)⟩, ⟨_, rfl, Qok_val rfl (Ev_indexSl 25 32 (32*i) Tryd.underlying105 Tryd.sizeOf25 rfl rfl (by omega) (by omega) (by omega))⟩, ⟨_, rfl, Qok_val rfl (Ev_load rfl (Ld_agg Tryd.isAgg25 Tryd.sizeOf25 (len_cu8 hl4) (MemAt.ent 1 rfl (Seg.left (segm_u8 (32*i) 32 (by rw [(empR_len 32)]; omega))))))⟩, ⟨_, rfl, Qok_val rfl (Ev_bin _ _ _ rfl rfl (fun _ => eqGuard_agg _ _ _ _ _ _ (by kernel_rfl)) fun _ => neq_arr8 Tryd.underlying25 Tryd.underlying5 Tryd.isAgg5 Tryd.cells5 Tryd.has5 (by simp [hl1]) (by simp [hl2]))⟩, trivial⟩ ?_
    refine K_sub (F' := [(16, I64 ((i:Int))), (17, Ptr nb1 (32*i)), (18, .agg (cu8 (mid (empA 32) (32*i) 32)).toArray), (19, Slc nb2 0 33 cp1), (20, I64 ((i:Int))), (21, Ptr nb2 (32*i)), (22, .agg (cu8 (mid (empR 32) (32*i) 32)).toArray), (23, .bool (!(decide ((mid (empA 32) (32*i) 32) = (mid (empR 32) (32*i) 32))))), (0, .slice az n cz), (3, Ptr nb1 0), (4, Slc nb2 0 33 cp1), (13, I64 ((i:Int))), (14, .bool (decide (((i:Int)) < (33:Int)))), (15, I64 ((i:Int))), (5, I64 ((i:Int)))]) (Sub.cons (by kernel_rfl) (Sub.cons (by kernel_rfl) (Sub.cons (by kernel_rfl) (Sub.cons (by kernel_rfl) (Sub.cons (by kernel_rfl) (Sub.cons (by kernel_rfl) (Sub.cons (by kernel_rfl) (Sub.cons (by kernel_rfl) (Sub.cons (by kernel_rfl) (Sub.cons (by kernel_rfl) (Sub.cons (by kernel_rfl) (Sub.cons (by kernel_rfl) (Sub.cons (by kernel_rfl) (Sub.cons (by kernel_rfl) (Sub.cons (by kernel_rfl) (Sub.nil)))))))))))))))) ?_
    show JQ _ _ _ [(16, I64 ((i:Int))), (17, Ptr nb1 (32*i)), (18, .agg (cu8 (mid (empA 32) (32*i) 32)).toArray), (19, Slc nb2 0 33 cp1), (20, I64 ((i:Int))), (21, Ptr nb2 (32*i)), (22, .agg (cu8 (mid (empR 32) (32*i) 32)).toArray), (23, .bool (!(decide ((mid (empA 32) (32*i) 32) = (mid (empR 32) (32*i) 32))))), (0, .slice az n cz), (3, Ptr nb1 0), (4, Slc nb2 0 33 cp1), (13, I64 ((i:Int))), (14, .bool (decide (((i:Int)) < (33:Int)))), (15, I64 ((i:Int))), (5, I64 ((i:Int)))] _
    refine JQ_then ?_
    refine JC_condF _ rfl (by rw [show (decide ((mid (empA 32) (32*i) 32) = (mid (empR 32) (32*i) 32))) = true from (decide_eq_true (emp_same (by omega)))] <;> rfl) ?_
    refine JC_skip ?_
    refine JQ_in_normal ?_
    refine JQ_then ?_
    refine JC_region ?_
    refine JL_val (I64 ((i:Int) + 1)) (Ev_bini rfl rfl fun _ => bin_add_i _ _ ((i:Int) + 1) (by omega) (by omega)) rfl ?_
    refine JL_val _ (Ev_move rfl) rfl ?_
    refine JL_nil ?_
    refine JQ_thenK ?_
    refine K_next (i + 1) (by omega) (by first | (simp; omega) | simp | (dsimp only; omega) | omega) (Sub.cons rfl (Sub.cons rfl (Sub.cons rfl (Sub.cons (some_i64 (by omega)) (Sub.nil))))) rfl
  ·
    have hp1 : ¬ (((i:Int)) < (33:Int)) := of_decide_eq_false hb1
    refine JC_exit ?_
    refine JQ_then_exit ?_
    refine JQ_then_exit ?_
    refine JQ_in_same ?_
    refine JQ_then ?_
    refine JC_seq ?_
    refine JC_draw 37 5 [(0, .slice az n cz), (2, .slice az n cz)] Tryd.mixed rfl (by decide +kernel) ?_
    refine DP_one ⟨[], [0, 2], [], [0, 2], [1]⟩ 1 _ rfl rfl (by decide +kernel) rfl ⟨⟨_, rfl, Qok_val rfl (Ev_move rfl)⟩, ⟨_, rfl, Qok_val rfl (Ev_move rfl)⟩, trivial⟩ rfl (Cok_step rfl (Step_callP 76 [.slice az n cz] (I64 ((kindN z:Int))) (Cl_func [.slice az n cz] Tryd.call76 rfl) (fun w1 hw1 => kind_c az n cz z w1 hz (hr.at (M' := []) hw1 (by simp))))) ?_
    rintro v1 L1 ⟨rfl, rfl⟩
    refine ⟨[], ?_⟩
    show DP _ _ _ _ _ _ _ _ [⟨nb1, cu8 (empA 32), 111, (0, 0)⟩, ⟨nb2, cu8 (empR 32) ++ sp1, 25, (0, 0)⟩]
    refine DP_one ⟨[1], [0, 2], [0], [2], [3]⟩ 3 _ rfl rfl (by decide +kernel) rfl ⟨⟨_, rfl, Qok_val rfl (Ev_move rfl)⟩, trivial⟩ rfl (Cok_step rfl (Step_callP 78 [.slice az n cz] (I64 ((kindN z:Int))) (Cl_func [.slice az n cz] Tryd.call78 rfl) (fun w1 hw1 => rkind_c az n cz z w1 hz (hr.at (M' := []) hw1 (by simp))))) ?_
    rintro v1 L1 ⟨rfl, rfl⟩
    have hl5 : (mid (empA 32) 0 32).length = 32 := mid_len (by rw [(empA_len 32 (by decide))]; omega)
    refine ⟨[(4, .bool (decide (((kindN z:Int)) = ((kindN z:Int))))), (5, .bool (decide (((kindN z:Int)) = ((kindN z:Int))))), (8, Ptr nb1 0), (9, .agg (cu8 (mid (empA 32) 0 32)).toArray)], ?_⟩
    show DP _ _ _ _ _ _ _ _ [⟨nb1, cu8 (empA 32), 111, (0, 0)⟩, ⟨nb2, cu8 (empR 32) ++ sp1, 25, (0, 0)⟩]
    have hl6 : (mid (empA 32) 0 32).length = 32 := mid_len (by rw [(empA_len 32 (by decide))]; omega)
    refine DP_one ⟨[1, 3], [0, 2, 4, 5, 8, 9], [0, 2], [4, 5, 8, 9], [6]⟩ 6 _ rfl rfl (by decide +kernel) rfl ⟨⟨_, rfl, Qok_val rfl (Ev_bini rfl rfl fun _ => bin_eql_i _ _)⟩, ⟨_, rfl, Qok_val rfl (Ev_move rfl)⟩, ⟨_, rfl, Qok_gval 5 30 true _ rfl rfl rfl (by simp) (Ev_indexArr 33 25 32 0 Tryd.underlying111 Tryd.sizeOf25 rfl rfl (by omega) (by omega) (by omega))⟩, ⟨_, rfl, Qok_gval 5 30 true _ rfl rfl rfl (by simp) (Ev_load rfl (Ld_agg Tryd.isAgg25 Tryd.sizeOf25 (len_cu8 hl6) (MemAt.ent 0 rfl (segm_u8 0 32 (by rw [(empA_len 32 (by decide))]; omega)))))⟩, trivial⟩ rfl (Cok_gstep 5 30 true _ rfl rfl rfl (by simp) (Step_buildSlice 5 1 _ [(0, U8 (0:UInt8))] (cu8 ([(0:UInt8)])) Tryd.underlying22 Tryd.sizeOf5 Tryd.zeroValue5 rfl rfl rfl (by kernel_rfl))) ?_
    rintro v1 L1 ⟨nb3, hnb3, rfl, rfl⟩
    refine ⟨[], ?_⟩
    show DP _ _ _ _ _ _ _ _ [⟨nb1, cu8 (empA 32), 111, (0, 0)⟩, ⟨nb2, cu8 (empR 32) ++ sp1, 25, (0, 0)⟩, ⟨nb3, cu8 ([(0:UInt8)]), 5, (0, 0)⟩]
    have hl7 : (mid (empA 32) 0 32).length = 32 := mid_len (by rw [(empA_len 32 (by decide))]; omega)
    refine DP_one ⟨[1, 3, 6], [0, 2, 4, 5, 8, 9], [0, 2, 4, 5], [8, 9], [7]⟩ 7 _ rfl rfl (by decide +kernel) rfl ⟨⟨_, rfl, Qok_gval 5 30 true _ rfl rfl rfl (by simp) (Ev_indexArr 33 25 32 0 Tryd.underlying111 Tryd.sizeOf25 rfl rfl (by omega) (by omega) (by omega))⟩, ⟨_, rfl, Qok_gval 5 30 true _ rfl rfl rfl (by simp) (Ev_load rfl (Ld_agg Tryd.isAgg25 Tryd.sizeOf25 (len_cu8 hl7) (MemAt.ent 0 rfl (segm_u8 0 32 (by rw [(empA_len 32 (by decide))]; omega)))))⟩, trivial⟩ rfl (Cok_gstep 5 30 true _ rfl rfl rfl (by simp) (Step_callP 24 [Slc nb3 0 1 1] (.agg (cu8 (sumG constL initL ([(0:UInt8)]))).toArray) (Cl_func [Slc nb3 0 1 1] Tryd.call24 rfl) (fun w1 hw1 => rsum_c (some ⟨nb3, 0, none⟩) 1 1 ([(0:UInt8)]) w1 rfl (by omega) (RdB.of hw1 (MemAt.ent 2 rfl (Seg.whole _)) (by simp)) (GLr.at hw1 hGr) (GLi.at hw1 hGi)))) ?_
    rintro v1 L1 ⟨rfl, rfl⟩
    refine ⟨[(10, .bool (decide ((sumG constL initL ([(0:UInt8)])) = (mid (empA 32) 0 32)))), (11, .bool (decide ((sumG constL initL ([(0:UInt8)])) = (mid (empA 32) 0 32)))), (12, .bool (decide ((sumG constL initL ([(0:UInt8)])) = (mid (empA 32) 0 32))))], ?_⟩
    show DP _ _ _ _ _ _ _ _ [⟨nb1, cu8 (empA 32), 111, (0, 0)⟩, ⟨nb2, cu8 (empR 32) ++ sp1, 25, (0, 0)⟩, ⟨nb3, cu8 ([(0:UInt8)]), 5, (0, 0)⟩]
    have hl8 : (mid (empA 32) 0 32).length = 32 := mid_len (by rw [(empA_len 32 (by decide))]; omega)
    refine DP_end ⟨[1, 3, 6, 7], [0, 2, 4, 5, 8, 9, 10, 11, 12], [0, 2, 4, 5], [8, 9, 10, 11, 12], []⟩ rfl rfl (by decide +kernel) rfl ⟨⟨_, rfl, Qok_gval 5 30 true _ rfl rfl rfl (by simp) (Ev_indexArr 33 25 32 0 Tryd.underlying111 Tryd.sizeOf25 rfl rfl (by omega) (by omega) (by omega))⟩, ⟨_, rfl, Qok_gval 5 30 true _ rfl rfl rfl (by simp) (Ev_load rfl (Ld_agg Tryd.isAgg25 Tryd.sizeOf25 (len_cu8 hl8) (MemAt.ent 0 rfl (segm_u8 0 32 (by rw [(empA_len 32 (by decide))]; omega)))))⟩, ⟨_, rfl, Qok_gval 5 30 true _ rfl rfl rfl (by simp) (Ev_bin _ _ _ rfl rfl (fun _ => eqGuard_agg _ _ _ _ _ _ (by kernel_rfl)) fun _ => eql_arr8 Tryd.underlying25 Tryd.underlying5 Tryd.isAgg5 Tryd.cells5 Tryd.has5 (by simp [(sumG_len _ _ _)]) (by simp [hl5]))⟩, ⟨_, rfl, Qok_val rfl (Ev_pickT _ rfl (by simp) rfl)⟩, ⟨_, rfl, Qok_val rfl (Ev_assign rfl)⟩, trivial⟩ ?_
    refine K_sub (F' := [(2, .bool (decide ((sumG constL initL ([(0:UInt8)])) = (mid (empA 32) 0 32))))]) (Sub.cons (by kernel_rfl) (Sub.nil)) ?_
    show JQ _ _ _ [(2, .bool (decide ((sumG constL initL ([(0:UInt8)])) = (mid (empA 32) 0 32))))] _
    refine JQ_then ?_
    refine JC_ret ?_
    refine JQ_ret (.bool (decide ((sumG constL initL ([(0:UInt8)])) = (mid (empA 32) 0 32)))) (res1 Tryd.results19 (RV_tmp rfl)) fun w1 hw1 => ?_
    exact ⟨_, [], rfl, ⟨by rw [show (decide ((sumG constL initL ([(0:UInt8)])) = (mid (empA 32) 0 32))) = true from (decide_eq_true emp_first)], rfl⟩, hw1.sub (by simp) (by simp)⟩

theorem nodeKinds_w (az : Option Addr) (n cz : Nat) (z : List UInt8) (w : World) (hz : z.length = n) (hcb : az = none → cz = 0) (hc : n ≤ cz ∧ cz ≤ maxLen) (hr : RdB w [] az z) (hG : GLs w) (hGr : GLr w) (hGi : GLi w) : Calls Tryd.prog 19 #[.slice az n cz] w (Post w [] (fun v L => v = .bool true ∧ L = [])) := by
  by_cases hn : n ≤ 500
  · exact nodeKindsI_c az n cz z w hz hr hG hGr hGi hn
  · exact nodeKindsB_c az n cz z w hz hr hG hGr hGi (by omega)

end Go.Proofs.YtncoifiafklkjaaDoor
