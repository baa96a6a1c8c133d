import Derived.Lib.LaidTab
import Derived.MakeChecks
import Derived.Test.YtncoifiafklkjaaDoorPkApart4
namespace Go.Proofs.YtncoifiafklkjaaDoor
open Go Go.Sx
set_option linter.unusedVariables false
set_option linter.unusedSimpArgs false
set_option maxRecDepth 100000
attribute [local irreducible] mid zr8 zr32 numK valK rotr wordL spreadL comprL cpN adN spN constL initL padL stN outN sumG putL leafT joinT empL empA kindN
theorem nodeAp1_c (x y e1 : UInt64) (d1 t1 : List UInt8) (e2 : UInt64) (d2 t2 : List UInt8) (a : Int) (b : Int)  (w : World) (hd1 : d1.length = 32) (ht1 : t1.length = 16) (hd2 : d2.length = 32) (ht2 : t2.length = 16) (hG : GLs w) (hx : ¬ (4294967295:UInt64) < x) (hy : (4294967295:UInt64) < y) (ha : a < 1 ∨ 32 < a) (hb : b < 1 ∨ 32 < b)  : Calls Tryd.prog 20 #[.agg (List.toArray (α := Value) ([U64 x, U64 y])), .agg (List.toArray (α := Value) ([U64 e1] ++ cu8 d1 ++ cu8 t1 ++ [U64 e2] ++ cu8 d2 ++ cu8 t2)), .agg (List.toArray (α := Value) ([I64 (a), I64 (b)]))] w (Post w [] (fun v L => v = .bool true ∧ L = [])) := by
  have hmx : maxLen = 9223372036854775807 := rfl
  refine enter (P := Tryd.prog) (f := 20) (fn := Tryd.f20) w [] 127 [] [.agg (List.toArray (α := Value) ([U64 x, U64 y])), .agg (List.toArray (α := Value) ([U64 e1] ++ cu8 d1 ++ cu8 t1 ++ [U64 e2] ++ cu8 d2 ++ cu8 t2)), .agg (List.toArray (α := Value) ([I64 (a), I64 (b)]))] Tryd.func20 rfl rfl (by simp) (Hp.start (by simp) (by simp) (by simp)) ?_
  show JC _ _ _ [(0, .agg (List.toArray (α := Value) ([U64 x, U64 y]))), (1, .agg (List.toArray (α := Value) ([U64 e1] ++ cu8 d1 ++ cu8 t1 ++ [U64 e2] ++ cu8 d2 ++ cu8 t2))), (2, .agg (List.toArray (α := Value) ([I64 (a), I64 (b)])))] _
  refine JC_seq ?_
  refine JC_region ?_
  refine JL_step (Step_box (.agg (List.toArray (α := Value) ([U64 x, U64 y]))) ([U64 x, U64 y]) rfl (by first | rfl | simp)) rfl ?_
  rintro v1 L1 ⟨nb1, hnb1, rfl, rfl⟩
  show JL _ _ _ _ ((3, Ptr nb1 0) :: _) [⟨nb1, [U64 x, U64 y], 68, (0, 0)⟩]
  refine JL_step (Step_box (.agg (List.toArray (α := Value) ([U64 e1] ++ cu8 d1 ++ cu8 t1 ++ [U64 e2] ++ cu8 d2 ++ cu8 t2))) ([U64 e1] ++ cu8 d1 ++ cu8 t1 ++ [U64 e2] ++ cu8 d2 ++ cu8 t2) rfl (by first | rfl | simp)) rfl ?_
  rintro v1 L1 ⟨nb2, hnb2, rfl, rfl⟩
  show JL _ _ _ _ ((4, Ptr nb2 0) :: _) [⟨nb1, [U64 x, U64 y], 68, (0, 0)⟩, ⟨nb2, [U64 e1] ++ cu8 d1 ++ cu8 t1 ++ [U64 e2] ++ cu8 d2 ++ cu8 t2, 113, (0, 0)⟩]
  refine JL_step (Step_box (.agg (List.toArray (α := Value) ([I64 (a), I64 (b)]))) ([I64 (a), I64 (b)]) rfl (by first | rfl | simp)) rfl ?_
  rintro v1 L1 ⟨nb3, hnb3, rfl, rfl⟩
  show JL _ _ _ _ ((5, Ptr nb3 0) :: _) [⟨nb1, [U64 x, U64 y], 68, (0, 0)⟩, ⟨nb2, [U64 e1] ++ cu8 d1 ++ cu8 t1 ++ [U64 e2] ++ cu8 d2 ++ cu8 t2, 113, (0, 0)⟩, ⟨nb3, [I64 (a), I64 (b)], 95, (0, 0)⟩]
  refine JL_val _ (Ev_assign rfl) rfl ?_
  refine JL_nil ?_
  refine JQ_then ?_
  refine JC_seq ?_
  refine JC_seq ?_
  refine JC_region ?_
  refine JL_step (Step_callP 69 [] (.bool true) (Cl_func [] Tryd.call69 rfl) (fun w1 hw1 => alive8_c  w1 (hG.at hw1))) rfl ?_
  rintro v1 L1 ⟨rfl, rfl⟩
  show JL _ _ _ _ ((17, .bool true) :: _) [⟨nb1, [U64 x, U64 y], 68, (0, 0)⟩, ⟨nb2, [U64 e1] ++ cu8 d1 ++ cu8 t1 ++ [U64 e2] ++ cu8 d2 ++ cu8 t2, 113, (0, 0)⟩, ⟨nb3, [I64 (a), I64 (b)], 95, (0, 0)⟩]
  refine JL_val (.bool (!true)) (Ev_not rfl) rfl ?_
  refine JL_nil ?_
  refine JQ_then ?_
  refine JC_condF _ rfl rfl ?_
  refine JC_skip ?_
  refine JQ_then ?_
  refine JC_seq ?_
  refine JC_region ?_
  refine JL_val (Ptr nb1 0) (Ev_indexArr 2 58 1 0 Tryd.underlying68 Tryd.sizeOf58 rfl rfl (by omega) (by omega) (by omega)) rfl ?_
  refine JL_val (U64 x) (Ev_load rfl (Ld_one Tryd.isAgg58 (MemAt.ent 0 rfl (Seg.head)))) rfl ?_
  refine JL_val (Ptr nb2 0) (Ev_indexArr 2 76 49 0 Tryd.underlying113 Tryd.sizeOf76 rfl rfl (by omega) (by omega) (by omega)) rfl ?_
  refine JL_val (.agg (List.toArray (α := Value) ([U64 e1] ++ cu8 d1 ++ cu8 t1))) (Ev_load rfl (Ld_agg Tryd.isAgg76 Tryd.sizeOf76 (by simp [hd1, ht1]) (MemAt.ent 1 rfl (Seg.split (p := []) (q := [U64 e2] ++ cu8 d2 ++ cu8 t2) (vs := [U64 e1] ++ cu8 d1 ++ cu8 t1) (by first | rfl | (simp only [List.append_assoc, List.nil_append, List.append_nil, List.cons_append]; done)) rfl)))) rfl ?_
  refine JL_step (Step_callN 79 [U64 x, .agg (List.toArray (α := Value) ([U64 e1] ++ cu8 d1 ++ cu8 t1))] _ (Cl_func [U64 x, .agg (List.toArray (α := Value) ([U64 e1] ++ cu8 d1 ++ cu8 t1))] Tryd.call79 rfl) (fun w1 hw1 => leafText_c x e1 d1 t1 w1 hd1 ht1 (shr4z hx))) rfl ?_
  rintro v1 L1 ⟨_, ⟨nb4, sp1, cp1, rfl, rfl, hc1, hc2, hc3⟩, rfl⟩
  show JL _ _ _ _ ((24, .tuple #[Slc nb4 0 61 cp1, .nilIface]) :: _) [⟨nb1, [U64 x, U64 y], 68, (0, 0)⟩, ⟨nb2, [U64 e1] ++ cu8 d1 ++ cu8 t1 ++ [U64 e2] ++ cu8 d2 ++ cu8 t2, 113, (0, 0)⟩, ⟨nb3, [I64 (a), I64 (b)], 95, (0, 0)⟩, ⟨nb4, cu8 (leafT x e1 d1 t1) ++ sp1, 5, (0, 0)⟩]
  refine JL_val _ (Ev_move rfl) rfl ?_
  refine JL_val _ (Ev_extract rfl rfl) rfl ?_
  refine JL_val _ (Ev_extract rfl rfl) rfl ?_
  refine JL_val _ (Ev_assign rfl) rfl ?_
  refine JL_val _ (Ev_assign rfl) rfl ?_
  refine JL_nil ?_
  refine JQ_then ?_
  refine JC_seq ?_
  refine JC_region ?_
  refine JL_val (Ptr nb1 1) (Ev_indexArr 2 58 1 1 Tryd.underlying68 Tryd.sizeOf58 rfl rfl (by omega) (by omega) (by omega)) rfl ?_
  refine JL_val (U64 y) (Ev_load rfl (Ld_one Tryd.isAgg58 (MemAt.ent 0 rfl (Seg.tail (Seg.head))))) rfl ?_
  refine JL_val (Ptr nb2 49) (Ev_indexArr 2 76 49 49 Tryd.underlying113 Tryd.sizeOf76 rfl rfl (by omega) (by omega) (by omega)) rfl ?_
  refine JL_val (.agg (List.toArray (α := Value) ([U64 e2] ++ cu8 d2 ++ cu8 t2))) (Ev_load rfl (Ld_agg Tryd.isAgg76 Tryd.sizeOf76 (by simp [hd2, ht2]) (MemAt.ent 1 rfl (Seg.split (p := [U64 e1] ++ cu8 d1 ++ cu8 t1) (q := []) (vs := [U64 e2] ++ cu8 d2 ++ cu8 t2) (by first | rfl | (simp only [List.append_assoc, List.nil_append, List.append_nil, List.cons_append]; done)) (by simp [hd1, ht1]))))) rfl ?_
  refine JL_step (Step_callP 79 [U64 y, .agg (List.toArray (α := Value) ([U64 e2] ++ cu8 d2 ++ cu8 t2))] (.tuple #[.slice none 0 0, .iface 43 (I64 (1:Int))]) (Cl_func [U64 y, .agg (List.toArray (α := Value) ([U64 e2] ++ cu8 d2 ++ cu8 t2))] Tryd.call79 rfl) (fun w1 hw1 => leafTextB_c y e2 d2 t2 w1 hd2 ht2 (shr4n hy))) rfl ?_
  rintro v1 L1 ⟨rfl, rfl⟩
  show JL _ _ _ _ ((32, .tuple #[.slice none 0 0, .iface 43 (I64 (1:Int))]) :: _) [⟨nb1, [U64 x, U64 y], 68, (0, 0)⟩, ⟨nb2, [U64 e1] ++ cu8 d1 ++ cu8 t1 ++ [U64 e2] ++ cu8 d2 ++ cu8 t2, 113, (0, 0)⟩, ⟨nb3, [I64 (a), I64 (b)], 95, (0, 0)⟩, ⟨nb4, cu8 (leafT x e1 d1 t1) ++ sp1, 5, (0, 0)⟩]
  refine JL_val _ (Ev_move rfl) rfl ?_
  refine JL_val _ (Ev_extract rfl rfl) rfl ?_
  refine JL_val _ (Ev_extract rfl rfl) rfl ?_
  refine JL_val _ (Ev_assign rfl) rfl ?_
  refine JL_val _ (Ev_assign rfl) rfl ?_
  refine JL_nil ?_
  refine JQ_then ?_
  refine JC_seq ?_
  refine JC_seq ?_
  refine JC_draw 127 1 [(0, .nilIface), (1, .bool true), (2, .bool true), (3, .iface 43 (I64 (1:Int))), (4, .bool false), (5, .bool false), (6, .bool false), (7, undef), (8, undef), (9, undef), (10, undef), (11, undef), (12, undef), (13, undef), (14, undef), (15, undef), (16, undef), (17, undef), (18, undef), (19, undef), (20, undef), (21, undef), (22, undef), (23, undef), (24, undef), (25, .bool false)] Tryd.mixed rfl (by decide +kernel) ?_
  refine DP_end ⟨[], [0, 1, 2, 3, 4, 5, 6, 7, 8, 9, 10, 11, 12, 13, 14, 15, 16, 17, 18, 19, 20, 21, 22, 23, 24, 25], [], [0, 1, 2, 3, 4, 5, 6, 7, 8, 9, 10, 11, 12, 13, 14, 15, 16, 17, 18, 19, 20, 21, 22, 23, 24, 25], []⟩ rfl rfl (by decide +kernel) rfl ⟨⟨_, rfl, Qok_val rfl (Ev_move rfl)⟩, ⟨_, rfl, Qok_val rfl (Ev_bin _ _ _ rfl rfl (fun _ => eqGuard_nn ..) fun _ => eql_if_nil_nil Tryd.underlying39)⟩, ⟨_, rfl, Qok_val rfl (Ev_move rfl)⟩, ⟨_, rfl, Qok_gval 2 37 true _ rfl rfl rfl rfl (Ev_move rfl)⟩, ⟨_, rfl, Qok_gval 2 37 true _ rfl rfl rfl rfl (Ev_bin _ _ _ rfl rfl (fun _ => eqGuard_if ..) fun _ => eql_if_nil Tryd.underlying39)⟩, ⟨_, rfl, Qok_val rfl (Ev_pickT _ rfl rfl rfl)⟩, ⟨_, rfl, Qok_val rfl (Ev_move rfl)⟩, ⟨_, rfl, Qok_gskip 6 41 true _ rfl rfl rfl rfl⟩, ⟨_, rfl, Qok_gskip 6 41 true _ rfl rfl rfl rfl⟩, ⟨_, rfl, Qok_gskip 6 41 true _ rfl rfl rfl rfl⟩, ⟨_, rfl, Qok_gskip 6 41 true _ rfl rfl rfl rfl⟩, ⟨_, rfl, Qok_gskip 6 41 true _ rfl rfl rfl rfl⟩, ⟨_, rfl, Qok_gskip 6 41 true _ rfl rfl rfl rfl⟩, ⟨_, rfl, Qok_gskip 6 41 true _ rfl rfl rfl rfl⟩, ⟨_, rfl, Qok_gskip 6 41 true _ rfl rfl rfl rfl⟩, ⟨_, rfl, Qok_gskip 6 41 true _ rfl rfl rfl rfl⟩, ⟨_, rfl, Qok_gskip 6 41 true _ rfl rfl rfl rfl⟩, ⟨_, rfl, Qok_gskip 6 41 true _ rfl rfl rfl rfl⟩, ⟨_, rfl, Qok_gskipU 17 52 true rfl rfl rfl⟩, ⟨_, rfl, Qok_gskipU 17 52 true rfl rfl rfl⟩, ⟨_, rfl, Qok_gskipU 17 52 true rfl rfl rfl⟩, ⟨_, rfl, Qok_gskipU 17 52 true rfl rfl rfl⟩, ⟨_, rfl, Qok_gskipU 17 52 true rfl rfl rfl⟩, ⟨_, rfl, Qok_gskip 6 41 true _ rfl rfl rfl rfl⟩, ⟨_, rfl, Qok_gskip 6 41 true _ rfl rfl rfl rfl⟩, ⟨_, rfl, Qok_val rfl (Ev_pickF _ rfl rfl rfl)⟩, trivial⟩ ?_
  refine K_sub (F' := [(60, .bool false), (4, Ptr nb2 0), (5, Ptr nb3 0), (6, .bool false), (7, Slc nb4 0 61 cp1), (8, .nilIface)]) (Sub.cons (by kernel_rfl) (Sub.cons (by kernel_rfl) (Sub.cons (by kernel_rfl) (Sub.cons (by kernel_rfl) (Sub.cons (by kernel_rfl) (Sub.cons (by kernel_rfl) (Sub.nil))))))) ?_
  show JQ _ _ _ [(60, .bool false), (4, Ptr nb2 0), (5, Ptr nb3 0), (6, .bool false), (7, Slc nb4 0 61 cp1), (8, .nilIface)] _
  refine JQ_then ?_
  refine JC_condF _ rfl rfl ?_
  refine JC_skip ?_
  refine JQ_then ?_
  refine JC_seq ?_
  refine JC_cut (ι := Nat × Nat) (fun ⟨ynb0, ynb1⟩ => [(5, Ptr nb3 0), (6, .bool false), (7, Slc nb4 0 61 cp1), (8, .nilIface), (11, Ptr ynb0 0), (12, Ptr ynb1 0)]) (fun ⟨ynb0, ynb1⟩ => [⟨nb3, [I64 (a), I64 (b)], 95, (0, 0)⟩, ⟨nb4, cu8 (leafT x e1 d1 t1) ++ sp1, 5, (0, 0)⟩, ⟨ynb0, cu8 d1, 25, (0, 0)⟩, ⟨ynb1, cu8 d2, 25, (0, 0)⟩]) (fun ⟨ynb0, ynb1⟩ => True) ?_ ?_
  ·
    refine JC_draw 127 5 [(0, Ptr nb2 0), (1, Ptr nb2 1), (2, .agg (cu8 d1).toArray), (3, Ptr nb2 49), (4, Ptr nb2 50), (5, .agg (cu8 d2).toArray)] Tryd.mixed rfl (by decide +kernel) ?_
    refine DP_two ⟨[], [0, 1, 2, 3, 4, 5], [], [0, 1, 2, 3, 4, 5], [6, 7]⟩ 6 7 _ _ rfl rfl (by decide +kernel) rfl ⟨⟨_, rfl, Qok_val rfl (Ev_indexArr 2 76 49 0 Tryd.underlying113 Tryd.sizeOf76 rfl rfl (by omega) (by omega) (by omega))⟩, ⟨_, rfl, Qok_val rfl (Ev_fieldAddr 1 74 32 Tryd.underlying76 rfl Tryd.sizeOf74 rfl rfl)⟩, ⟨_, rfl, Qok_val rfl (Ev_load rfl (Ld_agg Tryd.isAgg74 Tryd.sizeOf74 (len_cu8 hd1) (MemAt.ent 1 rfl (Seg.left (Seg.left (Seg.left (Seg.left (Seg.right 1 0 rfl rfl (Seg.whole _)))))))))⟩, ⟨_, rfl, Qok_val rfl (Ev_indexArr 2 76 49 49 Tryd.underlying113 Tryd.sizeOf76 rfl rfl (by omega) (by omega) (by omega))⟩, ⟨_, rfl, Qok_val rfl (Ev_fieldAddr 1 74 32 Tryd.underlying76 rfl Tryd.sizeOf74 rfl rfl)⟩, ⟨_, rfl, Qok_val rfl (Ev_load rfl (Ld_agg Tryd.isAgg74 Tryd.sizeOf74 (len_cu8 hd2) (MemAt.ent 1 rfl (Seg.left (Seg.right 50 0 (by simp [hd1, ht1]) rfl (Seg.whole _))))))⟩, trivial⟩ rfl rfl (Cok_step rfl (Step_alloc _ (cu8 (zr8 32)) Tryd.zeroValue25 (by kernel_rfl))) (Cok_step rfl (Step_alloc _ (cu8 (zr8 32)) Tryd.zeroValue25 (by kernel_rfl))) ?_ ?_
    ·
      rintro v1 L1 ⟨nb5, hnb5, rfl, rfl⟩
      refine ⟨[], ?_⟩
      show DP _ _ _ _ _ _ _ _ [⟨nb1, [U64 x, U64 y], 68, (0, 0)⟩, ⟨nb2, [U64 e1] ++ cu8 d1 ++ cu8 t1 ++ [U64 e2] ++ cu8 d2 ++ cu8 t2, 113, (0, 0)⟩, ⟨nb3, [I64 (a), I64 (b)], 95, (0, 0)⟩, ⟨nb4, cu8 (leafT x e1 d1 t1) ++ sp1, 5, (0, 0)⟩, ⟨nb5, cu8 (zr8 32), 25, (0, 0)⟩]
      refine DP_one ⟨[6], [0, 1, 2, 3, 4, 5], [], [0, 1, 2, 3, 4, 5], [7]⟩ 7 _ rfl rfl (by decide +kernel) rfl ⟨⟨_, rfl, Qok_val rfl (Ev_indexArr 2 76 49 0 Tryd.underlying113 Tryd.sizeOf76 rfl rfl (by omega) (by omega) (by omega))⟩, ⟨_, rfl, Qok_val rfl (Ev_fieldAddr 1 74 32 Tryd.underlying76 rfl Tryd.sizeOf74 rfl rfl)⟩, ⟨_, rfl, Qok_val rfl (Ev_load rfl (Ld_agg Tryd.isAgg74 Tryd.sizeOf74 (len_cu8 hd1) (MemAt.ent 1 rfl (Seg.left (Seg.left (Seg.left (Seg.left (Seg.right 1 0 rfl rfl (Seg.whole _)))))))))⟩, ⟨_, rfl, Qok_val rfl (Ev_indexArr 2 76 49 49 Tryd.underlying113 Tryd.sizeOf76 rfl rfl (by omega) (by omega) (by omega))⟩, ⟨_, rfl, Qok_val rfl (Ev_fieldAddr 1 74 32 Tryd.underlying76 rfl Tryd.sizeOf74 rfl rfl)⟩, ⟨_, rfl, Qok_val rfl (Ev_load rfl (Ld_agg Tryd.isAgg74 Tryd.sizeOf74 (len_cu8 hd2) (MemAt.ent 1 rfl (Seg.left (Seg.right 50 0 (by simp [hd1, ht1]) rfl (Seg.whole _))))))⟩, trivial⟩ rfl (Cok_step rfl (Step_alloc _ (cu8 (zr8 32)) Tryd.zeroValue25 (by kernel_rfl))) ?_
      rintro v1 L1 ⟨nb7, hnb7, rfl, rfl⟩
      refine ⟨[], ?_⟩
      show DP _ _ _ _ _ _ _ _ [⟨nb1, [U64 x, U64 y], 68, (0, 0)⟩, ⟨nb2, [U64 e1] ++ cu8 d1 ++ cu8 t1 ++ [U64 e2] ++ cu8 d2 ++ cu8 t2, 113, (0, 0)⟩, ⟨nb3, [I64 (a), I64 (b)], 95, (0, 0)⟩, ⟨nb4, cu8 (leafT x e1 d1 t1) ++ sp1, 5, (0, 0)⟩, ⟨nb5, cu8 (zr8 32), 25, (0, 0)⟩, ⟨nb7, cu8 (zr8 32), 25, (0, 0)⟩]
      refine DP_one ⟨[6, 7], [0, 1, 2, 3, 4, 5], [], [0, 1, 2, 3, 4, 5], [8]⟩ 8 _ rfl rfl (by decide +kernel) rfl ⟨⟨_, rfl, Qok_val rfl (Ev_indexArr 2 76 49 0 Tryd.underlying113 Tryd.sizeOf76 rfl rfl (by omega) (by omega) (by omega))⟩, ⟨_, rfl, Qok_val rfl (Ev_fieldAddr 1 74 32 Tryd.underlying76 rfl Tryd.sizeOf74 rfl rfl)⟩, ⟨_, rfl, Qok_val rfl (Ev_load rfl (Ld_agg Tryd.isAgg74 Tryd.sizeOf74 (len_cu8 hd1) (MemAt.ent 1 rfl (Seg.left (Seg.left (Seg.left (Seg.left (Seg.right 1 0 rfl rfl (Seg.whole _)))))))))⟩, ⟨_, rfl, Qok_val rfl (Ev_indexArr 2 76 49 49 Tryd.underlying113 Tryd.sizeOf76 rfl rfl (by omega) (by omega) (by omega))⟩, ⟨_, rfl, Qok_val rfl (Ev_fieldAddr 1 74 32 Tryd.underlying76 rfl Tryd.sizeOf74 rfl rfl)⟩, ⟨_, rfl, Qok_val rfl (Ev_load rfl (Ld_agg Tryd.isAgg74 Tryd.sizeOf74 (len_cu8 hd2) (MemAt.ent 1 rfl (Seg.left (Seg.right 50 0 (by simp [hd1, ht1]) rfl (Seg.whole _))))))⟩, trivial⟩ rfl (Cok_step rfl (Step_store 4 nb5 0 32 (cu8 (zr8 32)) 25 (.agg (cu8 d1).toArray) (cu8 d1) (cu8 d1) rfl rfl rfl (by first | rfl | simp) Tryd.sizeOf25 (len_cu8 hd1) (by first | exact one_u8 | exact one_u32 | exact one_u64 | (simp [cu8, cu32, cu64, Value.oneCell']; done)) (by simp [(zr8_len 32)]) (lay_whole (by simp [(zr8_len 32), hd1])))) ?_
      rintro v1 L1 ⟨rfl, rfl⟩
      refine ⟨[], ?_⟩
      show DP _ _ _ _ _ _ _ _ [⟨nb1, [U64 x, U64 y], 68, (0, 0)⟩, ⟨nb2, [U64 e1] ++ cu8 d1 ++ cu8 t1 ++ [U64 e2] ++ cu8 d2 ++ cu8 t2, 113, (0, 0)⟩, ⟨nb3, [I64 (a), I64 (b)], 95, (0, 0)⟩, ⟨nb4, cu8 (leafT x e1 d1 t1) ++ sp1, 5, (0, 0)⟩, ⟨nb5, cu8 d1, 25, (0, 0)⟩, ⟨nb7, cu8 (zr8 32), 25, (0, 0)⟩]
      refine DP_one ⟨[6, 7, 8], [0, 1, 2, 3, 4, 5], [0, 1, 2], [3, 4, 5], [9]⟩ 9 _ rfl rfl (by decide +kernel) rfl ⟨⟨_, rfl, Qok_val rfl (Ev_indexArr 2 76 49 49 Tryd.underlying113 Tryd.sizeOf76 rfl rfl (by omega) (by omega) (by omega))⟩, ⟨_, rfl, Qok_val rfl (Ev_fieldAddr 1 74 32 Tryd.underlying76 rfl Tryd.sizeOf74 rfl rfl)⟩, ⟨_, rfl, Qok_val rfl (Ev_load rfl (Ld_agg Tryd.isAgg74 Tryd.sizeOf74 (len_cu8 hd2) (MemAt.ent 1 rfl (Seg.left (Seg.right 50 0 (by simp [hd1, ht1]) rfl (Seg.whole _))))))⟩, trivial⟩ rfl (Cok_step rfl (Step_store 5 nb7 0 32 (cu8 (zr8 32)) 25 (.agg (cu8 d2).toArray) (cu8 d2) (cu8 d2) rfl rfl rfl (by first | rfl | simp) Tryd.sizeOf25 (len_cu8 hd2) (by first | exact one_u8 | exact one_u32 | exact one_u64 | (simp [cu8, cu32, cu64, Value.oneCell']; done)) (by simp [(zr8_len 32)]) (lay_whole (by simp [(zr8_len 32), hd2])))) ?_
      rintro v1 L1 ⟨rfl, rfl⟩
      refine ⟨[], ?_⟩
      show DP _ _ _ _ _ _ _ _ [⟨nb1, [U64 x, U64 y], 68, (0, 0)⟩, ⟨nb2, [U64 e1] ++ cu8 d1 ++ cu8 t1 ++ [U64 e2] ++ cu8 d2 ++ cu8 t2, 113, (0, 0)⟩, ⟨nb3, [I64 (a), I64 (b)], 95, (0, 0)⟩, ⟨nb4, cu8 (leafT x e1 d1 t1) ++ sp1, 5, (0, 0)⟩, ⟨nb5, cu8 d1, 25, (0, 0)⟩, ⟨nb7, cu8 d2, 25, (0, 0)⟩]
      refine DP_end ⟨[6, 7, 8, 9], [0, 1, 2, 3, 4, 5], [0, 1, 2, 3, 4, 5], [], []⟩ rfl rfl (by decide +kernel) rfl trivial ?_
      refine K_sub (F' := [(11, Ptr nb5 0), (12, Ptr nb7 0), (5, Ptr nb3 0), (6, .bool false), (7, Slc nb4 0 61 cp1), (8, .nilIface)]) (Sub.cons (by kernel_rfl) (Sub.cons (by kernel_rfl) (Sub.cons (by kernel_rfl) (Sub.cons (by kernel_rfl) (Sub.cons (by kernel_rfl) (Sub.cons (by kernel_rfl) (Sub.nil))))))) ?_
      show JQ _ _ _ [(11, Ptr nb5 0), (12, Ptr nb7 0), (5, Ptr nb3 0), (6, .bool false), (7, Slc nb4 0 61 cp1), (8, .nilIface)] _
      refine K_pick [2, 3, 4, 5] (by decide) ?_
      show JQ _ _ _ _ [⟨nb3, [I64 (a), I64 (b)], 95, (0, 0)⟩, ⟨nb4, cu8 (leafT x e1 d1 t1) ++ sp1, 5, (0, 0)⟩, ⟨nb5, cu8 d1, 25, (0, 0)⟩, ⟨nb7, cu8 d2, 25, (0, 0)⟩]
      refine JQ_cut (nb5, nb7) trivial (Sub.cons rfl (Sub.cons rfl (Sub.cons rfl (Sub.cons rfl (Sub.cons rfl (Sub.cons rfl (Sub.nil))))))) rfl
    ·
      rintro v1 L1 ⟨nb6, hnb6, rfl, rfl⟩
      refine ⟨[], ?_⟩
      show DP _ _ _ _ _ _ _ _ [⟨nb1, [U64 x, U64 y], 68, (0, 0)⟩, ⟨nb2, [U64 e1] ++ cu8 d1 ++ cu8 t1 ++ [U64 e2] ++ cu8 d2 ++ cu8 t2, 113, (0, 0)⟩, ⟨nb3, [I64 (a), I64 (b)], 95, (0, 0)⟩, ⟨nb4, cu8 (leafT x e1 d1 t1) ++ sp1, 5, (0, 0)⟩, ⟨nb6, cu8 (zr8 32), 25, (0, 0)⟩]
      refine DP_one ⟨[7], [0, 1, 2, 3, 4, 5], [], [0, 1, 2, 3, 4, 5], [6]⟩ 6 _ rfl rfl (by decide +kernel) rfl ⟨⟨_, rfl, Qok_val rfl (Ev_indexArr 2 76 49 0 Tryd.underlying113 Tryd.sizeOf76 rfl rfl (by omega) (by omega) (by omega))⟩, ⟨_, rfl, Qok_val rfl (Ev_fieldAddr 1 74 32 Tryd.underlying76 rfl Tryd.sizeOf74 rfl rfl)⟩, ⟨_, rfl, Qok_val rfl (Ev_load rfl (Ld_agg Tryd.isAgg74 Tryd.sizeOf74 (len_cu8 hd1) (MemAt.ent 1 rfl (Seg.left (Seg.left (Seg.left (Seg.left (Seg.right 1 0 rfl rfl (Seg.whole _)))))))))⟩, ⟨_, rfl, Qok_val rfl (Ev_indexArr 2 76 49 49 Tryd.underlying113 Tryd.sizeOf76 rfl rfl (by omega) (by omega) (by omega))⟩, ⟨_, rfl, Qok_val rfl (Ev_fieldAddr 1 74 32 Tryd.underlying76 rfl Tryd.sizeOf74 rfl rfl)⟩, ⟨_, rfl, Qok_val rfl (Ev_load rfl (Ld_agg Tryd.isAgg74 Tryd.sizeOf74 (len_cu8 hd2) (MemAt.ent 1 rfl (Seg.left (Seg.right 50 0 (by simp [hd1, ht1]) rfl (Seg.whole _))))))⟩, trivial⟩ rfl (Cok_step rfl (Step_alloc _ (cu8 (zr8 32)) Tryd.zeroValue25 (by kernel_rfl))) ?_
      rintro v1 L1 ⟨nb8, hnb8, rfl, rfl⟩
      refine ⟨[], ?_⟩
      show DP _ _ _ _ _ _ _ _ [⟨nb1, [U64 x, U64 y], 68, (0, 0)⟩, ⟨nb2, [U64 e1] ++ cu8 d1 ++ cu8 t1 ++ [U64 e2] ++ cu8 d2 ++ cu8 t2, 113, (0, 0)⟩, ⟨nb3, [I64 (a), I64 (b)], 95, (0, 0)⟩, ⟨nb4, cu8 (leafT x e1 d1 t1) ++ sp1, 5, (0, 0)⟩, ⟨nb6, cu8 (zr8 32), 25, (0, 0)⟩, ⟨nb8, cu8 (zr8 32), 25, (0, 0)⟩]
      refine DP_one ⟨[7, 6], [0, 1, 2, 3, 4, 5], [], [0, 1, 2, 3, 4, 5], [8]⟩ 8 _ rfl rfl (by decide +kernel) rfl ⟨⟨_, rfl, Qok_val rfl (Ev_indexArr 2 76 49 0 Tryd.underlying113 Tryd.sizeOf76 rfl rfl (by omega) (by omega) (by omega))⟩, ⟨_, rfl, Qok_val rfl (Ev_fieldAddr 1 74 32 Tryd.underlying76 rfl Tryd.sizeOf74 rfl rfl)⟩, ⟨_, rfl, Qok_val rfl (Ev_load rfl (Ld_agg Tryd.isAgg74 Tryd.sizeOf74 (len_cu8 hd1) (MemAt.ent 1 rfl (Seg.left (Seg.left (Seg.left (Seg.left (Seg.right 1 0 rfl rfl (Seg.whole _)))))))))⟩, ⟨_, rfl, Qok_val rfl (Ev_indexArr 2 76 49 49 Tryd.underlying113 Tryd.sizeOf76 rfl rfl (by omega) (by omega) (by omega))⟩, ⟨_, rfl, Qok_val rfl (Ev_fieldAddr 1 74 32 Tryd.underlying76 rfl Tryd.sizeOf74 rfl rfl)⟩, ⟨_, rfl, Qok_val rfl (Ev_load rfl (Ld_agg Tryd.isAgg74 Tryd.sizeOf74 (len_cu8 hd2) (MemAt.ent 1 rfl (Seg.left (Seg.right 50 0 (by simp [hd1, ht1]) rfl (Seg.whole _))))))⟩, trivial⟩ rfl (Cok_step rfl (Step_store 5 nb8 0 32 (cu8 (zr8 32)) 25 (.agg (cu8 d1).toArray) (cu8 d1) (cu8 d1) rfl rfl rfl (by first | rfl | simp) Tryd.sizeOf25 (len_cu8 hd1) (by first | exact one_u8 | exact one_u32 | exact one_u64 | (simp [cu8, cu32, cu64, Value.oneCell']; done)) (by simp [(zr8_len 32)]) (lay_whole (by simp [(zr8_len 32), hd1])))) ?_
      rintro v1 L1 ⟨rfl, rfl⟩
      refine ⟨[], ?_⟩
      show DP _ _ _ _ _ _ _ _ [⟨nb1, [U64 x, U64 y], 68, (0, 0)⟩, ⟨nb2, [U64 e1] ++ cu8 d1 ++ cu8 t1 ++ [U64 e2] ++ cu8 d2 ++ cu8 t2, 113, (0, 0)⟩, ⟨nb3, [I64 (a), I64 (b)], 95, (0, 0)⟩, ⟨nb4, cu8 (leafT x e1 d1 t1) ++ sp1, 5, (0, 0)⟩, ⟨nb6, cu8 (zr8 32), 25, (0, 0)⟩, ⟨nb8, cu8 d1, 25, (0, 0)⟩]
      refine DP_one ⟨[7, 6, 8], [0, 1, 2, 3, 4, 5], [0, 1, 2], [3, 4, 5], [9]⟩ 9 _ rfl rfl (by decide +kernel) rfl ⟨⟨_, rfl, Qok_val rfl (Ev_indexArr 2 76 49 49 Tryd.underlying113 Tryd.sizeOf76 rfl rfl (by omega) (by omega) (by omega))⟩, ⟨_, rfl, Qok_val rfl (Ev_fieldAddr 1 74 32 Tryd.underlying76 rfl Tryd.sizeOf74 rfl rfl)⟩, ⟨_, rfl, Qok_val rfl (Ev_load rfl (Ld_agg Tryd.isAgg74 Tryd.sizeOf74 (len_cu8 hd2) (MemAt.ent 1 rfl (Seg.left (Seg.right 50 0 (by simp [hd1, ht1]) rfl (Seg.whole _))))))⟩, trivial⟩ rfl (Cok_step rfl (Step_store 4 nb6 0 32 (cu8 (zr8 32)) 25 (.agg (cu8 d2).toArray) (cu8 d2) (cu8 d2) rfl rfl rfl (by first | rfl | simp) Tryd.sizeOf25 (len_cu8 hd2) (by first | exact one_u8 | exact one_u32 | exact one_u64 | (simp [cu8, cu32, cu64, Value.oneCell']; done)) (by simp [(zr8_len 32)]) (lay_whole (by simp [(zr8_len 32), hd2])))) ?_
      rintro v1 L1 ⟨rfl, rfl⟩
      refine ⟨[], ?_⟩
      show DP _ _ _ _ _ _ _ _ [⟨nb1, [U64 x, U64 y], 68, (0, 0)⟩, ⟨nb2, [U64 e1] ++ cu8 d1 ++ cu8 t1 ++ [U64 e2] ++ cu8 d2 ++ cu8 t2, 113, (0, 0)⟩, ⟨nb3, [I64 (a), I64 (b)], 95, (0, 0)⟩, ⟨nb4, cu8 (leafT x e1 d1 t1) ++ sp1, 5, (0, 0)⟩, ⟨nb6, cu8 d2, 25, (0, 0)⟩, ⟨nb8, cu8 d1, 25, (0, 0)⟩]
      refine DP_end ⟨[7, 6, 8, 9], [0, 1, 2, 3, 4, 5], [0, 1, 2, 3, 4, 5], [], []⟩ rfl rfl (by decide +kernel) rfl trivial ?_
      refine K_sub (F' := [(11, Ptr nb8 0), (12, Ptr nb6 0), (5, Ptr nb3 0), (6, .bool false), (7, Slc nb4 0 61 cp1), (8, .nilIface)]) (Sub.cons (by kernel_rfl) (Sub.cons (by kernel_rfl) (Sub.cons (by kernel_rfl) (Sub.cons (by kernel_rfl) (Sub.cons (by kernel_rfl) (Sub.cons (by kernel_rfl) (Sub.nil))))))) ?_
      show JQ _ _ _ [(11, Ptr nb8 0), (12, Ptr nb6 0), (5, Ptr nb3 0), (6, .bool false), (7, Slc nb4 0 61 cp1), (8, .nilIface)] _
      refine K_pick [2, 3, 5, 4] (by decide) ?_
      show JQ _ _ _ _ [⟨nb3, [I64 (a), I64 (b)], 95, (0, 0)⟩, ⟨nb4, cu8 (leafT x e1 d1 t1) ++ sp1, 5, (0, 0)⟩, ⟨nb8, cu8 d1, 25, (0, 0)⟩, ⟨nb6, cu8 d2, 25, (0, 0)⟩]
      refine JQ_cut (nb8, nb6) trivial (Sub.cons rfl (Sub.cons rfl (Sub.cons rfl (Sub.cons rfl (Sub.cons rfl (Sub.cons rfl (Sub.nil))))))) rfl
  ·
    rintro ⟨ynb0, ynb1⟩ _
    show JQ _ _ _ [(5, Ptr nb3 0), (6, .bool false), (7, Slc nb4 0 61 cp1), (8, .nilIface), (11, Ptr ynb0 0), (12, Ptr ynb1 0)] [⟨nb3, [I64 (a), I64 (b)], 95, (0, 0)⟩, ⟨nb4, cu8 (leafT x e1 d1 t1) ++ sp1, 5, (0, 0)⟩, ⟨ynb0, cu8 d1, 25, (0, 0)⟩, ⟨ynb1, cu8 d2, 25, (0, 0)⟩]
    refine JQ_then ?_
    refine JC_seq ?_
    refine JC_region ?_
    refine JL_val (Ptr nb3 0) (Ev_indexArr 2 3 1 0 Tryd.underlying95 Tryd.sizeOf3 rfl rfl (by omega) (by omega) (by omega)) rfl ?_
    refine JL_val (I64 (a)) (Ev_load rfl (Ld_one Tryd.isAgg3 (MemAt.ent 0 rfl (Seg.head)))) rfl ?_
    refine JL_val (.agg (cu8 d1).toArray) (Ev_load rfl (Ld_agg Tryd.isAgg25 Tryd.sizeOf25 (len_cu8 hd1) (MemAt.ent 2 rfl (Seg.whole _)))) rfl ?_
    refine JL_val (.agg (cu8 d2).toArray) (Ev_load rfl (Ld_agg Tryd.isAgg25 Tryd.sizeOf25 (len_cu8 hd2) (MemAt.ent 3 rfl (Seg.whole _)))) rfl ?_
    refine JL_step (Step_callP 71 [I64 (a), .agg (cu8 d1).toArray, .agg (cu8 d2).toArray] (.tuple #[.slice none 0 0, .iface 43 (I64 (1:Int))]) (Cl_func [I64 (a), .agg (cu8 d1).toArray, .agg (cu8 d2).toArray] Tryd.call71 rfl) (fun w1 hw1 => joinTextB_c (a) d1 d2 w1 hd1 hd2 ha)) rfl ?_
    rintro v1 L1 ⟨rfl, rfl⟩
    show JL _ _ _ _ ((72, .tuple #[.slice none 0 0, .iface 43 (I64 (1:Int))]) :: _) [⟨nb3, [I64 (a), I64 (b)], 95, (0, 0)⟩, ⟨nb4, cu8 (leafT x e1 d1 t1) ++ sp1, 5, (0, 0)⟩, ⟨ynb0, cu8 d1, 25, (0, 0)⟩, ⟨ynb1, cu8 d2, 25, (0, 0)⟩]
    refine JL_val _ (Ev_move rfl) rfl ?_
    refine JL_val _ (Ev_extract rfl rfl) rfl ?_
    refine JL_val _ (Ev_extract rfl rfl) rfl ?_
    refine JL_val _ (Ev_assign rfl) rfl ?_
    refine JL_val _ (Ev_assign rfl) rfl ?_
    refine JL_nil ?_
    refine JQ_then ?_
    refine JC_seq ?_
    refine JC_region ?_
    refine JL_val (Ptr nb3 1) (Ev_indexArr 2 3 1 1 Tryd.underlying95 Tryd.sizeOf3 rfl rfl (by omega) (by omega) (by omega)) rfl ?_
    refine JL_val (I64 (b)) (Ev_load rfl (Ld_one Tryd.isAgg3 (MemAt.ent 0 rfl (Seg.tail (Seg.head))))) rfl ?_
    refine JL_val (.agg (cu8 d2).toArray) (Ev_load rfl (Ld_agg Tryd.isAgg25 Tryd.sizeOf25 (len_cu8 hd2) (MemAt.ent 3 rfl (Seg.whole _)))) rfl ?_
    refine JL_val (.agg (cu8 d1).toArray) (Ev_load rfl (Ld_agg Tryd.isAgg25 Tryd.sizeOf25 (len_cu8 hd1) (MemAt.ent 2 rfl (Seg.whole _)))) rfl ?_
    refine JL_step (Step_callP 71 [I64 (b), .agg (cu8 d2).toArray, .agg (cu8 d1).toArray] (.tuple #[.slice none 0 0, .iface 43 (I64 (1:Int))]) (Cl_func [I64 (b), .agg (cu8 d2).toArray, .agg (cu8 d1).toArray] Tryd.call71 rfl) (fun w1 hw1 => joinTextB_c (b) d2 d1 w1 hd2 hd1 hb)) rfl ?_
    rintro v1 L1 ⟨rfl, rfl⟩
    show JL _ _ _ _ ((80, .tuple #[.slice none 0 0, .iface 43 (I64 (1:Int))]) :: _) [⟨nb3, [I64 (a), I64 (b)], 95, (0, 0)⟩, ⟨nb4, cu8 (leafT x e1 d1 t1) ++ sp1, 5, (0, 0)⟩, ⟨ynb0, cu8 d1, 25, (0, 0)⟩, ⟨ynb1, cu8 d2, 25, (0, 0)⟩]
    refine JL_val _ (Ev_move rfl) rfl ?_
    refine JL_val _ (Ev_extract rfl rfl) rfl ?_
    refine JL_val _ (Ev_extract rfl rfl) rfl ?_
    refine JL_val _ (Ev_assign rfl) rfl ?_
    refine JL_val _ (Ev_assign rfl) rfl ?_
    refine JL_nil ?_
    refine JQ_then ?_
    refine JC_seq ?_
    refine JC_seq ?_
    refine JC_draw 127 1 [(0, .iface 43 (I64 (1:Int))), (1, .bool false), (2, .bool false), (3, undef), (4, undef), (5, .bool false), (6, .bool false), (7, undef), (8, undef), (9, undef), (10, undef), (11, undef), (12, undef), (13, undef), (14, undef), (15, undef), (16, undef), (17, undef), (18, undef), (19, undef), (20, undef), (21, undef), (22, undef), (23, .bool false)] Tryd.mixed rfl (by decide +kernel) ?_
    refine DP_end ⟨[], [0, 1, 2, 3, 4, 5, 6, 7, 8, 9, 10, 11, 12, 13, 14, 15, 16, 17, 18, 19, 20, 21, 22, 23], [], [0, 1, 2, 3, 4, 5, 6, 7, 8, 9, 10, 11, 12, 13, 14, 15, 16, 17, 18, 19, 20, 21, 22, 23], []⟩ rfl rfl (by decide +kernel) rfl ⟨⟨_, rfl, Qok_val rfl (Ev_move rfl)⟩, ⟨_, rfl, Qok_val rfl (Ev_bin _ _ _ rfl rfl (fun _ => eqGuard_if ..) fun _ => eql_if_nil Tryd.underlying39)⟩, ⟨_, rfl, Qok_val rfl (Ev_move rfl)⟩, ⟨_, rfl, Qok_gskip 2 85 true _ rfl rfl rfl rfl⟩, ⟨_, rfl, Qok_gskip 2 85 true _ rfl rfl rfl rfl⟩, ⟨_, rfl, Qok_val rfl (Ev_pickF _ rfl rfl rfl)⟩, ⟨_, rfl, Qok_val rfl (Ev_move rfl)⟩, ⟨_, rfl, Qok_gskip 6 89 true _ rfl rfl rfl rfl⟩, ⟨_, rfl, Qok_gskip 6 89 true _ rfl rfl rfl rfl⟩, ⟨_, rfl, Qok_gskip 6 89 true _ rfl rfl rfl rfl⟩, ⟨_, rfl, Qok_gskip 6 89 true _ rfl rfl rfl rfl⟩, ⟨_, rfl, Qok_gskip 6 89 true _ rfl rfl rfl rfl⟩, ⟨_, rfl, Qok_gskip 6 89 true _ rfl rfl rfl rfl⟩, ⟨_, rfl, Qok_gskip 6 89 true _ rfl rfl rfl rfl⟩, ⟨_, rfl, Qok_gskip 6 89 true _ rfl rfl rfl rfl⟩, ⟨_, rfl, Qok_gskip 6 89 true _ rfl rfl rfl rfl⟩, ⟨_, rfl, Qok_gskip 6 89 true _ rfl rfl rfl rfl⟩, ⟨_, rfl, Qok_gskip 6 89 true _ rfl rfl rfl rfl⟩, ⟨_, rfl, Qok_gskipU 17 100 true rfl rfl rfl⟩, ⟨_, rfl, Qok_gskipU 17 100 true rfl rfl rfl⟩, ⟨_, rfl, Qok_gskipU 17 100 true rfl rfl rfl⟩, ⟨_, rfl, Qok_gskip 6 89 true _ rfl rfl rfl rfl⟩, ⟨_, rfl, Qok_gskip 6 89 true _ rfl rfl rfl rfl⟩, ⟨_, rfl, Qok_val rfl (Ev_pickF _ rfl rfl rfl)⟩, trivial⟩ ?_
    refine K_sub (F' := [(106, .bool false), (6, .bool false), (7, Slc nb4 0 61 cp1), (8, .nilIface), (13, .slice none 0 0), (14, .iface 43 (I64 (1:Int)))]) (Sub.cons (by kernel_rfl) (Sub.cons (by kernel_rfl) (Sub.cons (by kernel_rfl) (Sub.cons (by kernel_rfl) (Sub.cons (by kernel_rfl) (Sub.cons (by kernel_rfl) (Sub.nil))))))) ?_
    show JQ _ _ _ [(106, .bool false), (6, .bool false), (7, Slc nb4 0 61 cp1), (8, .nilIface), (13, .slice none 0 0), (14, .iface 43 (I64 (1:Int)))] _
    refine JQ_then ?_
    refine JC_condF _ rfl rfl ?_
    refine JC_skip ?_
    refine JQ_then ?_
    refine JC_seq ?_
    refine JC_region ?_
    refine JL_val _ (Ev_move rfl) rfl ?_
    refine JL_val (.bool false) (Ev_bin _ _ _ rfl rfl (fun _ => eqGuard_nn ..) fun _ => neq_if_nil_nil Tryd.underlying39) rfl ?_
    refine JL_val _ (Ev_move rfl) rfl ?_
    refine JL_gval 2 109 false _ _ rfl rfl rfl (Ev_move rfl) rfl ?_
    refine JL_gval 2 109 false _ (.bool true) rfl rfl rfl (Ev_bin _ _ _ rfl rfl (fun _ => eqGuard_if ..) fun _ => neq_if_nil Tryd.underlying39) rfl ?_
    refine JL_val _ (Ev_pickF _ rfl rfl rfl) rfl ?_
    refine JL_val _ (Ev_move rfl) rfl ?_
    refine JL_gskip 6 113 false _ rfl rfl rfl rfl ?_
    refine JL_gskip 6 113 false _ rfl rfl rfl rfl ?_
    refine JL_gskip 6 113 false _ rfl rfl rfl rfl ?_
    refine JL_gskip 6 113 false _ rfl rfl rfl rfl ?_
    refine JL_gskip 6 113 false _ rfl rfl rfl rfl ?_
    refine JL_gskip 6 113 false _ rfl rfl rfl rfl ?_
    refine JL_gskipU 12 119 true rfl rfl rfl ?_
    refine JL_gskipU 12 119 true rfl rfl rfl ?_
    refine JL_gskipU 12 119 true rfl rfl rfl ?_
    refine JL_gskipU 12 119 true rfl rfl rfl ?_
    refine JL_gskipU 12 119 true rfl rfl rfl ?_
    refine JL_gskip 6 113 false _ rfl rfl rfl rfl ?_
    refine JL_val _ (Ev_pickT _ rfl rfl rfl) rfl ?_
    refine JL_val _ (Ev_assign rfl) rfl ?_
    refine JL_nil ?_
    refine JQ_then ?_
    refine JC_ret ?_
    refine JQ_ret (.bool true) (res1 Tryd.results20 (RV_tmp rfl)) fun w1 hw1 => ?_
    exact ⟨_, [], rfl, ⟨by rw [show (true) = true from rfl], rfl⟩, hw1.sub (by simp) (by simp)⟩

theorem nodeAp2_c (x y e1 : UInt64) (d1 t1 : List UInt8) (e2 : UInt64) (d2 t2 : List UInt8) (a : Int) (b : Int)  (w : World) (hd1 : d1.length = 32) (ht1 : t1.length = 16) (hd2 : d2.length = 32) (ht2 : t2.length = 16) (hG : GLs w) (hx : (4294967295:UInt64) < x) (hy : ¬ (4294967295:UInt64) < y) (ha : a < 1 ∨ 32 < a) (hb : b < 1 ∨ 32 < b)  : Calls Tryd.prog 20 #[.agg (List.toArray (α := Value) ([U64 x, U64 y])), .agg (List.toArray (α := Value) ([U64 e1] ++ cu8 d1 ++ cu8 t1 ++ [U64 e2] ++ cu8 d2 ++ cu8 t2)), .agg (List.toArray (α := Value) ([I64 (a), I64 (b)]))] w (Post w [] (fun v L => v = .bool true ∧ L = [])) := by
  have hmx : maxLen = 9223372036854775807 := rfl
  refine enter (P := Tryd.prog) (f := 20) (fn := Tryd.f20) w [] 127 [] [.agg (List.toArray (α := Value) ([U64 x, U64 y])), .agg (List.toArray (α := Value) ([U64 e1] ++ cu8 d1 ++ cu8 t1 ++ [U64 e2] ++ cu8 d2 ++ cu8 t2)), .agg (List.toArray (α := Value) ([I64 (a), I64 (b)]))] Tryd.func20 rfl rfl (by simp) (Hp.start (by simp) (by simp) (by simp)) ?_
  show JC _ _ _ [(0, .agg (List.toArray (α := Value) ([U64 x, U64 y]))), (1, .agg (List.toArray (α := Value) ([U64 e1] ++ cu8 d1 ++ cu8 t1 ++ [U64 e2] ++ cu8 d2 ++ cu8 t2))), (2, .agg (List.toArray (α := Value) ([I64 (a), I64 (b)])))] _
  refine JC_seq ?_
  refine JC_region ?_
  refine JL_step (Step_box (.agg (List.toArray (α := Value) ([U64 x, U64 y]))) ([U64 x, U64 y]) rfl (by first | rfl | simp)) rfl ?_
  rintro v1 L1 ⟨nb1, hnb1, rfl, rfl⟩
  show JL _ _ _ _ ((3, Ptr nb1 0) :: _) [⟨nb1, [U64 x, U64 y], 68, (0, 0)⟩]
  refine JL_step (Step_box (.agg (List.toArray (α := Value) ([U64 e1] ++ cu8 d1 ++ cu8 t1 ++ [U64 e2] ++ cu8 d2 ++ cu8 t2))) ([U64 e1] ++ cu8 d1 ++ cu8 t1 ++ [U64 e2] ++ cu8 d2 ++ cu8 t2) rfl (by first | rfl | simp)) rfl ?_
  rintro v1 L1 ⟨nb2, hnb2, rfl, rfl⟩
  show JL _ _ _ _ ((4, Ptr nb2 0) :: _) [⟨nb1, [U64 x, U64 y], 68, (0, 0)⟩, ⟨nb2, [U64 e1] ++ cu8 d1 ++ cu8 t1 ++ [U64 e2] ++ cu8 d2 ++ cu8 t2, 113, (0, 0)⟩]
  refine JL_step (Step_box (.agg (List.toArray (α := Value) ([I64 (a), I64 (b)]))) ([I64 (a), I64 (b)]) rfl (by first | rfl | simp)) rfl ?_
  rintro v1 L1 ⟨nb3, hnb3, rfl, rfl⟩
  show JL _ _ _ _ ((5, Ptr nb3 0) :: _) [⟨nb1, [U64 x, U64 y], 68, (0, 0)⟩, ⟨nb2, [U64 e1] ++ cu8 d1 ++ cu8 t1 ++ [U64 e2] ++ cu8 d2 ++ cu8 t2, 113, (0, 0)⟩, ⟨nb3, [I64 (a), I64 (b)], 95, (0, 0)⟩]
  refine JL_val _ (Ev_assign rfl) rfl ?_
  refine JL_nil ?_
  refine JQ_then ?_
  refine JC_seq ?_
  refine JC_seq ?_
  refine JC_region ?_
  refine JL_step (Step_callP 69 [] (.bool true) (Cl_func [] Tryd.call69 rfl) (fun w1 hw1 => alive8_c  w1 (hG.at hw1))) rfl ?_
  rintro v1 L1 ⟨rfl, rfl⟩
  show JL _ _ _ _ ((17, .bool true) :: _) [⟨nb1, [U64 x, U64 y], 68, (0, 0)⟩, ⟨nb2, [U64 e1] ++ cu8 d1 ++ cu8 t1 ++ [U64 e2] ++ cu8 d2 ++ cu8 t2, 113, (0, 0)⟩, ⟨nb3, [I64 (a), I64 (b)], 95, (0, 0)⟩]
  refine JL_val (.bool (!true)) (Ev_not rfl) rfl ?_
  refine JL_nil ?_
  refine JQ_then ?_
  refine JC_condF _ rfl rfl ?_
  refine JC_skip ?_
  refine JQ_then ?_
  refine JC_seq ?_
  refine JC_region ?_
  refine JL_val (Ptr nb1 0) (Ev_indexArr 2 58 1 0 Tryd.underlying68 Tryd.sizeOf58 rfl rfl (by omega) (by omega) (by omega)) rfl ?_
  refine JL_val (U64 x) (Ev_load rfl (Ld_one Tryd.isAgg58 (MemAt.ent 0 rfl (Seg.head)))) rfl ?_
  refine JL_val (Ptr nb2 0) (Ev_indexArr 2 76 49 0 Tryd.underlying113 Tryd.sizeOf76 rfl rfl (by omega) (by omega) (by omega)) rfl ?_
  refine JL_val (.agg (List.toArray (α := Value) ([U64 e1] ++ cu8 d1 ++ cu8 t1))) (Ev_load rfl (Ld_agg Tryd.isAgg76 Tryd.sizeOf76 (by simp [hd1, ht1]) (MemAt.ent 1 rfl (Seg.split (p := []) (q := [U64 e2] ++ cu8 d2 ++ cu8 t2) (vs := [U64 e1] ++ cu8 d1 ++ cu8 t1) (by first | rfl | (simp only [List.append_assoc, List.nil_append, List.append_nil, List.cons_append]; done)) rfl)))) rfl ?_
  refine JL_step (Step_callP 79 [U64 x, .agg (List.toArray (α := Value) ([U64 e1] ++ cu8 d1 ++ cu8 t1))] (.tuple #[.slice none 0 0, .iface 43 (I64 (1:Int))]) (Cl_func [U64 x, .agg (List.toArray (α := Value) ([U64 e1] ++ cu8 d1 ++ cu8 t1))] Tryd.call79 rfl) (fun w1 hw1 => leafTextB_c x e1 d1 t1 w1 hd1 ht1 (shr4n hx))) rfl ?_
  rintro v1 L1 ⟨rfl, rfl⟩
  show JL _ _ _ _ ((24, .tuple #[.slice none 0 0, .iface 43 (I64 (1:Int))]) :: _) [⟨nb1, [U64 x, U64 y], 68, (0, 0)⟩, ⟨nb2, [U64 e1] ++ cu8 d1 ++ cu8 t1 ++ [U64 e2] ++ cu8 d2 ++ cu8 t2, 113, (0, 0)⟩, ⟨nb3, [I64 (a), I64 (b)], 95, (0, 0)⟩]
  refine JL_val _ (Ev_move rfl) rfl ?_
  refine JL_val _ (Ev_extract rfl rfl) rfl ?_
  refine JL_val _ (Ev_extract rfl rfl) rfl ?_
  refine JL_val _ (Ev_assign rfl) rfl ?_
  refine JL_val _ (Ev_assign rfl) rfl ?_
  refine JL_nil ?_
  refine JQ_then ?_
  refine JC_seq ?_
  refine JC_region ?_
  refine JL_val (Ptr nb1 1) (Ev_indexArr 2 58 1 1 Tryd.underlying68 Tryd.sizeOf58 rfl rfl (by omega) (by omega) (by omega)) rfl ?_
  refine JL_val (U64 y) (Ev_load rfl (Ld_one Tryd.isAgg58 (MemAt.ent 0 rfl (Seg.tail (Seg.head))))) rfl ?_
  refine JL_val (Ptr nb2 49) (Ev_indexArr 2 76 49 49 Tryd.underlying113 Tryd.sizeOf76 rfl rfl (by omega) (by omega) (by omega)) rfl ?_
  refine JL_val (.agg (List.toArray (α := Value) ([U64 e2] ++ cu8 d2 ++ cu8 t2))) (Ev_load rfl (Ld_agg Tryd.isAgg76 Tryd.sizeOf76 (by simp [hd2, ht2]) (MemAt.ent 1 rfl (Seg.split (p := [U64 e1] ++ cu8 d1 ++ cu8 t1) (q := []) (vs := [U64 e2] ++ cu8 d2 ++ cu8 t2) (by first | rfl | (simp only [List.append_assoc, List.nil_append, List.append_nil, List.cons_append]; done)) (by simp [hd1, ht1]))))) rfl ?_
  refine JL_step (Step_callN 79 [U64 y, .agg (List.toArray (α := Value) ([U64 e2] ++ cu8 d2 ++ cu8 t2))] _ (Cl_func [U64 y, .agg (List.toArray (α := Value) ([U64 e2] ++ cu8 d2 ++ cu8 t2))] Tryd.call79 rfl) (fun w1 hw1 => leafText_c y e2 d2 t2 w1 hd2 ht2 (shr4z hy))) rfl ?_
  rintro v1 L1 ⟨_, ⟨nb4, sp1, cp1, rfl, rfl, hc1, hc2, hc3⟩, rfl⟩
  show JL _ _ _ _ ((32, .tuple #[Slc nb4 0 61 cp1, .nilIface]) :: _) [⟨nb1, [U64 x, U64 y], 68, (0, 0)⟩, ⟨nb2, [U64 e1] ++ cu8 d1 ++ cu8 t1 ++ [U64 e2] ++ cu8 d2 ++ cu8 t2, 113, (0, 0)⟩, ⟨nb3, [I64 (a), I64 (b)], 95, (0, 0)⟩, ⟨nb4, cu8 (leafT y e2 d2 t2) ++ sp1, 5, (0, 0)⟩]
  refine JL_val _ (Ev_move rfl) rfl ?_
  refine JL_val _ (Ev_extract rfl rfl) rfl ?_
  refine JL_val _ (Ev_extract rfl rfl) rfl ?_
  refine JL_val _ (Ev_assign rfl) rfl ?_
  refine JL_val _ (Ev_assign rfl) rfl ?_
  refine JL_nil ?_
  refine JQ_then ?_
  refine JC_seq ?_
  refine JC_seq ?_
  refine JC_draw 127 1 [(0, .iface 43 (I64 (1:Int))), (1, .bool false), (2, .bool false), (3, undef), (4, undef), (5, .bool false), (6, .bool false), (7, undef), (8, undef), (9, undef), (10, undef), (11, undef), (12, undef), (13, undef), (14, undef), (15, undef), (16, undef), (17, undef), (18, undef), (19, undef), (20, undef), (21, undef), (22, undef), (23, undef), (24, undef), (25, .bool false)] Tryd.mixed rfl (by decide +kernel) ?_
  refine DP_end ⟨[], [0, 1, 2, 3, 4, 5, 6, 7, 8, 9, 10, 11, 12, 13, 14, 15, 16, 17, 18, 19, 20, 21, 22, 23, 24, 25], [], [0, 1, 2, 3, 4, 5, 6, 7, 8, 9, 10, 11, 12, 13, 14, 15, 16, 17, 18, 19, 20, 21, 22, 23, 24, 25], []⟩ rfl rfl (by decide +kernel) rfl ⟨⟨_, rfl, Qok_val rfl (Ev_move rfl)⟩, ⟨_, rfl, Qok_val rfl (Ev_bin _ _ _ rfl rfl (fun _ => eqGuard_if ..) fun _ => eql_if_nil Tryd.underlying39)⟩, ⟨_, rfl, Qok_val rfl (Ev_move rfl)⟩, ⟨_, rfl, Qok_gskip 2 37 true _ rfl rfl rfl rfl⟩, ⟨_, rfl, Qok_gskip 2 37 true _ rfl rfl rfl rfl⟩, ⟨_, rfl, Qok_val rfl (Ev_pickF _ rfl rfl rfl)⟩, ⟨_, rfl, Qok_val rfl (Ev_move rfl)⟩, ⟨_, rfl, Qok_gskip 6 41 true _ rfl rfl rfl rfl⟩, ⟨_, rfl, Qok_gskip 6 41 true _ rfl rfl rfl rfl⟩, ⟨_, rfl, Qok_gskip 6 41 true _ rfl rfl rfl rfl⟩, ⟨_, rfl, Qok_gskip 6 41 true _ rfl rfl rfl rfl⟩, ⟨_, rfl, Qok_gskip 6 41 true _ rfl rfl rfl rfl⟩, ⟨_, rfl, Qok_gskip 6 41 true _ rfl rfl rfl rfl⟩, ⟨_, rfl, Qok_gskip 6 41 true _ rfl rfl rfl rfl⟩, ⟨_, rfl, Qok_gskip 6 41 true _ rfl rfl rfl rfl⟩, ⟨_, rfl, Qok_gskip 6 41 true _ rfl rfl rfl rfl⟩, ⟨_, rfl, Qok_gskip 6 41 true _ rfl rfl rfl rfl⟩, ⟨_, rfl, Qok_gskip 6 41 true _ rfl rfl rfl rfl⟩, ⟨_, rfl, Qok_gskipU 17 52 true rfl rfl rfl⟩, ⟨_, rfl, Qok_gskipU 17 52 true rfl rfl rfl⟩, ⟨_, rfl, Qok_gskipU 17 52 true rfl rfl rfl⟩, ⟨_, rfl, Qok_gskipU 17 52 true rfl rfl rfl⟩, ⟨_, rfl, Qok_gskipU 17 52 true rfl rfl rfl⟩, ⟨_, rfl, Qok_gskip 6 41 true _ rfl rfl rfl rfl⟩, ⟨_, rfl, Qok_gskip 6 41 true _ rfl rfl rfl rfl⟩, ⟨_, rfl, Qok_val rfl (Ev_pickF _ rfl rfl rfl)⟩, trivial⟩ ?_
  refine K_sub (F' := [(60, .bool false), (4, Ptr nb2 0), (5, Ptr nb3 0), (6, .bool false), (7, .slice none 0 0), (8, .iface 43 (I64 (1:Int)))]) (Sub.cons (by kernel_rfl) (Sub.cons (by kernel_rfl) (Sub.cons (by kernel_rfl) (Sub.cons (by kernel_rfl) (Sub.cons (by kernel_rfl) (Sub.cons (by kernel_rfl) (Sub.nil))))))) ?_
  show JQ _ _ _ [(60, .bool false), (4, Ptr nb2 0), (5, Ptr nb3 0), (6, .bool false), (7, .slice none 0 0), (8, .iface 43 (I64 (1:Int)))] _
  refine JQ_then ?_
  refine JC_condF _ rfl rfl ?_
  refine JC_skip ?_
  refine JQ_then ?_
  refine JC_seq ?_
  refine JC_cut (ι := Nat × Nat) (fun ⟨ynb0, ynb1⟩ => [(5, Ptr nb3 0), (6, .bool false), (7, .slice none 0 0), (8, .iface 43 (I64 (1:Int))), (11, Ptr ynb0 0), (12, Ptr ynb1 0)]) (fun ⟨ynb0, ynb1⟩ => [⟨nb3, [I64 (a), I64 (b)], 95, (0, 0)⟩, ⟨ynb0, cu8 d1, 25, (0, 0)⟩, ⟨ynb1, cu8 d2, 25, (0, 0)⟩]) (fun ⟨ynb0, ynb1⟩ => True) ?_ ?_
  ·
    refine JC_draw 127 5 [(0, Ptr nb2 0), (1, Ptr nb2 1), (2, .agg (cu8 d1).toArray), (3, Ptr nb2 49), (4, Ptr nb2 50), (5, .agg (cu8 d2).toArray)] Tryd.mixed rfl (by decide +kernel) ?_
    refine DP_two ⟨[], [0, 1, 2, 3, 4, 5], [], [0, 1, 2, 3, 4, 5], [6, 7]⟩ 6 7 _ _ rfl rfl (by decide +kernel) rfl ⟨⟨_, rfl, Qok_val rfl (Ev_indexArr 2 76 49 0 Tryd.underlying113 Tryd.sizeOf76 rfl rfl (by omega) (by omega) (by omega))⟩, ⟨_, rfl, Qok_val rfl (Ev_fieldAddr 1 74 32 Tryd.underlying76 rfl Tryd.sizeOf74 rfl rfl)⟩, ⟨_, rfl, Qok_val rfl (Ev_load rfl (Ld_agg Tryd.isAgg74 Tryd.sizeOf74 (len_cu8 hd1) (MemAt.ent 1 rfl (Seg.left (Seg.left (Seg.left (Seg.left (Seg.right 1 0 rfl rfl (Seg.whole _)))))))))⟩, ⟨_, rfl, Qok_val rfl (Ev_indexArr 2 76 49 49 Tryd.underlying113 Tryd.sizeOf76 rfl rfl (by omega) (by omega) (by omega))⟩, ⟨_, rfl, Qok_val rfl (Ev_fieldAddr 1 74 32 Tryd.underlying76 rfl Tryd.sizeOf74 rfl rfl)⟩, ⟨_, rfl, Qok_val rfl (Ev_load rfl (Ld_agg Tryd.isAgg74 Tryd.sizeOf74 (len_cu8 hd2) (MemAt.ent 1 rfl (Seg.left (Seg.right 50 0 (by simp [hd1, ht1]) rfl (Seg.whole _))))))⟩, trivial⟩ rfl rfl (Cok_step rfl (Step_alloc _ (cu8 (zr8 32)) Tryd.zeroValue25 (by kernel_rfl))) (Cok_step rfl (Step_alloc _ (cu8 (zr8 32)) Tryd.zeroValue25 (by kernel_rfl))) ?_ ?_
    ·
      rintro v1 L1 ⟨nb5, hnb5, rfl, rfl⟩
      refine ⟨[], ?_⟩
      show DP _ _ _ _ _ _ _ _ [⟨nb1, [U64 x, U64 y], 68, (0, 0)⟩, ⟨nb2, [U64 e1] ++ cu8 d1 ++ cu8 t1 ++ [U64 e2] ++ cu8 d2 ++ cu8 t2, 113, (0, 0)⟩, ⟨nb3, [I64 (a), I64 (b)], 95, (0, 0)⟩, ⟨nb4, cu8 (leafT y e2 d2 t2) ++ sp1, 5, (0, 0)⟩, ⟨nb5, cu8 (zr8 32), 25, (0, 0)⟩]
      refine DP_one ⟨[6], [0, 1, 2, 3, 4, 5], [], [0, 1, 2, 3, 4, 5], [7]⟩ 7 _ rfl rfl (by decide +kernel) rfl ⟨⟨_, rfl, Qok_val rfl (Ev_indexArr 2 76 49 0 Tryd.underlying113 Tryd.sizeOf76 rfl rfl (by omega) (by omega) (by omega))⟩, ⟨_, rfl, Qok_val rfl (Ev_fieldAddr 1 74 32 Tryd.underlying76 rfl Tryd.sizeOf74 rfl rfl)⟩, ⟨_, rfl, Qok_val rfl (Ev_load rfl (Ld_agg Tryd.isAgg74 Tryd.sizeOf74 (len_cu8 hd1) (MemAt.ent 1 rfl (Seg.left (Seg.left (Seg.left (Seg.left (Seg.right 1 0 rfl rfl (Seg.whole _)))))))))⟩, ⟨_, rfl, Qok_val rfl (Ev_indexArr 2 76 49 49 Tryd.underlying113 Tryd.sizeOf76 rfl rfl (by omega) (by omega) (by omega))⟩, ⟨_, rfl, Qok_val rfl (Ev_fieldAddr 1 74 32 Tryd.underlying76 rfl Tryd.sizeOf74 rfl rfl)⟩, ⟨_, rfl, Qok_val rfl (Ev_load rfl (Ld_agg Tryd.isAgg74 Tryd.sizeOf74 (len_cu8 hd2) (MemAt.ent 1 rfl (Seg.left (Seg.right 50 0 (by simp [hd1, ht1]) rfl (Seg.whole _))))))⟩, trivial⟩ rfl (Cok_step rfl (Step_alloc _ (cu8 (zr8 32)) Tryd.zeroValue25 (by kernel_rfl))) ?_
      rintro v1 L1 ⟨nb7, hnb7, rfl, rfl⟩
      refine ⟨[], ?_⟩
      show DP _ _ _ _ _ _ _ _ [⟨nb1, [U64 x, U64 y], 68, (0, 0)⟩, ⟨nb2, [U64 e1] ++ cu8 d1 ++ cu8 t1 ++ [U64 e2] ++ cu8 d2 ++ cu8 t2, 113, (0, 0)⟩, ⟨nb3, [I64 (a), I64 (b)], 95, (0, 0)⟩, ⟨nb4, cu8 (leafT y e2 d2 t2) ++ sp1, 5, (0, 0)⟩, ⟨nb5, cu8 (zr8 32), 25, (0, 0)⟩, ⟨nb7, cu8 (zr8 32), 25, (0, 0)⟩]
      refine DP_one ⟨[6, 7], [0, 1, 2, 3, 4, 5], [], [0, 1, 2, 3, 4, 5], [8]⟩ 8 _ rfl rfl (by decide +kernel) rfl ⟨⟨_, rfl, Qok_val rfl (Ev_indexArr 2 76 49 0 Tryd.underlying113 Tryd.sizeOf76 rfl rfl (by omega) (by omega) (by omega))⟩, ⟨_, rfl, Qok_val rfl (Ev_fieldAddr 1 74 32 Tryd.underlying76 rfl Tryd.sizeOf74 rfl rfl)⟩, ⟨_, rfl, Qok_val rfl (Ev_load rfl (Ld_agg Tryd.isAgg74 Tryd.sizeOf74 (len_cu8 hd1) (MemAt.ent 1 rfl (Seg.left (Seg.left (Seg.left (Seg.left (Seg.right 1 0 rfl rfl (Seg.whole _)))))))))⟩, ⟨_, rfl, Qok_val rfl (Ev_indexArr 2 76 49 49 Tryd.underlying113 Tryd.sizeOf76 rfl rfl (by omega) (by omega) (by omega))⟩, ⟨_, rfl, Qok_val rfl (Ev_fieldAddr 1 74 32 Tryd.underlying76 rfl Tryd.sizeOf74 rfl rfl)⟩, ⟨_, rfl, Qok_val rfl (Ev_load rfl (Ld_agg Tryd.isAgg74 Tryd.sizeOf74 (len_cu8 hd2) (MemAt.ent 1 rfl (Seg.left (Seg.right 50 0 (by simp [hd1, ht1]) rfl (Seg.whole _))))))⟩, trivial⟩ rfl (Cok_step rfl (Step_store 4 nb5 0 32 (cu8 (zr8 32)) 25 (.agg (cu8 d1).toArray) (cu8 d1) (cu8 d1) rfl rfl rfl (by first | rfl | simp) Tryd.sizeOf25 (len_cu8 hd1) (by first | exact one_u8 | exact one_u32 | exact one_u64 | (simp [cu8, cu32, cu64, Value.oneCell']; done)) (by simp [(zr8_len 32)]) (lay_whole (by simp [(zr8_len 32), hd1])))) ?_
      rintro v1 L1 ⟨rfl, rfl⟩
      refine ⟨[], ?_⟩
      show DP _ _ _ _ _ _ _ _ [⟨nb1, [U64 x, U64 y], 68, (0, 0)⟩, ⟨nb2, [U64 e1] ++ cu8 d1 ++ cu8 t1 ++ [U64 e2] ++ cu8 d2 ++ cu8 t2, 113, (0, 0)⟩, ⟨nb3, [I64 (a), I64 (b)], 95, (0, 0)⟩, ⟨nb4, cu8 (leafT y e2 d2 t2) ++ sp1, 5, (0, 0)⟩, ⟨nb5, cu8 d1, 25, (0, 0)⟩, ⟨nb7, cu8 (zr8 32), 25, (0, 0)⟩]
      refine DP_one ⟨[6, 7, 8], [0, 1, 2, 3, 4, 5], [0, 1, 2], [3, 4, 5], [9]⟩ 9 _ rfl rfl (by decide +kernel) rfl ⟨⟨_, rfl, Qok_val rfl (Ev_indexArr 2 76 49 49 Tryd.underlying113 Tryd.sizeOf76 rfl rfl (by omega) (by omega) (by omega))⟩, ⟨_, rfl, Qok_val rfl (Ev_fieldAddr 1 74 32 Tryd.underlying76 rfl Tryd.sizeOf74 rfl rfl)⟩, ⟨_, rfl, Qok_val rfl (Ev_load rfl (Ld_agg Tryd.isAgg74 Tryd.sizeOf74 (len_cu8 hd2) (MemAt.ent 1 rfl (Seg.left (Seg.right 50 0 (by simp [hd1, ht1]) rfl (Seg.whole _))))))⟩, trivial⟩ rfl (Cok_step rfl (Step_store 5 nb7 0 32 (cu8 (zr8 32)) 25 (.agg (cu8 d2).toArray) (cu8 d2) (cu8 d2) rfl rfl rfl (by first | rfl | simp) Tryd.sizeOf25 (len_cu8 hd2) (by first | exact one_u8 | exact one_u32 | exact one_u64 | (simp [cu8, cu32, cu64, Value.oneCell']; done)) (by simp [(zr8_len 32)]) (lay_whole (by simp [(zr8_len 32), hd2])))) ?_
      rintro v1 L1 ⟨rfl, rfl⟩
      refine ⟨[], ?_⟩
      show DP _ _ _ _ _ _ _ _ [⟨nb1, [U64 x, U64 y], 68, (0, 0)⟩, ⟨nb2, [U64 e1] ++ cu8 d1 ++ cu8 t1 ++ [U64 e2] ++ cu8 d2 ++ cu8 t2, 113, (0, 0)⟩, ⟨nb3, [I64 (a), I64 (b)], 95, (0, 0)⟩, ⟨nb4, cu8 (leafT y e2 d2 t2) ++ sp1, 5, (0, 0)⟩, ⟨nb5, cu8 d1, 25, (0, 0)⟩, ⟨nb7, cu8 d2, 25, (0, 0)⟩]
      refine DP_end ⟨[6, 7, 8, 9], [0, 1, 2, 3, 4, 5], [0, 1, 2, 3, 4, 5], [], []⟩ rfl rfl (by decide +kernel) rfl trivial ?_
      refine K_sub (F' := [(11, Ptr nb5 0), (12, Ptr nb7 0), (5, Ptr nb3 0), (6, .bool false), (7, .slice none 0 0), (8, .iface 43 (I64 (1:Int)))]) (Sub.cons (by kernel_rfl) (Sub.cons (by kernel_rfl) (Sub.cons (by kernel_rfl) (Sub.cons (by kernel_rfl) (Sub.cons (by kernel_rfl) (Sub.cons (by kernel_rfl) (Sub.nil))))))) ?_
      show JQ _ _ _ [(11, Ptr nb5 0), (12, Ptr nb7 0), (5, Ptr nb3 0), (6, .bool false), (7, .slice none 0 0), (8, .iface 43 (I64 (1:Int)))] _
      refine K_pick [2, 4, 5] (by decide) ?_
      show JQ _ _ _ _ [⟨nb3, [I64 (a), I64 (b)], 95, (0, 0)⟩, ⟨nb5, cu8 d1, 25, (0, 0)⟩, ⟨nb7, cu8 d2, 25, (0, 0)⟩]
      refine JQ_cut (nb5, nb7) trivial (Sub.cons rfl (Sub.cons rfl (Sub.cons rfl (Sub.cons rfl (Sub.cons rfl (Sub.cons rfl (Sub.nil))))))) rfl
    ·
      rintro v1 L1 ⟨nb6, hnb6, rfl, rfl⟩
      refine ⟨[], ?_⟩
      show DP _ _ _ _ _ _ _ _ [⟨nb1, [U64 x, U64 y], 68, (0, 0)⟩, ⟨nb2, [U64 e1] ++ cu8 d1 ++ cu8 t1 ++ [U64 e2] ++ cu8 d2 ++ cu8 t2, 113, (0, 0)⟩, ⟨nb3, [I64 (a), I64 (b)], 95, (0, 0)⟩, ⟨nb4, cu8 (leafT y e2 d2 t2) ++ sp1, 5, (0, 0)⟩, ⟨nb6, cu8 (zr8 32), 25, (0, 0)⟩]
      refine DP_one ⟨[7], [0, 1, 2, 3, 4, 5], [], [0, 1, 2, 3, 4, 5], [6]⟩ 6 _ rfl rfl (by decide +kernel) rfl ⟨⟨_, rfl, Qok_val rfl (Ev_indexArr 2 76 49 0 Tryd.underlying113 Tryd.sizeOf76 rfl rfl (by omega) (by omega) (by omega))⟩, ⟨_, rfl, Qok_val rfl (Ev_fieldAddr 1 74 32 Tryd.underlying76 rfl Tryd.sizeOf74 rfl rfl)⟩, ⟨_, rfl, Qok_val rfl (Ev_load rfl (Ld_agg Tryd.isAgg74 Tryd.sizeOf74 (len_cu8 hd1) (MemAt.ent 1 rfl (Seg.left (Seg.left (Seg.left (Seg.left (Seg.right 1 0 rfl rfl (Seg.whole _)))))))))⟩, ⟨_, rfl, Qok_val rfl (Ev_indexArr 2 76 49 49 Tryd.underlying113 Tryd.sizeOf76 rfl rfl (by omega) (by omega) (by omega))⟩, ⟨_, rfl, Qok_val rfl (Ev_fieldAddr 1 74 32 Tryd.underlying76 rfl Tryd.sizeOf74 rfl rfl)⟩, ⟨_, rfl, Qok_val rfl (Ev_load rfl (Ld_agg Tryd.isAgg74 Tryd.sizeOf74 (len_cu8 hd2) (MemAt.ent 1 rfl (Seg.left (Seg.right 50 0 (by simp [hd1, ht1]) rfl (Seg.whole _))))))⟩, trivial⟩ rfl (Cok_step rfl (Step_alloc _ (cu8 (zr8 32)) Tryd.zeroValue25 (by kernel_rfl))) ?_
      rintro v1 L1 ⟨nb8, hnb8, rfl, rfl⟩
      refine ⟨[], ?_⟩
      show DP _ _ _ _ _ _ _ _ [⟨nb1, [U64 x, U64 y], 68, (0, 0)⟩, ⟨nb2, [U64 e1] ++ cu8 d1 ++ cu8 t1 ++ [U64 e2] ++ cu8 d2 ++ cu8 t2, 113, (0, 0)⟩, ⟨nb3, [I64 (a), I64 (b)], 95, (0, 0)⟩, ⟨nb4, cu8 (leafT y e2 d2 t2) ++ sp1, 5, (0, 0)⟩, ⟨nb6, cu8 (zr8 32), 25, (0, 0)⟩, ⟨nb8, cu8 (zr8 32), 25, (0, 0)⟩]
      refine DP_one ⟨[7, 6], [0, 1, 2, 3, 4, 5], [], [0, 1, 2, 3, 4, 5], [8]⟩ 8 _ rfl rfl (by decide +kernel) rfl ⟨⟨_, rfl, Qok_val rfl (Ev_indexArr 2 76 49 0 Tryd.underlying113 Tryd.sizeOf76 rfl rfl (by omega) (by omega) (by omega))⟩, ⟨_, rfl, Qok_val rfl (Ev_fieldAddr 1 74 32 Tryd.underlying76 rfl Tryd.sizeOf74 rfl rfl)⟩, ⟨_, rfl, Qok_val rfl (Ev_load rfl (Ld_agg Tryd.isAgg74 Tryd.sizeOf74 (len_cu8 hd1) (MemAt.ent 1 rfl (Seg.left (Seg.left (Seg.left (Seg.left (Seg.right 1 0 rfl rfl (Seg.whole _)))))))))⟩, ⟨_, rfl, Qok_val rfl (Ev_indexArr 2 76 49 49 Tryd.underlying113 Tryd.sizeOf76 rfl rfl (by omega) (by omega) (by omega))⟩, ⟨_, rfl, Qok_val rfl (Ev_fieldAddr 1 74 32 Tryd.underlying76 rfl Tryd.sizeOf74 rfl rfl)⟩, ⟨_, rfl, Qok_val rfl (Ev_load rfl (Ld_agg Tryd.isAgg74 Tryd.sizeOf74 (len_cu8 hd2) (MemAt.ent 1 rfl (Seg.left (Seg.right 50 0 (by simp [hd1, ht1]) rfl (Seg.whole _))))))⟩, trivial⟩ rfl (Cok_step rfl (Step_store 5 nb8 0 32 (cu8 (zr8 32)) 25 (.agg (cu8 d1).toArray) (cu8 d1) (cu8 d1) rfl rfl rfl (by first | rfl | simp) Tryd.sizeOf25 (len_cu8 hd1) (by first | exact one_u8 | exact one_u32 | exact one_u64 | (simp [cu8, cu32, cu64, Value.oneCell']; done)) (by simp [(zr8_len 32)]) (lay_whole (by simp [(zr8_len 32), hd1])))) ?_
      rintro v1 L1 ⟨rfl, rfl⟩
      refine ⟨[], ?_⟩
      show DP _ _ _ _ _ _ _ _ [⟨nb1, [U64 x, U64 y], 68, (0, 0)⟩, ⟨nb2, [U64 e1] ++ cu8 d1 ++ cu8 t1 ++ [U64 e2] ++ cu8 d2 ++ cu8 t2, 113, (0, 0)⟩, ⟨nb3, [I64 (a), I64 (b)], 95, (0, 0)⟩, ⟨nb4, cu8 (leafT y e2 d2 t2) ++ sp1, 5, (0, 0)⟩, ⟨nb6, cu8 (zr8 32), 25, (0, 0)⟩, ⟨nb8, cu8 d1, 25, (0, 0)⟩]
      refine DP_one ⟨[7, 6, 8], [0, 1, 2, 3, 4, 5], [0, 1, 2], [3, 4, 5], [9]⟩ 9 _ rfl rfl (by decide +kernel) rfl ⟨⟨_, rfl, Qok_val rfl (Ev_indexArr 2 76 49 49 Tryd.underlying113 Tryd.sizeOf76 rfl rfl (by omega) (by omega) (by omega))⟩, ⟨_, rfl, Qok_val rfl (Ev_fieldAddr 1 74 32 Tryd.underlying76 rfl Tryd.sizeOf74 rfl rfl)⟩, ⟨_, rfl, Qok_val rfl (Ev_load rfl (Ld_agg Tryd.isAgg74 Tryd.sizeOf74 (len_cu8 hd2) (MemAt.ent 1 rfl (Seg.left (Seg.right 50 0 (by simp [hd1, ht1]) rfl (Seg.whole _))))))⟩, trivial⟩ rfl (Cok_step rfl (Step_store 4 nb6 0 32 (cu8 (zr8 32)) 25 (.agg (cu8 d2).toArray) (cu8 d2) (cu8 d2) rfl rfl rfl (by first | rfl | simp) Tryd.sizeOf25 (len_cu8 hd2) (by first | exact one_u8 | exact one_u32 | exact one_u64 | (simp [cu8, cu32, cu64, Value.oneCell']; done)) (by simp [(zr8_len 32)]) (lay_whole (by simp [(zr8_len 32), hd2])))) ?_
      rintro v1 L1 ⟨rfl, rfl⟩
      refine ⟨[], ?_⟩
      show DP _ _ _ _ _ _ _ _ [⟨nb1, [U64 x, U64 y], 68, (0, 0)⟩, ⟨nb2, [U64 e1] ++ cu8 d1 ++ cu8 t1 ++ [U64 e2] ++ cu8 d2 ++ cu8 t2, 113, (0, 0)⟩, ⟨nb3, [I64 (a), I64 (b)], 95, (0, 0)⟩, ⟨nb4, cu8 (leafT y e2 d2 t2) ++ sp1, 5, (0, 0)⟩, ⟨nb6, cu8 d2, 25, (0, 0)⟩, ⟨nb8, cu8 d1, 25, (0, 0)⟩]
      refine DP_end ⟨[7, 6, 8, 9], [0, 1, 2, 3, 4, 5], [0, 1, 2, 3, 4, 5], [], []⟩ rfl rfl (by decide +kernel) rfl trivial ?_
      refine K_sub (F' := [(11, Ptr nb8 0), (12, Ptr nb6 0), (5, Ptr nb3 0), (6, .bool false), (7, .slice none 0 0), (8, .iface 43 (I64 (1:Int)))]) (Sub.cons (by kernel_rfl) (Sub.cons (by kernel_rfl) (Sub.cons (by kernel_rfl) (Sub.cons (by kernel_rfl) (Sub.cons (by kernel_rfl) (Sub.cons (by kernel_rfl) (Sub.nil))))))) ?_
      show JQ _ _ _ [(11, Ptr nb8 0), (12, Ptr nb6 0), (5, Ptr nb3 0), (6, .bool false), (7, .slice none 0 0), (8, .iface 43 (I64 (1:Int)))] _
      refine K_pick [2, 5, 4] (by decide) ?_
      show JQ _ _ _ _ [⟨nb3, [I64 (a), I64 (b)], 95, (0, 0)⟩, ⟨nb8, cu8 d1, 25, (0, 0)⟩, ⟨nb6, cu8 d2, 25, (0, 0)⟩]
      refine JQ_cut (nb8, nb6) trivial (Sub.cons rfl (Sub.cons rfl (Sub.cons rfl (Sub.cons rfl (Sub.cons rfl (Sub.cons rfl (Sub.nil))))))) rfl
  ·
    rintro ⟨ynb0, ynb1⟩ _
    show JQ _ _ _ [(5, Ptr nb3 0), (6, .bool false), (7, .slice none 0 0), (8, .iface 43 (I64 (1:Int))), (11, Ptr ynb0 0), (12, Ptr ynb1 0)] [⟨nb3, [I64 (a), I64 (b)], 95, (0, 0)⟩, ⟨ynb0, cu8 d1, 25, (0, 0)⟩, ⟨ynb1, cu8 d2, 25, (0, 0)⟩]
    refine JQ_then ?_
    refine JC_seq ?_
    refine JC_region ?_
    refine JL_val (Ptr nb3 0) (Ev_indexArr 2 3 1 0 Tryd.underlying95 Tryd.sizeOf3 rfl rfl (by omega) (by omega) (by omega)) rfl ?_
    refine JL_val (I64 (a)) (Ev_load rfl (Ld_one Tryd.isAgg3 (MemAt.ent 0 rfl (Seg.head)))) rfl ?_
    refine JL_val (.agg (cu8 d1).toArray) (Ev_load rfl (Ld_agg Tryd.isAgg25 Tryd.sizeOf25 (len_cu8 hd1) (MemAt.ent 1 rfl (Seg.whole _)))) rfl ?_
    refine JL_val (.agg (cu8 d2).toArray) (Ev_load rfl (Ld_agg Tryd.isAgg25 Tryd.sizeOf25 (len_cu8 hd2) (MemAt.ent 2 rfl (Seg.whole _)))) rfl ?_
    refine JL_step (Step_callP 71 [I64 (a), .agg (cu8 d1).toArray, .agg (cu8 d2).toArray] (.tuple #[.slice none 0 0, .iface 43 (I64 (1:Int))]) (Cl_func [I64 (a), .agg (cu8 d1).toArray, .agg (cu8 d2).toArray] Tryd.call71 rfl) (fun w1 hw1 => joinTextB_c (a) d1 d2 w1 hd1 hd2 ha)) rfl ?_
    rintro v1 L1 ⟨rfl, rfl⟩
    show JL _ _ _ _ ((72, .tuple #[.slice none 0 0, .iface 43 (I64 (1:Int))]) :: _) [⟨nb3, [I64 (a), I64 (b)], 95, (0, 0)⟩, ⟨ynb0, cu8 d1, 25, (0, 0)⟩, ⟨ynb1, cu8 d2, 25, (0, 0)⟩]
    refine JL_val _ (Ev_move rfl) rfl ?_
    refine JL_val _ (Ev_extract rfl rfl) rfl ?_
    refine JL_val _ (Ev_extract rfl rfl) rfl ?_
    refine JL_val _ (Ev_assign rfl) rfl ?_
    refine JL_val _ (Ev_assign rfl) rfl ?_
    refine JL_nil ?_
    refine JQ_then ?_
    refine JC_seq ?_
    refine JC_region ?_
    refine JL_val (Ptr nb3 1) (Ev_indexArr 2 3 1 1 Tryd.underlying95 Tryd.sizeOf3 rfl rfl (by omega) (by omega) (by omega)) rfl ?_
    refine JL_val (I64 (b)) (Ev_load rfl (Ld_one Tryd.isAgg3 (MemAt.ent 0 rfl (Seg.tail (Seg.head))))) rfl ?_
    refine JL_val (.agg (cu8 d2).toArray) (Ev_load rfl (Ld_agg Tryd.isAgg25 Tryd.sizeOf25 (len_cu8 hd2) (MemAt.ent 2 rfl (Seg.whole _)))) rfl ?_
    refine JL_val (.agg (cu8 d1).toArray) (Ev_load rfl (Ld_agg Tryd.isAgg25 Tryd.sizeOf25 (len_cu8 hd1) (MemAt.ent 1 rfl (Seg.whole _)))) rfl ?_
    refine JL_step (Step_callP 71 [I64 (b), .agg (cu8 d2).toArray, .agg (cu8 d1).toArray] (.tuple #[.slice none 0 0, .iface 43 (I64 (1:Int))]) (Cl_func [I64 (b), .agg (cu8 d2).toArray, .agg (cu8 d1).toArray] Tryd.call71 rfl) (fun w1 hw1 => joinTextB_c (b) d2 d1 w1 hd2 hd1 hb)) rfl ?_
    rintro v1 L1 ⟨rfl, rfl⟩
    show JL _ _ _ _ ((80, .tuple #[.slice none 0 0, .iface 43 (I64 (1:Int))]) :: _) [⟨nb3, [I64 (a), I64 (b)], 95, (0, 0)⟩, ⟨ynb0, cu8 d1, 25, (0, 0)⟩, ⟨ynb1, cu8 d2, 25, (0, 0)⟩]
    refine JL_val _ (Ev_move rfl) rfl ?_
    refine JL_val _ (Ev_extract rfl rfl) rfl ?_
    refine JL_val _ (Ev_extract rfl rfl) rfl ?_
    refine JL_val _ (Ev_assign rfl) rfl ?_
    refine JL_val _ (Ev_assign rfl) rfl ?_
    refine JL_nil ?_
    refine JQ_then ?_
    refine JC_seq ?_
    refine JC_seq ?_
    refine JC_draw 127 1 [(0, .iface 43 (I64 (1:Int))), (1, .bool false), (2, .bool false), (3, undef), (4, undef), (5, .bool false), (6, .bool false), (7, undef), (8, undef), (9, undef), (10, undef), (11, undef), (12, undef), (13, undef), (14, undef), (15, undef), (16, undef), (17, undef), (18, undef), (19, undef), (20, undef), (21, undef), (22, undef), (23, .bool false)] Tryd.mixed rfl (by decide +kernel) ?_
    refine DP_end ⟨[], [0, 1, 2, 3, 4, 5, 6, 7, 8, 9, 10, 11, 12, 13, 14, 15, 16, 17, 18, 19, 20, 21, 22, 23], [], [0, 1, 2, 3, 4, 5, 6, 7, 8, 9, 10, 11, 12, 13, 14, 15, 16, 17, 18, 19, 20, 21, 22, 23], []⟩ rfl rfl (by decide +kernel) rfl ⟨⟨_, rfl, Qok_val rfl (Ev_move rfl)⟩, ⟨_, rfl, Qok_val rfl (Ev_bin _ _ _ rfl rfl (fun _ => eqGuard_if ..) fun _ => eql_if_nil Tryd.underlying39)⟩, ⟨_, rfl, Qok_val rfl (Ev_move rfl)⟩, ⟨_, rfl, Qok_gskip 2 85 true _ rfl rfl rfl rfl⟩, ⟨_, rfl, Qok_gskip 2 85 true _ rfl rfl rfl rfl⟩, ⟨_, rfl, Qok_val rfl (Ev_pickF _ rfl rfl rfl)⟩, ⟨_, rfl, Qok_val rfl (Ev_move rfl)⟩, ⟨_, rfl, Qok_gskip 6 89 true _ rfl rfl rfl rfl⟩, ⟨_, rfl, Qok_gskip 6 89 true _ rfl rfl rfl rfl⟩, ⟨_, rfl, Qok_gskip 6 89 true _ rfl rfl rfl rfl⟩, ⟨_, rfl, Qok_gskip 6 89 true _ rfl rfl rfl rfl⟩, ⟨_, rfl, Qok_gskip 6 89 true _ rfl rfl rfl rfl⟩, ⟨_, rfl, Qok_gskip 6 89 true _ rfl rfl rfl rfl⟩, ⟨_, rfl, Qok_gskip 6 89 true _ rfl rfl rfl rfl⟩, ⟨_, rfl, Qok_gskip 6 89 true _ rfl rfl rfl rfl⟩, ⟨_, rfl, Qok_gskip 6 89 true _ rfl rfl rfl rfl⟩, ⟨_, rfl, Qok_gskip 6 89 true _ rfl rfl rfl rfl⟩, ⟨_, rfl, Qok_gskip 6 89 true _ rfl rfl rfl rfl⟩, ⟨_, rfl, Qok_gskipU 17 100 true rfl rfl rfl⟩, ⟨_, rfl, Qok_gskipU 17 100 true rfl rfl rfl⟩, ⟨_, rfl, Qok_gskipU 17 100 true rfl rfl rfl⟩, ⟨_, rfl, Qok_gskip 6 89 true _ rfl rfl rfl rfl⟩, ⟨_, rfl, Qok_gskip 6 89 true _ rfl rfl rfl rfl⟩, ⟨_, rfl, Qok_val rfl (Ev_pickF _ rfl rfl rfl)⟩, trivial⟩ ?_
    refine K_sub (F' := [(106, .bool false), (6, .bool false), (7, .slice none 0 0), (8, .iface 43 (I64 (1:Int))), (13, .slice none 0 0), (14, .iface 43 (I64 (1:Int)))]) (Sub.cons (by kernel_rfl) (Sub.cons (by kernel_rfl) (Sub.cons (by kernel_rfl) (Sub.cons (by kernel_rfl) (Sub.cons (by kernel_rfl) (Sub.cons (by kernel_rfl) (Sub.nil))))))) ?_
    show JQ _ _ _ [(106, .bool false), (6, .bool false), (7, .slice none 0 0), (8, .iface 43 (I64 (1:Int))), (13, .slice none 0 0), (14, .iface 43 (I64 (1:Int)))] _
    refine JQ_then ?_
    refine JC_condF _ rfl rfl ?_
    refine JC_skip ?_
    refine JQ_then ?_
    refine JC_seq ?_
    refine JC_region ?_
    refine JL_val _ (Ev_move rfl) rfl ?_
    refine JL_val (.bool true) (Ev_bin _ _ _ rfl rfl (fun _ => eqGuard_if ..) fun _ => neq_if_nil Tryd.underlying39) rfl ?_
    refine JL_val _ (Ev_move rfl) rfl ?_
    refine JL_gskip 2 109 false _ rfl rfl rfl rfl ?_
    refine JL_gskip 2 109 false _ rfl rfl rfl rfl ?_
    refine JL_val _ (Ev_pickT _ rfl rfl rfl) rfl ?_
    refine JL_val _ (Ev_move rfl) rfl ?_
    refine JL_gskip 6 113 false _ rfl rfl rfl rfl ?_
    refine JL_gskip 6 113 false _ rfl rfl rfl rfl ?_
    refine JL_gskip 6 113 false _ rfl rfl rfl rfl ?_
    refine JL_gskip 6 113 false _ rfl rfl rfl rfl ?_
    refine JL_gskip 6 113 false _ rfl rfl rfl rfl ?_
    refine JL_gskip 6 113 false _ rfl rfl rfl rfl ?_
    refine JL_gskipU 12 119 true rfl rfl rfl ?_
    refine JL_gskipU 12 119 true rfl rfl rfl ?_
    refine JL_gskipU 12 119 true rfl rfl rfl ?_
    refine JL_gskipU 12 119 true rfl rfl rfl ?_
    refine JL_gskipU 12 119 true rfl rfl rfl ?_
    refine JL_gskip 6 113 false _ rfl rfl rfl rfl ?_
    refine JL_val _ (Ev_pickT _ rfl rfl rfl) rfl ?_
    refine JL_val _ (Ev_assign rfl) rfl ?_
    refine JL_nil ?_
    refine JQ_then ?_
    refine JC_ret ?_
    refine JQ_ret (.bool true) (res1 Tryd.results20 (RV_tmp rfl)) fun w1 hw1 => ?_
    exact ⟨_, [], rfl, ⟨by rw [show (true) = true from rfl], rfl⟩, hw1.sub (by simp) (by simp)⟩

theorem nodeAp4_c (x y e1 : UInt64) (d1 t1 : List UInt8) (e2 : UInt64) (d2 t2 : List UInt8) (a : Nat) (b : Int)  (w : World) (hd1 : d1.length = 32) (ht1 : t1.length = 16) (hd2 : d2.length = 32) (ht2 : t2.length = 16) (hG : GLs w) (hx : (4294967295:UInt64) < x) (hy : (4294967295:UInt64) < y) (ha : 1 ≤ a ∧ a ≤ 32) (hb : b < 1 ∨ 32 < b)  : Calls Tryd.prog 20 #[.agg (List.toArray (α := Value) ([U64 x, U64 y])), .agg (List.toArray (α := Value) ([U64 e1] ++ cu8 d1 ++ cu8 t1 ++ [U64 e2] ++ cu8 d2 ++ cu8 t2)), .agg (List.toArray (α := Value) ([I64 ((a:Int)), I64 (b)]))] w (Post w [] (fun v L => v = .bool true ∧ L = [])) := by
  have hmx : maxLen = 9223372036854775807 := rfl
  refine enter (P := Tryd.prog) (f := 20) (fn := Tryd.f20) w [] 127 [] [.agg (List.toArray (α := Value) ([U64 x, U64 y])), .agg (List.toArray (α := Value) ([U64 e1] ++ cu8 d1 ++ cu8 t1 ++ [U64 e2] ++ cu8 d2 ++ cu8 t2)), .agg (List.toArray (α := Value) ([I64 ((a:Int)), I64 (b)]))] Tryd.func20 rfl rfl (by simp) (Hp.start (by simp) (by simp) (by simp)) ?_
  show JC _ _ _ [(0, .agg (List.toArray (α := Value) ([U64 x, U64 y]))), (1, .agg (List.toArray (α := Value) ([U64 e1] ++ cu8 d1 ++ cu8 t1 ++ [U64 e2] ++ cu8 d2 ++ cu8 t2))), (2, .agg (List.toArray (α := Value) ([I64 ((a:Int)), I64 (b)])))] _
  refine JC_seq ?_
  refine JC_region ?_
  refine JL_step (Step_box (.agg (List.toArray (α := Value) ([U64 x, U64 y]))) ([U64 x, U64 y]) rfl (by first | rfl | simp)) rfl ?_
  rintro v1 L1 ⟨nb1, hnb1, rfl, rfl⟩
  show JL _ _ _ _ ((3, Ptr nb1 0) :: _) [⟨nb1, [U64 x, U64 y], 68, (0, 0)⟩]
  refine JL_step (Step_box (.agg (List.toArray (α := Value) ([U64 e1] ++ cu8 d1 ++ cu8 t1 ++ [U64 e2] ++ cu8 d2 ++ cu8 t2))) ([U64 e1] ++ cu8 d1 ++ cu8 t1 ++ [U64 e2] ++ cu8 d2 ++ cu8 t2) rfl (by first | rfl | simp)) rfl ?_
  rintro v1 L1 ⟨nb2, hnb2, rfl, rfl⟩
  show JL _ _ _ _ ((4, Ptr nb2 0) :: _) [⟨nb1, [U64 x, U64 y], 68, (0, 0)⟩, ⟨nb2, [U64 e1] ++ cu8 d1 ++ cu8 t1 ++ [U64 e2] ++ cu8 d2 ++ cu8 t2, 113, (0, 0)⟩]
  refine JL_step (Step_box (.agg (List.toArray (α := Value) ([I64 ((a:Int)), I64 (b)]))) ([I64 ((a:Int)), I64 (b)]) rfl (by first | rfl | simp)) rfl ?_
  rintro v1 L1 ⟨nb3, hnb3, rfl, rfl⟩
  show JL _ _ _ _ ((5, Ptr nb3 0) :: _) [⟨nb1, [U64 x, U64 y], 68, (0, 0)⟩, ⟨nb2, [U64 e1] ++ cu8 d1 ++ cu8 t1 ++ [U64 e2] ++ cu8 d2 ++ cu8 t2, 113, (0, 0)⟩, ⟨nb3, [I64 ((a:Int)), I64 (b)], 95, (0, 0)⟩]
  refine JL_val _ (Ev_assign rfl) rfl ?_
  refine JL_nil ?_
  refine JQ_then ?_
  refine JC_seq ?_
  refine JC_seq ?_
  refine JC_region ?_
  refine JL_step (Step_callP 69 [] (.bool true) (Cl_func [] Tryd.call69 rfl) (fun w1 hw1 => alive8_c  w1 (hG.at hw1))) rfl ?_
  rintro v1 L1 ⟨rfl, rfl⟩
  show JL _ _ _ _ ((17, .bool true) :: _) [⟨nb1, [U64 x, U64 y], 68, (0, 0)⟩, ⟨nb2, [U64 e1] ++ cu8 d1 ++ cu8 t1 ++ [U64 e2] ++ cu8 d2 ++ cu8 t2, 113, (0, 0)⟩, ⟨nb3, [I64 ((a:Int)), I64 (b)], 95, (0, 0)⟩]
  refine JL_val (.bool (!true)) (Ev_not rfl) rfl ?_
  refine JL_nil ?_
  refine JQ_then ?_
  refine JC_condF _ rfl rfl ?_
  refine JC_skip ?_
  refine JQ_then ?_
  refine JC_seq ?_
  refine JC_region ?_
  refine JL_val (Ptr nb1 0) (Ev_indexArr 2 58 1 0 Tryd.underlying68 Tryd.sizeOf58 rfl rfl (by omega) (by omega) (by omega)) rfl ?_
  refine JL_val (U64 x) (Ev_load rfl (Ld_one Tryd.isAgg58 (MemAt.ent 0 rfl (Seg.head)))) rfl ?_
  refine JL_val (Ptr nb2 0) (Ev_indexArr 2 76 49 0 Tryd.underlying113 Tryd.sizeOf76 rfl rfl (by omega) (by omega) (by omega)) rfl ?_
  refine JL_val (.agg (List.toArray (α := Value) ([U64 e1] ++ cu8 d1 ++ cu8 t1))) (Ev_load rfl (Ld_agg Tryd.isAgg76 Tryd.sizeOf76 (by simp [hd1, ht1]) (MemAt.ent 1 rfl (Seg.split (p := []) (q := [U64 e2] ++ cu8 d2 ++ cu8 t2) (vs := [U64 e1] ++ cu8 d1 ++ cu8 t1) (by first | rfl | (simp only [List.append_assoc, List.nil_append, List.append_nil, List.cons_append]; done)) rfl)))) rfl ?_
  refine JL_step (Step_callP 79 [U64 x, .agg (List.toArray (α := Value) ([U64 e1] ++ cu8 d1 ++ cu8 t1))] (.tuple #[.slice none 0 0, .iface 43 (I64 (1:Int))]) (Cl_func [U64 x, .agg (List.toArray (α := Value) ([U64 e1] ++ cu8 d1 ++ cu8 t1))] Tryd.call79 rfl) (fun w1 hw1 => leafTextB_c x e1 d1 t1 w1 hd1 ht1 (shr4n hx))) rfl ?_
  rintro v1 L1 ⟨rfl, rfl⟩
  show JL _ _ _ _ ((24, .tuple #[.slice none 0 0, .iface 43 (I64 (1:Int))]) :: _) [⟨nb1, [U64 x, U64 y], 68, (0, 0)⟩, ⟨nb2, [U64 e1] ++ cu8 d1 ++ cu8 t1 ++ [U64 e2] ++ cu8 d2 ++ cu8 t2, 113, (0, 0)⟩, ⟨nb3, [I64 ((a:Int)), I64 (b)], 95, (0, 0)⟩]
  refine JL_val _ (Ev_move rfl) rfl ?_
  refine JL_val _ (Ev_extract rfl rfl) rfl ?_
  refine JL_val _ (Ev_extract rfl rfl) rfl ?_
  refine JL_val _ (Ev_assign rfl) rfl ?_
  refine JL_val _ (Ev_assign rfl) rfl ?_
  refine JL_nil ?_
  refine JQ_then ?_
  refine JC_seq ?_
  refine JC_region ?_
  refine JL_val (Ptr nb1 1) (Ev_indexArr 2 58 1 1 Tryd.underlying68 Tryd.sizeOf58 rfl rfl (by omega) (by omega) (by omega)) rfl ?_
  refine JL_val (U64 y) (Ev_load rfl (Ld_one Tryd.isAgg58 (MemAt.ent 0 rfl (Seg.tail (Seg.head))))) rfl ?_
  refine JL_val (Ptr nb2 49) (Ev_indexArr 2 76 49 49 Tryd.underlying113 Tryd.sizeOf76 rfl rfl (by omega) (by omega) (by omega)) rfl ?_
  refine JL_val (.agg (List.toArray (α := Value) ([U64 e2] ++ cu8 d2 ++ cu8 t2))) (Ev_load rfl (Ld_agg Tryd.isAgg76 Tryd.sizeOf76 (by simp [hd2, ht2]) (MemAt.ent 1 rfl (Seg.split (p := [U64 e1] ++ cu8 d1 ++ cu8 t1) (q := []) (vs := [U64 e2] ++ cu8 d2 ++ cu8 t2) (by first | rfl | (simp only [List.append_assoc, List.nil_append, List.append_nil, List.cons_append]; done)) (by simp [hd1, ht1]))))) rfl ?_
  refine JL_step (Step_callP 79 [U64 y, .agg (List.toArray (α := Value) ([U64 e2] ++ cu8 d2 ++ cu8 t2))] (.tuple #[.slice none 0 0, .iface 43 (I64 (1:Int))]) (Cl_func [U64 y, .agg (List.toArray (α := Value) ([U64 e2] ++ cu8 d2 ++ cu8 t2))] Tryd.call79 rfl) (fun w1 hw1 => leafTextB_c y e2 d2 t2 w1 hd2 ht2 (shr4n hy))) rfl ?_
  rintro v1 L1 ⟨rfl, rfl⟩
  show JL _ _ _ _ ((32, .tuple #[.slice none 0 0, .iface 43 (I64 (1:Int))]) :: _) [⟨nb1, [U64 x, U64 y], 68, (0, 0)⟩, ⟨nb2, [U64 e1] ++ cu8 d1 ++ cu8 t1 ++ [U64 e2] ++ cu8 d2 ++ cu8 t2, 113, (0, 0)⟩, ⟨nb3, [I64 ((a:Int)), I64 (b)], 95, (0, 0)⟩]
  refine JL_val _ (Ev_move rfl) rfl ?_
  refine JL_val _ (Ev_extract rfl rfl) rfl ?_
  refine JL_val _ (Ev_extract rfl rfl) rfl ?_
  refine JL_val _ (Ev_assign rfl) rfl ?_
  refine JL_val _ (Ev_assign rfl) rfl ?_
  refine JL_nil ?_
  refine JQ_then ?_
  refine JC_seq ?_
  refine JC_seq ?_
  refine JC_draw 127 1 [(0, .iface 43 (I64 (1:Int))), (1, .bool false), (2, .bool false), (3, undef), (4, undef), (5, .bool false), (6, .bool false), (7, undef), (8, undef), (9, undef), (10, undef), (11, undef), (12, undef), (13, undef), (14, undef), (15, undef), (16, undef), (17, undef), (18, undef), (19, undef), (20, undef), (21, undef), (22, undef), (23, undef), (24, undef), (25, .bool false)] Tryd.mixed rfl (by decide +kernel) ?_
  refine DP_end ⟨[], [0, 1, 2, 3, 4, 5, 6, 7, 8, 9, 10, 11, 12, 13, 14, 15, 16, 17, 18, 19, 20, 21, 22, 23, 24, 25], [], [0, 1, 2, 3, 4, 5, 6, 7, 8, 9, 10, 11, 12, 13, 14, 15, 16, 17, 18, 19, 20, 21, 22, 23, 24, 25], []⟩ rfl rfl (by decide +kernel) rfl ⟨⟨_, rfl, Qok_val rfl (Ev_move rfl)⟩, ⟨_, rfl, Qok_val rfl (Ev_bin _ _ _ rfl rfl (fun _ => eqGuard_if ..) fun _ => eql_if_nil Tryd.underlying39)⟩, ⟨_, rfl, Qok_val rfl (Ev_move rfl)⟩, ⟨_, rfl, Qok_gskip 2 37 true _ rfl rfl rfl rfl⟩, ⟨_, rfl, Qok_gskip 2 37 true _ rfl rfl rfl rfl⟩, ⟨_, rfl, Qok_val rfl (Ev_pickF _ rfl rfl rfl)⟩, ⟨_, rfl, Qok_val rfl (Ev_move rfl)⟩, ⟨_, rfl, Qok_gskip 6 41 true _ rfl rfl rfl rfl⟩, ⟨_, rfl, Qok_gskip 6 41 true _ rfl rfl rfl rfl⟩, ⟨_, rfl, Qok_gskip 6 41 true _ rfl rfl rfl rfl⟩, ⟨_, rfl, Qok_gskip 6 41 true _ rfl rfl rfl rfl⟩, ⟨_, rfl, Qok_gskip 6 41 true _ rfl rfl rfl rfl⟩, ⟨_, rfl, Qok_gskip 6 41 true _ rfl rfl rfl rfl⟩, ⟨_, rfl, Qok_gskip 6 41 true _ rfl rfl rfl rfl⟩, ⟨_, rfl, Qok_gskip 6 41 true _ rfl rfl rfl rfl⟩, ⟨_, rfl, Qok_gskip 6 41 true _ rfl rfl rfl rfl⟩, ⟨_, rfl, Qok_gskip 6 41 true _ rfl rfl rfl rfl⟩, ⟨_, rfl, Qok_gskip 6 41 true _ rfl rfl rfl rfl⟩, ⟨_, rfl, Qok_gskipU 17 52 true rfl rfl rfl⟩, ⟨_, rfl, Qok_gskipU 17 52 true rfl rfl rfl⟩, ⟨_, rfl, Qok_gskipU 17 52 true rfl rfl rfl⟩, ⟨_, rfl, Qok_gskipU 17 52 true rfl rfl rfl⟩, ⟨_, rfl, Qok_gskipU 17 52 true rfl rfl rfl⟩, ⟨_, rfl, Qok_gskip 6 41 true _ rfl rfl rfl rfl⟩, ⟨_, rfl, Qok_gskip 6 41 true _ rfl rfl rfl rfl⟩, ⟨_, rfl, Qok_val rfl (Ev_pickF _ rfl rfl rfl)⟩, trivial⟩ ?_
  refine K_sub (F' := [(60, .bool false), (4, Ptr nb2 0), (5, Ptr nb3 0), (6, .bool false), (7, .slice none 0 0), (8, .iface 43 (I64 (1:Int)))]) (Sub.cons (by kernel_rfl) (Sub.cons (by kernel_rfl) (Sub.cons (by kernel_rfl) (Sub.cons (by kernel_rfl) (Sub.cons (by kernel_rfl) (Sub.cons (by kernel_rfl) (Sub.nil))))))) ?_
  show JQ _ _ _ [(60, .bool false), (4, Ptr nb2 0), (5, Ptr nb3 0), (6, .bool false), (7, .slice none 0 0), (8, .iface 43 (I64 (1:Int)))] _
  refine JQ_then ?_
  refine JC_condF _ rfl rfl ?_
  refine JC_skip ?_
  refine JQ_then ?_
  refine JC_seq ?_
  refine JC_cut (ι := Nat × Nat) (fun ⟨ynb0, ynb1⟩ => [(5, Ptr nb3 0), (6, .bool false), (7, .slice none 0 0), (8, .iface 43 (I64 (1:Int))), (11, Ptr ynb0 0), (12, Ptr ynb1 0)]) (fun ⟨ynb0, ynb1⟩ => [⟨nb3, [I64 ((a:Int)), I64 (b)], 95, (0, 0)⟩, ⟨ynb0, cu8 d1, 25, (0, 0)⟩, ⟨ynb1, cu8 d2, 25, (0, 0)⟩]) (fun ⟨ynb0, ynb1⟩ => True) ?_ ?_
  ·
    refine JC_draw 127 5 [(0, Ptr nb2 0), (1, Ptr nb2 1), (2, .agg (cu8 d1).toArray), (3, Ptr nb2 49), (4, Ptr nb2 50), (5, .agg (cu8 d2).toArray)] Tryd.mixed rfl (by decide +kernel) ?_
    refine DP_two ⟨[], [0, 1, 2, 3, 4, 5], [], [0, 1, 2, 3, 4, 5], [6, 7]⟩ 6 7 _ _ rfl rfl (by decide +kernel) rfl ⟨⟨_, rfl, Qok_val rfl (Ev_indexArr 2 76 49 0 Tryd.underlying113 Tryd.sizeOf76 rfl rfl (by omega) (by omega) (by omega))⟩, ⟨_, rfl, Qok_val rfl (Ev_fieldAddr 1 74 32 Tryd.underlying76 rfl Tryd.sizeOf74 rfl rfl)⟩, ⟨_, rfl, Qok_val rfl (Ev_load rfl (Ld_agg Tryd.isAgg74 Tryd.sizeOf74 (len_cu8 hd1) (MemAt.ent 1 rfl (Seg.left (Seg.left (Seg.left (Seg.left (Seg.right 1 0 rfl rfl (Seg.whole _)))))))))⟩, ⟨_, rfl, Qok_val rfl (Ev_indexArr 2 76 49 49 Tryd.underlying113 Tryd.sizeOf76 rfl rfl (by omega) (by omega) (by omega))⟩, ⟨_, rfl, Qok_val rfl (Ev_fieldAddr 1 74 32 Tryd.underlying76 rfl Tryd.sizeOf74 rfl rfl)⟩, ⟨_, rfl, Qok_val rfl (Ev_load rfl (Ld_agg Tryd.isAgg74 Tryd.sizeOf74 (len_cu8 hd2) (MemAt.ent 1 rfl (Seg.left (Seg.right 50 0 (by simp [hd1, ht1]) rfl (Seg.whole _))))))⟩, trivial⟩ rfl rfl (Cok_step rfl (Step_alloc _ (cu8 (zr8 32)) Tryd.zeroValue25 (by kernel_rfl))) (Cok_step rfl (Step_alloc _ (cu8 (zr8 32)) Tryd.zeroValue25 (by kernel_rfl))) ?_ ?_
    ·
      rintro v1 L1 ⟨nb4, hnb4, rfl, rfl⟩
      refine ⟨[], ?_⟩
      show DP _ _ _ _ _ _ _ _ [⟨nb1, [U64 x, U64 y], 68, (0, 0)⟩, ⟨nb2, [U64 e1] ++ cu8 d1 ++ cu8 t1 ++ [U64 e2] ++ cu8 d2 ++ cu8 t2, 113, (0, 0)⟩, ⟨nb3, [I64 ((a:Int)), I64 (b)], 95, (0, 0)⟩, ⟨nb4, cu8 (zr8 32), 25, (0, 0)⟩]
      refine DP_one ⟨[6], [0, 1, 2, 3, 4, 5], [], [0, 1, 2, 3, 4, 5], [7]⟩ 7 _ rfl rfl (by decide +kernel) rfl ⟨⟨_, rfl, Qok_val rfl (Ev_indexArr 2 76 49 0 Tryd.underlying113 Tryd.sizeOf76 rfl rfl (by omega) (by omega) (by omega))⟩, ⟨_, rfl, Qok_val rfl (Ev_fieldAddr 1 74 32 Tryd.underlying76 rfl Tryd.sizeOf74 rfl rfl)⟩, ⟨_, rfl, Qok_val rfl (Ev_load rfl (Ld_agg Tryd.isAgg74 Tryd.sizeOf74 (len_cu8 hd1) (MemAt.ent 1 rfl (Seg.left (Seg.left (Seg.left (Seg.left (Seg.right 1 0 rfl rfl (Seg.whole _)))))))))⟩, ⟨_, rfl, Qok_val rfl (Ev_indexArr 2 76 49 49 Tryd.underlying113 Tryd.sizeOf76 rfl rfl (by omega) (by omega) (by omega))⟩, ⟨_, rfl, Qok_val rfl (Ev_fieldAddr 1 74 32 Tryd.underlying76 rfl Tryd.sizeOf74 rfl rfl)⟩, ⟨_, rfl, Qok_val rfl (Ev_load rfl (Ld_agg Tryd.isAgg74 Tryd.sizeOf74 (len_cu8 hd2) (MemAt.ent 1 rfl (Seg.left (Seg.right 50 0 (by simp [hd1, ht1]) rfl (Seg.whole _))))))⟩, trivial⟩ rfl (Cok_step rfl (Step_alloc _ (cu8 (zr8 32)) Tryd.zeroValue25 (by kernel_rfl))) ?_
      rintro v1 L1 ⟨nb6, hnb6, rfl, rfl⟩
      refine ⟨[], ?_⟩
      show DP _ _ _ _ _ _ _ _ [⟨nb1, [U64 x, U64 y], 68, (0, 0)⟩, ⟨nb2, [U64 e1] ++ cu8 d1 ++ cu8 t1 ++ [U64 e2] ++ cu8 d2 ++ cu8 t2, 113, (0, 0)⟩, ⟨nb3, [I64 ((a:Int)), I64 (b)], 95, (0, 0)⟩, ⟨nb4, cu8 (zr8 32), 25, (0, 0)⟩, ⟨nb6, cu8 (zr8 32), 25, (0, 0)⟩]
      refine DP_one ⟨[6, 7], [0, 1, 2, 3, 4, 5], [], [0, 1, 2, 3, 4, 5], [8]⟩ 8 _ rfl rfl (by decide +kernel) rfl ⟨⟨_, rfl, Qok_val rfl (Ev_indexArr 2 76 49 0 Tryd.underlying113 Tryd.sizeOf76 rfl rfl (by omega) (by omega) (by omega))⟩, ⟨_, rfl, Qok_val rfl (Ev_fieldAddr 1 74 32 Tryd.underlying76 rfl Tryd.sizeOf74 rfl rfl)⟩, ⟨_, rfl, Qok_val rfl (Ev_load rfl (Ld_agg Tryd.isAgg74 Tryd.sizeOf74 (len_cu8 hd1) (MemAt.ent 1 rfl (Seg.left (Seg.left (Seg.left (Seg.left (Seg.right 1 0 rfl rfl (Seg.whole _)))))))))⟩, ⟨_, rfl, Qok_val rfl (Ev_indexArr 2 76 49 49 Tryd.underlying113 Tryd.sizeOf76 rfl rfl (by omega) (by omega) (by omega))⟩, ⟨_, rfl, Qok_val rfl (Ev_fieldAddr 1 74 32 Tryd.underlying76 rfl Tryd.sizeOf74 rfl rfl)⟩, ⟨_, rfl, Qok_val rfl (Ev_load rfl (Ld_agg Tryd.isAgg74 Tryd.sizeOf74 (len_cu8 hd2) (MemAt.ent 1 rfl (Seg.left (Seg.right 50 0 (by simp [hd1, ht1]) rfl (Seg.whole _))))))⟩, trivial⟩ rfl (Cok_step rfl (Step_store 3 nb4 0 32 (cu8 (zr8 32)) 25 (.agg (cu8 d1).toArray) (cu8 d1) (cu8 d1) rfl rfl rfl (by first | rfl | simp) Tryd.sizeOf25 (len_cu8 hd1) (by first | exact one_u8 | exact one_u32 | exact one_u64 | (simp [cu8, cu32, cu64, Value.oneCell']; done)) (by simp [(zr8_len 32)]) (lay_whole (by simp [(zr8_len 32), hd1])))) ?_
      rintro v1 L1 ⟨rfl, rfl⟩
      refine ⟨[], ?_⟩
      show DP _ _ _ _ _ _ _ _ [⟨nb1, [U64 x, U64 y], 68, (0, 0)⟩, ⟨nb2, [U64 e1] ++ cu8 d1 ++ cu8 t1 ++ [U64 e2] ++ cu8 d2 ++ cu8 t2, 113, (0, 0)⟩, ⟨nb3, [I64 ((a:Int)), I64 (b)], 95, (0, 0)⟩, ⟨nb4, cu8 d1, 25, (0, 0)⟩, ⟨nb6, cu8 (zr8 32), 25, (0, 0)⟩]
      refine DP_one ⟨[6, 7, 8], [0, 1, 2, 3, 4, 5], [0, 1, 2], [3, 4, 5], [9]⟩ 9 _ rfl rfl (by decide +kernel) rfl ⟨⟨_, rfl, Qok_val rfl (Ev_indexArr 2 76 49 49 Tryd.underlying113 Tryd.sizeOf76 rfl rfl (by omega) (by omega) (by omega))⟩, ⟨_, rfl, Qok_val rfl (Ev_fieldAddr 1 74 32 Tryd.underlying76 rfl Tryd.sizeOf74 rfl rfl)⟩, ⟨_, rfl, Qok_val rfl (Ev_load rfl (Ld_agg Tryd.isAgg74 Tryd.sizeOf74 (len_cu8 hd2) (MemAt.ent 1 rfl (Seg.left (Seg.right 50 0 (by simp [hd1, ht1]) rfl (Seg.whole _))))))⟩, trivial⟩ rfl (Cok_step rfl (Step_store 4 nb6 0 32 (cu8 (zr8 32)) 25 (.agg (cu8 d2).toArray) (cu8 d2) (cu8 d2) rfl rfl rfl (by first | rfl | simp) Tryd.sizeOf25 (len_cu8 hd2) (by first | exact one_u8 | exact one_u32 | exact one_u64 | (simp [cu8, cu32, cu64, Value.oneCell']; done)) (by simp [(zr8_len 32)]) (lay_whole (by simp [(zr8_len 32), hd2])))) ?_
      rintro v1 L1 ⟨rfl, rfl⟩
      refine ⟨[], ?_⟩
      show DP _ _ _ _ _ _ _ _ [⟨nb1, [U64 x, U64 y], 68, (0, 0)⟩, ⟨nb2, [U64 e1] ++ cu8 d1 ++ cu8 t1 ++ [U64 e2] ++ cu8 d2 ++ cu8 t2, 113, (0, 0)⟩, ⟨nb3, [I64 ((a:Int)), I64 (b)], 95, (0, 0)⟩, ⟨nb4, cu8 d1, 25, (0, 0)⟩, ⟨nb6, cu8 d2, 25, (0, 0)⟩]
      refine DP_end ⟨[6, 7, 8, 9], [0, 1, 2, 3, 4, 5], [0, 1, 2, 3, 4, 5], [], []⟩ rfl rfl (by decide +kernel) rfl trivial ?_
      refine K_sub (F' := [(11, Ptr nb4 0), (12, Ptr nb6 0), (5, Ptr nb3 0), (6, .bool false), (7, .slice none 0 0), (8, .iface 43 (I64 (1:Int)))]) (Sub.cons (by kernel_rfl) (Sub.cons (by kernel_rfl) (Sub.cons (by kernel_rfl) (Sub.cons (by kernel_rfl) (Sub.cons (by kernel_rfl) (Sub.cons (by kernel_rfl) (Sub.nil))))))) ?_
      show JQ _ _ _ [(11, Ptr nb4 0), (12, Ptr nb6 0), (5, Ptr nb3 0), (6, .bool false), (7, .slice none 0 0), (8, .iface 43 (I64 (1:Int)))] _
      refine K_pick [2, 3, 4] (by decide) ?_
      show JQ _ _ _ _ [⟨nb3, [I64 ((a:Int)), I64 (b)], 95, (0, 0)⟩, ⟨nb4, cu8 d1, 25, (0, 0)⟩, ⟨nb6, cu8 d2, 25, (0, 0)⟩]
      refine JQ_cut (nb4, nb6) trivial (Sub.cons rfl (Sub.cons rfl (Sub.cons rfl (Sub.cons rfl (Sub.cons rfl (Sub.cons rfl (Sub.nil))))))) rfl
    ·
      rintro v1 L1 ⟨nb5, hnb5, rfl, rfl⟩
      refine ⟨[], ?_⟩
      show DP _ _ _ _ _ _ _ _ [⟨nb1, [U64 x, U64 y], 68, (0, 0)⟩, ⟨nb2, [U64 e1] ++ cu8 d1 ++ cu8 t1 ++ [U64 e2] ++ cu8 d2 ++ cu8 t2, 113, (0, 0)⟩, ⟨nb3, [I64 ((a:Int)), I64 (b)], 95, (0, 0)⟩, ⟨nb5, cu8 (zr8 32), 25, (0, 0)⟩]
      refine DP_one ⟨[7], [0, 1, 2, 3, 4, 5], [], [0, 1, 2, 3, 4, 5], [6]⟩ 6 _ rfl rfl (by decide +kernel) rfl ⟨⟨_, rfl, Qok_val rfl (Ev_indexArr 2 76 49 0 Tryd.underlying113 Tryd.sizeOf76 rfl rfl (by omega) (by omega) (by omega))⟩, ⟨_, rfl, Qok_val rfl (Ev_fieldAddr 1 74 32 Tryd.underlying76 rfl Tryd.sizeOf74 rfl rfl)⟩, ⟨_, rfl, Qok_val rfl (Ev_load rfl (Ld_agg Tryd.isAgg74 Tryd.sizeOf74 (len_cu8 hd1) (MemAt.ent 1 rfl (Seg.left (Seg.left (Seg.left (Seg.left (Seg.right 1 0 rfl rfl (Seg.whole _)))))))))⟩, ⟨_, rfl, Qok_val rfl (Ev_indexArr 2 76 49 49 Tryd.underlying113 Tryd.sizeOf76 rfl rfl (by omega) (by omega) (by omega))⟩, ⟨_, rfl, Qok_val rfl (Ev_fieldAddr 1 74 32 Tryd.underlying76 rfl Tryd.sizeOf74 rfl rfl)⟩, ⟨_, rfl, Qok_val rfl (Ev_load rfl (Ld_agg Tryd.isAgg74 Tryd.sizeOf74 (len_cu8 hd2) (MemAt.ent 1 rfl (Seg.left (Seg.right 50 0 (by simp [hd1, ht1]) rfl (Seg.whole _))))))⟩, trivial⟩ rfl (Cok_step rfl (Step_alloc _ (cu8 (zr8 32)) Tryd.zeroValue25 (by kernel_rfl))) ?_
      rintro v1 L1 ⟨nb7, hnb7, rfl, rfl⟩
      refine ⟨[], ?_⟩
      show DP _ _ _ _ _ _ _ _ [⟨nb1, [U64 x, U64 y], 68, (0, 0)⟩, ⟨nb2, [U64 e1] ++ cu8 d1 ++ cu8 t1 ++ [U64 e2] ++ cu8 d2 ++ cu8 t2, 113, (0, 0)⟩, ⟨nb3, [I64 ((a:Int)), I64 (b)], 95, (0, 0)⟩, ⟨nb5, cu8 (zr8 32), 25, (0, 0)⟩, ⟨nb7, cu8 (zr8 32), 25, (0, 0)⟩]
      refine DP_one ⟨[7, 6], [0, 1, 2, 3, 4, 5], [], [0, 1, 2, 3, 4, 5], [8]⟩ 8 _ rfl rfl (by decide +kernel) rfl ⟨⟨_, rfl, Qok_val rfl (Ev_indexArr 2 76 49 0 Tryd.underlying113 Tryd.sizeOf76 rfl rfl (by omega) (by omega) (by omega))⟩, ⟨_, rfl, Qok_val rfl (Ev_fieldAddr 1 74 32 Tryd.underlying76 rfl Tryd.sizeOf74 rfl rfl)⟩, ⟨_, rfl, Qok_val rfl (Ev_load rfl (Ld_agg Tryd.isAgg74 Tryd.sizeOf74 (len_cu8 hd1) (MemAt.ent 1 rfl (Seg.left (Seg.left (Seg.left (Seg.left (Seg.right 1 0 rfl rfl (Seg.whole _)))))))))⟩, ⟨_, rfl, Qok_val rfl (Ev_indexArr 2 76 49 49 Tryd.underlying113 Tryd.sizeOf76 rfl rfl (by omega) (by omega) (by omega))⟩, ⟨_, rfl, Qok_val rfl (Ev_fieldAddr 1 74 32 Tryd.underlying76 rfl Tryd.sizeOf74 rfl rfl)⟩, ⟨_, rfl, Qok_val rfl (Ev_load rfl (Ld_agg Tryd.isAgg74 Tryd.sizeOf74 (len_cu8 hd2) (MemAt.ent 1 rfl (Seg.left (Seg.right 50 0 (by simp [hd1, ht1]) rfl (Seg.whole _))))))⟩, trivial⟩ rfl (Cok_step rfl (Step_store 4 nb7 0 32 (cu8 (zr8 32)) 25 (.agg (cu8 d1).toArray) (cu8 d1) (cu8 d1) rfl rfl rfl (by first | rfl | simp) Tryd.sizeOf25 (len_cu8 hd1) (by first | exact one_u8 | exact one_u32 | exact one_u64 | (simp [cu8, cu32, cu64, Value.oneCell']; done)) (by simp [(zr8_len 32)]) (lay_whole (by simp [(zr8_len 32), hd1])))) ?_
      rintro v1 L1 ⟨rfl, rfl⟩
      refine ⟨[], ?_⟩
      show DP _ _ _ _ _ _ _ _ [⟨nb1, [U64 x, U64 y], 68, (0, 0)⟩, ⟨nb2, [U64 e1] ++ cu8 d1 ++ cu8 t1 ++ [U64 e2] ++ cu8 d2 ++ cu8 t2, 113, (0, 0)⟩, ⟨nb3, [I64 ((a:Int)), I64 (b)], 95, (0, 0)⟩, ⟨nb5, cu8 (zr8 32), 25, (0, 0)⟩, ⟨nb7, cu8 d1, 25, (0, 0)⟩]
      refine DP_one ⟨[7, 6, 8], [0, 1, 2, 3, 4, 5], [0, 1, 2], [3, 4, 5], [9]⟩ 9 _ rfl rfl (by decide +kernel) rfl ⟨⟨_, rfl, Qok_val rfl (Ev_indexArr 2 76 49 49 Tryd.underlying113 Tryd.sizeOf76 rfl rfl (by omega) (by omega) (by omega))⟩, ⟨_, rfl, Qok_val rfl (Ev_fieldAddr 1 74 32 Tryd.underlying76 rfl Tryd.sizeOf74 rfl rfl)⟩, ⟨_, rfl, Qok_val rfl (Ev_load rfl (Ld_agg Tryd.isAgg74 Tryd.sizeOf74 (len_cu8 hd2) (MemAt.ent 1 rfl (Seg.left (Seg.right 50 0 (by simp [hd1, ht1]) rfl (Seg.whole _))))))⟩, trivial⟩ rfl (Cok_step rfl (Step_store 3 nb5 0 32 (cu8 (zr8 32)) 25 (.agg (cu8 d2).toArray) (cu8 d2) (cu8 d2) rfl rfl rfl (by first | rfl | simp) Tryd.sizeOf25 (len_cu8 hd2) (by first | exact one_u8 | exact one_u32 | exact one_u64 | (simp [cu8, cu32, cu64, Value.oneCell']; done)) (by simp [(zr8_len 32)]) (lay_whole (by simp [(zr8_len 32), hd2])))) ?_
      rintro v1 L1 ⟨rfl, rfl⟩
      refine ⟨[], ?_⟩
      show DP _ _ _ _ _ _ _ _ [⟨nb1, [U64 x, U64 y], 68, (0, 0)⟩, ⟨nb2, [U64 e1] ++ cu8 d1 ++ cu8 t1 ++ [U64 e2] ++ cu8 d2 ++ cu8 t2, 113, (0, 0)⟩, ⟨nb3, [I64 ((a:Int)), I64 (b)], 95, (0, 0)⟩, ⟨nb5, cu8 d2, 25, (0, 0)⟩, ⟨nb7, cu8 d1, 25, (0, 0)⟩]
      refine DP_end ⟨[7, 6, 8, 9], [0, 1, 2, 3, 4, 5], [0, 1, 2, 3, 4, 5], [], []⟩ rfl rfl (by decide +kernel) rfl trivial ?_
      refine K_sub (F' := [(11, Ptr nb7 0), (12, Ptr nb5 0), (5, Ptr nb3 0), (6, .bool false), (7, .slice none 0 0), (8, .iface 43 (I64 (1:Int)))]) (Sub.cons (by kernel_rfl) (Sub.cons (by kernel_rfl) (Sub.cons (by kernel_rfl) (Sub.cons (by kernel_rfl) (Sub.cons (by kernel_rfl) (Sub.cons (by kernel_rfl) (Sub.nil))))))) ?_
      show JQ _ _ _ [(11, Ptr nb7 0), (12, Ptr nb5 0), (5, Ptr nb3 0), (6, .bool false), (7, .slice none 0 0), (8, .iface 43 (I64 (1:Int)))] _
      refine K_pick [2, 4, 3] (by decide) ?_
      show JQ _ _ _ _ [⟨nb3, [I64 ((a:Int)), I64 (b)], 95, (0, 0)⟩, ⟨nb7, cu8 d1, 25, (0, 0)⟩, ⟨nb5, cu8 d2, 25, (0, 0)⟩]
      refine JQ_cut (nb7, nb5) trivial (Sub.cons rfl (Sub.cons rfl (Sub.cons rfl (Sub.cons rfl (Sub.cons rfl (Sub.cons rfl (Sub.nil))))))) rfl
  ·
    rintro ⟨ynb0, ynb1⟩ _
    show JQ _ _ _ [(5, Ptr nb3 0), (6, .bool false), (7, .slice none 0 0), (8, .iface 43 (I64 (1:Int))), (11, Ptr ynb0 0), (12, Ptr ynb1 0)] [⟨nb3, [I64 ((a:Int)), I64 (b)], 95, (0, 0)⟩, ⟨ynb0, cu8 d1, 25, (0, 0)⟩, ⟨ynb1, cu8 d2, 25, (0, 0)⟩]
    refine JQ_then ?_
    refine JC_seq ?_
    refine JC_region ?_
    refine JL_val (Ptr nb3 0) (Ev_indexArr 2 3 1 0 Tryd.underlying95 Tryd.sizeOf3 rfl rfl (by omega) (by omega) (by omega)) rfl ?_
    refine JL_val (I64 ((a:Int))) (Ev_load rfl (Ld_one Tryd.isAgg3 (MemAt.ent 0 rfl (Seg.head)))) rfl ?_
    refine JL_val (.agg (cu8 d1).toArray) (Ev_load rfl (Ld_agg Tryd.isAgg25 Tryd.sizeOf25 (len_cu8 hd1) (MemAt.ent 1 rfl (Seg.whole _)))) rfl ?_
    refine JL_val (.agg (cu8 d2).toArray) (Ev_load rfl (Ld_agg Tryd.isAgg25 Tryd.sizeOf25 (len_cu8 hd2) (MemAt.ent 2 rfl (Seg.whole _)))) rfl ?_
    refine JL_step (Step_callN 71 [I64 ((a:Int)), .agg (cu8 d1).toArray, .agg (cu8 d2).toArray] _ (Cl_func [I64 ((a:Int)), .agg (cu8 d1).toArray, .agg (cu8 d2).toArray] Tryd.call71 rfl) (fun w1 hw1 => joinText_c a d1 d2 w1 hd1 hd2 (by omega) (by omega))) rfl ?_
    rintro v1 L1 ⟨_, ⟨nb8, sp1, cp1, rfl, rfl, hc1, hc2, hc3⟩, rfl⟩
    show JL _ _ _ _ ((72, .tuple #[Slc nb8 0 66 cp1, .nilIface]) :: _) [⟨nb3, [I64 ((a:Int)), I64 (b)], 95, (0, 0)⟩, ⟨ynb0, cu8 d1, 25, (0, 0)⟩, ⟨ynb1, cu8 d2, 25, (0, 0)⟩, ⟨nb8, cu8 (joinT a d1 d2) ++ sp1, 5, (0, 0)⟩]
    refine JL_val _ (Ev_move rfl) rfl ?_
    refine JL_val _ (Ev_extract rfl rfl) rfl ?_
    refine JL_val _ (Ev_extract rfl rfl) rfl ?_
    refine JL_val _ (Ev_assign rfl) rfl ?_
    refine JL_val _ (Ev_assign rfl) rfl ?_
    refine JL_nil ?_
    refine JQ_then ?_
    refine JC_seq ?_
    refine JC_region ?_
    refine JL_val (Ptr nb3 1) (Ev_indexArr 2 3 1 1 Tryd.underlying95 Tryd.sizeOf3 rfl rfl (by omega) (by omega) (by omega)) rfl ?_
    refine JL_val (I64 (b)) (Ev_load rfl (Ld_one Tryd.isAgg3 (MemAt.ent 0 rfl (Seg.tail (Seg.head))))) rfl ?_
    refine JL_val (.agg (cu8 d2).toArray) (Ev_load rfl (Ld_agg Tryd.isAgg25 Tryd.sizeOf25 (len_cu8 hd2) (MemAt.ent 2 rfl (Seg.whole _)))) rfl ?_
    refine JL_val (.agg (cu8 d1).toArray) (Ev_load rfl (Ld_agg Tryd.isAgg25 Tryd.sizeOf25 (len_cu8 hd1) (MemAt.ent 1 rfl (Seg.whole _)))) rfl ?_
    refine JL_step (Step_callP 71 [I64 (b), .agg (cu8 d2).toArray, .agg (cu8 d1).toArray] (.tuple #[.slice none 0 0, .iface 43 (I64 (1:Int))]) (Cl_func [I64 (b), .agg (cu8 d2).toArray, .agg (cu8 d1).toArray] Tryd.call71 rfl) (fun w1 hw1 => joinTextB_c (b) d2 d1 w1 hd2 hd1 hb)) rfl ?_
    rintro v1 L1 ⟨rfl, rfl⟩
    show JL _ _ _ _ ((80, .tuple #[.slice none 0 0, .iface 43 (I64 (1:Int))]) :: _) [⟨nb3, [I64 ((a:Int)), I64 (b)], 95, (0, 0)⟩, ⟨ynb0, cu8 d1, 25, (0, 0)⟩, ⟨ynb1, cu8 d2, 25, (0, 0)⟩, ⟨nb8, cu8 (joinT a d1 d2) ++ sp1, 5, (0, 0)⟩]
    refine JL_val _ (Ev_move rfl) rfl ?_
    refine JL_val _ (Ev_extract rfl rfl) rfl ?_
    refine JL_val _ (Ev_extract rfl rfl) rfl ?_
    refine JL_val _ (Ev_assign rfl) rfl ?_
    refine JL_val _ (Ev_assign rfl) rfl ?_
    refine JL_nil ?_
    refine JQ_then ?_
    refine JC_seq ?_
    refine JC_seq ?_
    refine JC_draw 127 1 [(0, .nilIface), (1, .bool true), (2, .bool true), (3, .iface 43 (I64 (1:Int))), (4, .bool false), (5, .bool false), (6, .bool false), (7, undef), (8, undef), (9, undef), (10, undef), (11, undef), (12, undef), (13, undef), (14, undef), (15, undef), (16, undef), (17, undef), (18, undef), (19, undef), (20, undef), (21, undef), (22, undef), (23, .bool false)] Tryd.mixed rfl (by decide +kernel) ?_
    refine DP_end ⟨[], [0, 1, 2, 3, 4, 5, 6, 7, 8, 9, 10, 11, 12, 13, 14, 15, 16, 17, 18, 19, 20, 21, 22, 23], [], [0, 1, 2, 3, 4, 5, 6, 7, 8, 9, 10, 11, 12, 13, 14, 15, 16, 17, 18, 19, 20, 21, 22, 23], []⟩ rfl rfl (by decide +kernel) rfl ⟨⟨_, rfl, Qok_val rfl (Ev_move rfl)⟩, ⟨_, rfl, Qok_val rfl (Ev_bin _ _ _ rfl rfl (fun _ => eqGuard_nn ..) fun _ => eql_if_nil_nil Tryd.underlying39)⟩, ⟨_, rfl, Qok_val rfl (Ev_move rfl)⟩, ⟨_, rfl, Qok_gval 2 85 true _ rfl rfl rfl rfl (Ev_move rfl)⟩, ⟨_, rfl, Qok_gval 2 85 true _ rfl rfl rfl rfl (Ev_bin _ _ _ rfl rfl (fun _ => eqGuard_if ..) fun _ => eql_if_nil Tryd.underlying39)⟩, ⟨_, rfl, Qok_val rfl (Ev_pickT _ rfl rfl rfl)⟩, ⟨_, rfl, Qok_val rfl (Ev_move rfl)⟩, ⟨_, rfl, Qok_gskip 6 89 true _ rfl rfl rfl rfl⟩, ⟨_, rfl, Qok_gskip 6 89 true _ rfl rfl rfl rfl⟩, ⟨_, rfl, Qok_gskip 6 89 true _ rfl rfl rfl rfl⟩, ⟨_, rfl, Qok_gskip 6 89 true _ rfl rfl rfl rfl⟩, ⟨_, rfl, Qok_gskip 6 89 true _ rfl rfl rfl rfl⟩, ⟨_, rfl, Qok_gskip 6 89 true _ rfl rfl rfl rfl⟩, ⟨_, rfl, Qok_gskip 6 89 true _ rfl rfl rfl rfl⟩, ⟨_, rfl, Qok_gskip 6 89 true _ rfl rfl rfl rfl⟩, ⟨_, rfl, Qok_gskip 6 89 true _ rfl rfl rfl rfl⟩, ⟨_, rfl, Qok_gskip 6 89 true _ rfl rfl rfl rfl⟩, ⟨_, rfl, Qok_gskip 6 89 true _ rfl rfl rfl rfl⟩, ⟨_, rfl, Qok_gskipU 17 100 true rfl rfl rfl⟩, ⟨_, rfl, Qok_gskipU 17 100 true rfl rfl rfl⟩, ⟨_, rfl, Qok_gskipU 17 100 true rfl rfl rfl⟩, ⟨_, rfl, Qok_gskip 6 89 true _ rfl rfl rfl rfl⟩, ⟨_, rfl, Qok_gskip 6 89 true _ rfl rfl rfl rfl⟩, ⟨_, rfl, Qok_val rfl (Ev_pickF _ rfl rfl rfl)⟩, trivial⟩ ?_
    refine K_sub (F' := [(106, .bool false), (6, .bool false), (7, .slice none 0 0), (8, .iface 43 (I64 (1:Int))), (13, Slc nb8 0 66 cp1), (14, .nilIface)]) (Sub.cons (by kernel_rfl) (Sub.cons (by kernel_rfl) (Sub.cons (by kernel_rfl) (Sub.cons (by kernel_rfl) (Sub.cons (by kernel_rfl) (Sub.cons (by kernel_rfl) (Sub.nil))))))) ?_
    show JQ _ _ _ [(106, .bool false), (6, .bool false), (7, .slice none 0 0), (8, .iface 43 (I64 (1:Int))), (13, Slc nb8 0 66 cp1), (14, .nilIface)] _
    refine JQ_then ?_
    refine JC_condF _ rfl rfl ?_
    refine JC_skip ?_
    refine JQ_then ?_
    refine JC_seq ?_
    refine JC_region ?_
    refine JL_val _ (Ev_move rfl) rfl ?_
    refine JL_val (.bool true) (Ev_bin _ _ _ rfl rfl (fun _ => eqGuard_if ..) fun _ => neq_if_nil Tryd.underlying39) rfl ?_
    refine JL_val _ (Ev_move rfl) rfl ?_
    refine JL_gskip 2 109 false _ rfl rfl rfl rfl ?_
    refine JL_gskip 2 109 false _ rfl rfl rfl rfl ?_
    refine JL_val _ (Ev_pickT _ rfl rfl rfl) rfl ?_
    refine JL_val _ (Ev_move rfl) rfl ?_
    refine JL_gskip 6 113 false _ rfl rfl rfl rfl ?_
    refine JL_gskip 6 113 false _ rfl rfl rfl rfl ?_
    refine JL_gskip 6 113 false _ rfl rfl rfl rfl ?_
    refine JL_gskip 6 113 false _ rfl rfl rfl rfl ?_
    refine JL_gskip 6 113 false _ rfl rfl rfl rfl ?_
    refine JL_gskip 6 113 false _ rfl rfl rfl rfl ?_
    refine JL_gskipU 12 119 true rfl rfl rfl ?_
    refine JL_gskipU 12 119 true rfl rfl rfl ?_
    refine JL_gskipU 12 119 true rfl rfl rfl ?_
    refine JL_gskipU 12 119 true rfl rfl rfl ?_
    refine JL_gskipU 12 119 true rfl rfl rfl ?_
    refine JL_gskip 6 113 false _ rfl rfl rfl rfl ?_
    refine JL_val _ (Ev_pickT _ rfl rfl rfl) rfl ?_
    refine JL_val _ (Ev_assign rfl) rfl ?_
    refine JL_nil ?_
    refine JQ_then ?_
    refine JC_ret ?_
    refine JQ_ret (.bool true) (res1 Tryd.results20 (RV_tmp rfl)) fun w1 hw1 => ?_
    exact ⟨_, [], rfl, ⟨by rw [show (true) = true from rfl], rfl⟩, hw1.sub (by simp) (by simp)⟩

theorem nodeAp7_c (x y e1 : UInt64) (d1 t1 : List UInt8) (e2 : UInt64) (d2 t2 : List UInt8) (a : Nat) (b : Int)  (w : World) (hd1 : d1.length = 32) (ht1 : t1.length = 16) (hd2 : d2.length = 32) (ht2 : t2.length = 16) (hG : GLs w) (hx : ¬ (4294967295:UInt64) < x) (hy : ¬ (4294967295:UInt64) < y) (ha : 1 ≤ a ∧ a ≤ 32) (hb : b < 1 ∨ 32 < b)  : Calls Tryd.prog 20 #[.agg (List.toArray (α := Value) ([U64 x, U64 y])), .agg (List.toArray (α := Value) ([U64 e1] ++ cu8 d1 ++ cu8 t1 ++ [U64 e2] ++ cu8 d2 ++ cu8 t2)), .agg (List.toArray (α := Value) ([I64 ((a:Int)), I64 (b)]))] w (Post w [] (fun v L => v = .bool true ∧ L = [])) := by
  have hmx : maxLen = 9223372036854775807 := rfl
  refine enter (P := Tryd.prog) (f := 20) (fn := Tryd.f20) w [] 127 [] [.agg (List.toArray (α := Value) ([U64 x, U64 y])), .agg (List.toArray (α := Value) ([U64 e1] ++ cu8 d1 ++ cu8 t1 ++ [U64 e2] ++ cu8 d2 ++ cu8 t2)), .agg (List.toArray (α := Value) ([I64 ((a:Int)), I64 (b)]))] Tryd.func20 rfl rfl (by simp) (Hp.start (by simp) (by simp) (by simp)) ?_
  show JC _ _ _ [(0, .agg (List.toArray (α := Value) ([U64 x, U64 y]))), (1, .agg (List.toArray (α := Value) ([U64 e1] ++ cu8 d1 ++ cu8 t1 ++ [U64 e2] ++ cu8 d2 ++ cu8 t2))), (2, .agg (List.toArray (α := Value) ([I64 ((a:Int)), I64 (b)])))] _
  refine JC_seq ?_
  refine JC_region ?_
  refine JL_step (Step_box (.agg (List.toArray (α := Value) ([U64 x, U64 y]))) ([U64 x, U64 y]) rfl (by first | rfl | simp)) rfl ?_
  rintro v1 L1 ⟨nb1, hnb1, rfl, rfl⟩
  show JL _ _ _ _ ((3, Ptr nb1 0) :: _) [⟨nb1, [U64 x, U64 y], 68, (0, 0)⟩]
  refine JL_step (Step_box (.agg (List.toArray (α := Value) ([U64 e1] ++ cu8 d1 ++ cu8 t1 ++ [U64 e2] ++ cu8 d2 ++ cu8 t2))) ([U64 e1] ++ cu8 d1 ++ cu8 t1 ++ [U64 e2] ++ cu8 d2 ++ cu8 t2) rfl (by first | rfl | simp)) rfl ?_
  rintro v1 L1 ⟨nb2, hnb2, rfl, rfl⟩
  show JL _ _ _ _ ((4, Ptr nb2 0) :: _) [⟨nb1, [U64 x, U64 y], 68, (0, 0)⟩, ⟨nb2, [U64 e1] ++ cu8 d1 ++ cu8 t1 ++ [U64 e2] ++ cu8 d2 ++ cu8 t2, 113, (0, 0)⟩]
  refine JL_step (Step_box (.agg (List.toArray (α := Value) ([I64 ((a:Int)), I64 (b)]))) ([I64 ((a:Int)), I64 (b)]) rfl (by first | rfl | simp)) rfl ?_
  rintro v1 L1 ⟨nb3, hnb3, rfl, rfl⟩
  show JL _ _ _ _ ((5, Ptr nb3 0) :: _) [⟨nb1, [U64 x, U64 y], 68, (0, 0)⟩, ⟨nb2, [U64 e1] ++ cu8 d1 ++ cu8 t1 ++ [U64 e2] ++ cu8 d2 ++ cu8 t2, 113, (0, 0)⟩, ⟨nb3, [I64 ((a:Int)), I64 (b)], 95, (0, 0)⟩]
  refine JL_val _ (Ev_assign rfl) rfl ?_
  refine JL_nil ?_
  refine JQ_then ?_
  refine JC_seq ?_
  refine JC_seq ?_
  refine JC_region ?_
  refine JL_step (Step_callP 69 [] (.bool true) (Cl_func [] Tryd.call69 rfl) (fun w1 hw1 => alive8_c  w1 (hG.at hw1))) rfl ?_
  rintro v1 L1 ⟨rfl, rfl⟩
  show JL _ _ _ _ ((17, .bool true) :: _) [⟨nb1, [U64 x, U64 y], 68, (0, 0)⟩, ⟨nb2, [U64 e1] ++ cu8 d1 ++ cu8 t1 ++ [U64 e2] ++ cu8 d2 ++ cu8 t2, 113, (0, 0)⟩, ⟨nb3, [I64 ((a:Int)), I64 (b)], 95, (0, 0)⟩]
  refine JL_val (.bool (!true)) (Ev_not rfl) rfl ?_
  refine JL_nil ?_
  refine JQ_then ?_
  refine JC_condF _ rfl rfl ?_
  refine JC_skip ?_
  refine JQ_then ?_
  refine JC_seq ?_
  refine JC_region ?_
  refine JL_val (Ptr nb1 0) (Ev_indexArr 2 58 1 0 Tryd.underlying68 Tryd.sizeOf58 rfl rfl (by omega) (by omega) (by omega)) rfl ?_
  refine JL_val (U64 x) (Ev_load rfl (Ld_one Tryd.isAgg58 (MemAt.ent 0 rfl (Seg.head)))) rfl ?_
  refine JL_val (Ptr nb2 0) (Ev_indexArr 2 76 49 0 Tryd.underlying113 Tryd.sizeOf76 rfl rfl (by omega) (by omega) (by omega)) rfl ?_
  refine JL_val (.agg (List.toArray (α := Value) ([U64 e1] ++ cu8 d1 ++ cu8 t1))) (Ev_load rfl (Ld_agg Tryd.isAgg76 Tryd.sizeOf76 (by simp [hd1, ht1]) (MemAt.ent 1 rfl (Seg.split (p := []) (q := [U64 e2] ++ cu8 d2 ++ cu8 t2) (vs := [U64 e1] ++ cu8 d1 ++ cu8 t1) (by first | rfl | (simp only [List.append_assoc, List.nil_append, List.append_nil, List.cons_append]; done)) rfl)))) rfl ?_
  refine JL_step (Step_callN 79 [U64 x, .agg (List.toArray (α := Value) ([U64 e1] ++ cu8 d1 ++ cu8 t1))] _ (Cl_func [U64 x, .agg (List.toArray (α := Value) ([U64 e1] ++ cu8 d1 ++ cu8 t1))] Tryd.call79 rfl) (fun w1 hw1 => leafText_c x e1 d1 t1 w1 hd1 ht1 (shr4z hx))) rfl ?_
  rintro v1 L1 ⟨_, ⟨nb4, sp1, cp1, rfl, rfl, hc1, hc2, hc3⟩, rfl⟩
  show JL _ _ _ _ ((24, .tuple #[Slc nb4 0 61 cp1, .nilIface]) :: _) [⟨nb1, [U64 x, U64 y], 68, (0, 0)⟩, ⟨nb2, [U64 e1] ++ cu8 d1 ++ cu8 t1 ++ [U64 e2] ++ cu8 d2 ++ cu8 t2, 113, (0, 0)⟩, ⟨nb3, [I64 ((a:Int)), I64 (b)], 95, (0, 0)⟩, ⟨nb4, cu8 (leafT x e1 d1 t1) ++ sp1, 5, (0, 0)⟩]
  refine JL_val _ (Ev_move rfl) rfl ?_
  refine JL_val _ (Ev_extract rfl rfl) rfl ?_
  refine JL_val _ (Ev_extract rfl rfl) rfl ?_
  refine JL_val _ (Ev_assign rfl) rfl ?_
  refine JL_val _ (Ev_assign rfl) rfl ?_
  refine JL_nil ?_
  refine JQ_then ?_
  refine JC_seq ?_
  refine JC_region ?_
  refine JL_val (Ptr nb1 1) (Ev_indexArr 2 58 1 1 Tryd.underlying68 Tryd.sizeOf58 rfl rfl (by omega) (by omega) (by omega)) rfl ?_
  refine JL_val (U64 y) (Ev_load rfl (Ld_one Tryd.isAgg58 (MemAt.ent 0 rfl (Seg.tail (Seg.head))))) rfl ?_
  refine JL_val (Ptr nb2 49) (Ev_indexArr 2 76 49 49 Tryd.underlying113 Tryd.sizeOf76 rfl rfl (by omega) (by omega) (by omega)) rfl ?_
  refine JL_val (.agg (List.toArray (α := Value) ([U64 e2] ++ cu8 d2 ++ cu8 t2))) (Ev_load rfl (Ld_agg Tryd.isAgg76 Tryd.sizeOf76 (by simp [hd2, ht2]) (MemAt.ent 1 rfl (Seg.split (p := [U64 e1] ++ cu8 d1 ++ cu8 t1) (q := []) (vs := [U64 e2] ++ cu8 d2 ++ cu8 t2) (by first | rfl | (simp only [List.append_assoc, List.nil_append, List.append_nil, List.cons_append]; done)) (by simp [hd1, ht1]))))) rfl ?_
  refine JL_step (Step_callN 79 [U64 y, .agg (List.toArray (α := Value) ([U64 e2] ++ cu8 d2 ++ cu8 t2))] _ (Cl_func [U64 y, .agg (List.toArray (α := Value) ([U64 e2] ++ cu8 d2 ++ cu8 t2))] Tryd.call79 rfl) (fun w1 hw1 => leafText_c y e2 d2 t2 w1 hd2 ht2 (shr4z hy))) rfl ?_
  rintro v1 L1 ⟨_, ⟨nb5, sp2, cp2, rfl, rfl, hc4, hc5, hc6⟩, rfl⟩
  show JL _ _ _ _ ((32, .tuple #[Slc nb5 0 61 cp2, .nilIface]) :: _) [⟨nb1, [U64 x, U64 y], 68, (0, 0)⟩, ⟨nb2, [U64 e1] ++ cu8 d1 ++ cu8 t1 ++ [U64 e2] ++ cu8 d2 ++ cu8 t2, 113, (0, 0)⟩, ⟨nb3, [I64 ((a:Int)), I64 (b)], 95, (0, 0)⟩, ⟨nb4, cu8 (leafT x e1 d1 t1) ++ sp1, 5, (0, 0)⟩, ⟨nb5, cu8 (leafT y e2 d2 t2) ++ sp2, 5, (0, 0)⟩]
  refine JL_val _ (Ev_move rfl) rfl ?_
  refine JL_val _ (Ev_extract rfl rfl) rfl ?_
  refine JL_val _ (Ev_extract rfl rfl) rfl ?_
  refine JL_val _ (Ev_assign rfl) rfl ?_
  refine JL_val _ (Ev_assign rfl) rfl ?_
  refine JL_nil ?_
  refine JQ_then ?_
  refine JC_seq ?_
  refine JC_seq ?_
  refine JC_cut (ι := Bool) (fun yb0 => [(4, Ptr nb2 0), (5, Ptr nb3 0), (6, .bool false), (7, Slc nb4 0 61 cp1), (8, .nilIface), (60, .bool yb0)]) (fun yb0 => [⟨nb2, [U64 e1] ++ cu8 d1 ++ cu8 t1 ++ [U64 e2] ++ cu8 d2 ++ cu8 t2, 113, (0, 0)⟩, ⟨nb3, [I64 ((a:Int)), I64 (b)], 95, (0, 0)⟩, ⟨nb4, cu8 (leafT x e1 d1 t1) ++ sp1, 5, (0, 0)⟩]) (fun yb0 => yb0 = false) ?_ ?_
  ·
    rcases Bool.eq_false_or_eq_true (decide (x = y)) with hb1 | hb1
    ·
      have hp1 : x = y := of_decide_eq_true hb1
      refine JC_draw 127 1 [(0, .nilIface), (1, .bool true), (2, .bool true), (3, .nilIface), (4, .bool true), (5, .bool true), (6, .bool true), (7, Slc nb4 0 61 cp1), (8, .string (⟨(leafT x e1 d1 t1).toArray⟩ : ByteArray)), (9, Slc nb5 0 61 cp2), (10, .string (⟨(leafT y e2 d2 t2).toArray⟩ : ByteArray)), (11, .bool (decide ((leafT x e1 d1 t1) = (leafT y e2 d2 t2)))), (12, Ptr nb1 0), (13, U64 x), (14, Ptr nb1 1), (15, U64 y), (16, .bool (decide (x = y))), (17, .bool (decide (x = y))), (18, Ptr nb2 0), (19, .agg (List.toArray (α := Value) ([U64 e1] ++ cu8 d1 ++ cu8 t1))), (20, Ptr nb2 49), (21, .agg (List.toArray (α := Value) ([U64 e2] ++ cu8 d2 ++ cu8 t2))), (22, .bool (decide (e1 = e2 ∧ d1 = d2 ∧ t1 = t2))), (23, .bool (decide (e1 = e2 ∧ d1 = d2 ∧ t1 = t2))), (24, .bool (!((decide ((leafT x e1 d1 t1) = (leafT y e2 d2 t2))) == (decide (e1 = e2 ∧ d1 = d2 ∧ t1 = t2))))), (25, .bool (!((decide ((leafT x e1 d1 t1) = (leafT y e2 d2 t2))) == (decide (e1 = e2 ∧ d1 = d2 ∧ t1 = t2)))))] Tryd.mixed rfl (by decide +kernel) ?_
      refine DP_end ⟨[], [0, 1, 2, 3, 4, 5, 6, 7, 8, 9, 10, 11, 12, 13, 14, 15, 16, 17, 18, 19, 20, 21, 22, 23, 24, 25], [], [0, 1, 2, 3, 4, 5, 6, 7, 8, 9, 10, 11, 12, 13, 14, 15, 16, 17, 18, 19, 20, 21, 22, 23, 24, 25], []⟩ rfl rfl (by decide +kernel) rfl ⟨⟨_, rfl, Qok_val rfl (Ev_move rfl)⟩, ⟨_, rfl, Qok_val rfl (Ev_bin _ _ _ rfl rfl (fun _ => eqGuard_nn ..) fun _ => eql_if_nil_nil Tryd.underlying39)⟩, ⟨_, rfl, Qok_val rfl (Ev_move rfl)⟩, ⟨_, rfl, Qok_gval 2 37 true _ rfl rfl rfl rfl (Ev_move rfl)⟩, ⟨_, rfl, Qok_gval 2 37 true _ rfl rfl rfl rfl (Ev_bin _ _ _ rfl rfl (fun _ => eqGuard_nn ..) fun _ => eql_if_nil_nil Tryd.underlying39)⟩, ⟨_, rfl, Qok_val rfl (Ev_pickT _ rfl rfl rfl)⟩, ⟨_, rfl, Qok_val rfl (Ev_move rfl)⟩, ⟨_, rfl, Qok_gval 6 41 true _ rfl rfl rfl rfl (Ev_move rfl)⟩, ⟨_, rfl, Qok_gval 6 41 true _ rfl rfl rfl rfl (Ev_toStr 5 (some ⟨nb4, 0, none⟩) 61 cp1 (leafT x e1 d1 t1) Tryd.underlying22 Tryd.underlying5 Tryd.underlying9 rfl (by simp [(show (leafT x e1 d1 t1).length = 61 from (leafT_len hd1 ht1))]; try omega) (SrcAt.mem (MemAt.ent 3 rfl (Seg.left (Seg.whole _)))))⟩, ⟨_, rfl, Qok_gval 6 41 true _ rfl rfl rfl rfl (Ev_move rfl)⟩, ⟨_, rfl, Qok_gval 6 41 true _ rfl rfl rfl rfl (Ev_toStr 5 (some ⟨nb5, 0, none⟩) 61 cp2 (leafT y e2 d2 t2) Tryd.underlying22 Tryd.underlying5 Tryd.underlying9 rfl (by simp [(show (leafT y e2 d2 t2).length = 61 from (leafT_len hd2 ht2))]; try omega) (SrcAt.mem (MemAt.ent 4 rfl (Seg.left (Seg.whole _)))))⟩, ⟨_, rfl, Qok_gval 6 41 true _ rfl rfl rfl rfl (Ev_bin _ _ _ rfl rfl (fun _ => eqGuard_str ..) fun _ => eql_str)⟩, ⟨_, rfl, Qok_gval 6 41 true _ rfl rfl rfl rfl (Ev_indexArr 2 58 1 0 Tryd.underlying68 Tryd.sizeOf58 rfl rfl (by omega) (by omega) (by omega))⟩, ⟨_, rfl, Qok_gval 6 41 true _ rfl rfl rfl rfl (Ev_load rfl (Ld_one Tryd.isAgg58 (MemAt.ent 0 rfl (Seg.head))))⟩, ⟨_, rfl, Qok_gval 6 41 true _ rfl rfl rfl rfl (Ev_indexArr 2 58 1 1 Tryd.underlying68 Tryd.sizeOf58 rfl rfl (by omega) (by omega) (by omega))⟩, ⟨_, rfl, Qok_gval 6 41 true _ rfl rfl rfl rfl (Ev_load rfl (Ld_one Tryd.isAgg58 (MemAt.ent 0 rfl (Seg.tail (Seg.head)))))⟩, ⟨_, rfl, Qok_gval 6 41 true _ rfl rfl rfl rfl (Ev_bini rfl rfl fun _ => bin_eql_u64 x y)⟩, ⟨_, rfl, Qok_gval 6 41 true _ rfl rfl rfl rfl (Ev_move rfl)⟩, ⟨_, rfl, Qok_gval 17 52 true _ rfl rfl rfl hb1 (Ev_indexArr 2 76 49 0 Tryd.underlying113 Tryd.sizeOf76 rfl rfl (by omega) (by omega) (by omega))⟩, ⟨_, rfl, Qok_gval 17 52 true _ rfl rfl rfl hb1 (Ev_load rfl (Ld_agg Tryd.isAgg76 Tryd.sizeOf76 (by simp [hd1, ht1]) (MemAt.ent 1 rfl (Seg.split (p := []) (q := [U64 e2] ++ cu8 d2 ++ cu8 t2) (vs := [U64 e1] ++ cu8 d1 ++ cu8 t1) (by first | rfl | (simp only [List.append_assoc, List.nil_append, List.append_nil, List.cons_append]; done)) rfl))))⟩, ⟨_, rfl, Qok_gval 17 52 true _ rfl rfl rfl hb1 (Ev_indexArr 2 76 49 49 Tryd.underlying113 Tryd.sizeOf76 rfl rfl (by omega) (by omega) (by omega))⟩, ⟨_, rfl, Qok_gval 17 52 true _ rfl rfl rfl hb1 (Ev_load rfl (Ld_agg Tryd.isAgg76 Tryd.sizeOf76 (by simp [hd2, ht2]) (MemAt.ent 1 rfl (Seg.split (p := [U64 e1] ++ cu8 d1 ++ cu8 t1) (q := []) (vs := [U64 e2] ++ cu8 d2 ++ cu8 t2) (by first | rfl | (simp only [List.append_assoc, List.nil_append, List.append_nil, List.cons_append]; done)) (by simp [hd1, ht1])))))⟩, ⟨_, rfl, Qok_gval 17 52 true _ rfl rfl rfl hb1 (Ev_bin _ _ _ rfl rfl (fun _ => eqGuard_agg _ _ _ _ _ _ (by kernel_rfl)) (eql_struct (e1 = e2 ∧ d1 = d2 ∧ t1 = t2) (EqV.struct (d := 9999) (by kernel_rfl) (by kernel_rfl) (by kernel_rfl) (EqRs.cons 58 0 (U64 e1) (U64 e2) _ _ _ (PartV.one Tryd.isAgg58 (Seg.left (Seg.left (Seg.head)))) (PartV.one Tryd.isAgg58 (Seg.left (Seg.left (Seg.head)))) (EqV.u64 (d := 9998) Tryd.underlying58 e1 e2) (EqRs.cons 74 1 (.agg (cu8 d1).toArray) (.agg (cu8 d2).toArray) _ _ _ (PartV.agg Tryd.isAgg74 Tryd.sizeOf74 (Seg.cut (Seg.left (Seg.right 1 0 rfl rfl (Seg.whole _))) (len_cu8 hd1) (by omega))) (PartV.agg Tryd.isAgg74 Tryd.sizeOf74 (Seg.cut (Seg.left (Seg.right 1 0 rfl rfl (Seg.whole _))) (len_cu8 hd2) (by omega))) (EqV.arr8 (d := 9997) Tryd.underlying74 Tryd.underlying5 Tryd.isAgg5 Tryd.cells5 Tryd.has5 (by simp [hd1]) (by simp [hd2])) (EqRs.last 54 33 (.agg (cu8 t1).toArray) (.agg (cu8 t2).toArray) _ (PartV.agg Tryd.isAgg54 Tryd.sizeOf54 (Seg.cut (Seg.right 33 0 (by simp [hd1]) rfl (Seg.whole _)) (len_cu8 ht1) (by omega))) (PartV.agg Tryd.isAgg54 Tryd.sizeOf54 (Seg.cut (Seg.right 33 0 (by simp [hd2]) rfl (Seg.whole _)) (len_cu8 ht2) (by omega))) (EqV.arr8 (d := 9997) Tryd.underlying54 Tryd.underlying5 Tryd.isAgg5 Tryd.cells5 Tryd.has5 (by simp [ht1]) (by simp [ht2])))))) (by first | rfl | (simp only [Bool.decide_and, Bool.and_assoc]; done) | (simp [Bool.and_assoc]; done))))⟩, ⟨_, rfl, Qok_gval 6 41 true _ rfl rfl rfl rfl (Ev_pickT _ rfl hb1 rfl)⟩, ⟨_, rfl, Qok_gval 6 41 true _ rfl rfl rfl rfl (Ev_bin _ _ _ rfl rfl (fun _ => eqGuard_bool ..) fun _ => neq_bool Tryd.underlying4)⟩, ⟨_, rfl, Qok_val rfl (Ev_pickT _ rfl rfl rfl)⟩, trivial⟩ ?_
      refine K_sub (F' := [(60, .bool (!((decide ((leafT x e1 d1 t1) = (leafT y e2 d2 t2))) == (decide (e1 = e2 ∧ d1 = d2 ∧ t1 = t2))))), (4, Ptr nb2 0), (5, Ptr nb3 0), (6, .bool false), (7, Slc nb4 0 61 cp1), (8, .nilIface)]) (Sub.cons (by kernel_rfl) (Sub.cons (by kernel_rfl) (Sub.cons (by kernel_rfl) (Sub.cons (by kernel_rfl) (Sub.cons (by kernel_rfl) (Sub.cons (by kernel_rfl) (Sub.nil))))))) ?_
      show JQ _ _ _ [(60, .bool (!((decide ((leafT x e1 d1 t1) = (leafT y e2 d2 t2))) == (decide (e1 = e2 ∧ d1 = d2 ∧ t1 = t2))))), (4, Ptr nb2 0), (5, Ptr nb3 0), (6, .bool false), (7, Slc nb4 0 61 cp1), (8, .nilIface)] _
      refine K_pick [1, 2, 3] (by decide) ?_
      show JQ _ _ _ _ [⟨nb2, [U64 e1] ++ cu8 d1 ++ cu8 t1 ++ [U64 e2] ++ cu8 d2 ++ cu8 t2, 113, (0, 0)⟩, ⟨nb3, [I64 ((a:Int)), I64 (b)], 95, (0, 0)⟩, ⟨nb4, cu8 (leafT x e1 d1 t1) ++ sp1, 5, (0, 0)⟩]
      refine JQ_cut (!((decide ((leafT x e1 d1 t1) = (leafT y e2 d2 t2))) == (decide (e1 = e2 ∧ d1 = d2 ∧ t1 = t2)))) (by rw [show ((decide ((leafT x e1 d1 t1) = (leafT y e2 d2 t2))) == (decide (e1 = e2 ∧ d1 = d2 ∧ t1 = t2))) = true from (by have hxy : x = y := of_decide_eq_true hb1; subst hxy; rw [leafT_same hx hd1 hd2]; exact beq_self_eq_true _)] <;> rfl) (Sub.cons rfl (Sub.cons rfl (Sub.cons rfl (Sub.cons rfl (Sub.cons rfl (Sub.cons rfl (Sub.nil))))))) rfl
    ·
      have hp1 : ¬ (x = y) := of_decide_eq_false hb1
      refine JC_draw 127 1 [(0, .nilIface), (1, .bool true), (2, .bool true), (3, .nilIface), (4, .bool true), (5, .bool true), (6, .bool true), (7, Slc nb4 0 61 cp1), (8, .string (⟨(leafT x e1 d1 t1).toArray⟩ : ByteArray)), (9, Slc nb5 0 61 cp2), (10, .string (⟨(leafT y e2 d2 t2).toArray⟩ : ByteArray)), (11, .bool (decide ((leafT x e1 d1 t1) = (leafT y e2 d2 t2)))), (12, Ptr nb1 0), (13, U64 x), (14, Ptr nb1 1), (15, U64 y), (16, .bool (decide (x = y))), (17, .bool (decide (x = y))), (18, undef), (19, undef), (20, undef), (21, undef), (22, undef), (23, .bool false), (24, .bool (!((decide ((leafT x e1 d1 t1) = (leafT y e2 d2 t2))) == false))), (25, .bool (!((decide ((leafT x e1 d1 t1) = (leafT y e2 d2 t2))) == false)))] Tryd.mixed rfl (by decide +kernel) ?_
      refine DP_end ⟨[], [0, 1, 2, 3, 4, 5, 6, 7, 8, 9, 10, 11, 12, 13, 14, 15, 16, 17, 18, 19, 20, 21, 22, 23, 24, 25], [], [0, 1, 2, 3, 4, 5, 6, 7, 8, 9, 10, 11, 12, 13, 14, 15, 16, 17, 18, 19, 20, 21, 22, 23, 24, 25], []⟩ rfl rfl (by decide +kernel) rfl ⟨⟨_, rfl, Qok_val rfl (Ev_move rfl)⟩, ⟨_, rfl, Qok_val rfl (Ev_bin _ _ _ rfl rfl (fun _ => eqGuard_nn ..) fun _ => eql_if_nil_nil Tryd.underlying39)⟩, ⟨_, rfl, Qok_val rfl (Ev_move rfl)⟩, ⟨_, rfl, Qok_gval 2 37 true _ rfl rfl rfl rfl (Ev_move rfl)⟩, ⟨_, rfl, Qok_gval 2 37 true _ rfl rfl rfl rfl (Ev_bin _ _ _ rfl rfl (fun _ => eqGuard_nn ..) fun _ => eql_if_nil_nil Tryd.underlying39)⟩, ⟨_, rfl, Qok_val rfl (Ev_pickT _ rfl rfl rfl)⟩, ⟨_, rfl, Qok_val rfl (Ev_move rfl)⟩, ⟨_, rfl, Qok_gval 6 41 true _ rfl rfl rfl rfl (Ev_move rfl)⟩, ⟨_, rfl, Qok_gval 6 41 true _ rfl rfl rfl rfl (Ev_toStr 5 (some ⟨nb4, 0, none⟩) 61 cp1 (leafT x e1 d1 t1) Tryd.underlying22 Tryd.underlying5 Tryd.underlying9 rfl (by simp [(show (leafT x e1 d1 t1).length = 61 from (leafT_len hd1 ht1))]; try omega) (SrcAt.mem (MemAt.ent 3 rfl (Seg.left (Seg.whole _)))))⟩, ⟨_, rfl, Qok_gval 6 41 true _ rfl rfl rfl rfl (Ev_move rfl)⟩, ⟨_, rfl, Qok_gval 6 41 true _ rfl rfl rfl rfl (Ev_toStr 5 (some ⟨nb5, 0, none⟩) 61 cp2 (leafT y e2 d2 t2) Tryd.underlying22 Tryd.underlying5 Tryd.underlying9 rfl (by simp [(show (leafT y e2 d2 t2).length = 61 from (leafT_len hd2 ht2))]; try omega) (SrcAt.mem (MemAt.ent 4 rfl (Seg.left (Seg.whole _)))))⟩, ⟨_, rfl, Qok_gval 6 41 true _ rfl rfl rfl rfl (Ev_bin _ _ _ rfl rfl (fun _ => eqGuard_str ..) fun _ => eql_str)⟩, ⟨_, rfl, Qok_gval 6 41 true _ rfl rfl rfl rfl (Ev_indexArr 2 58 1 0 Tryd.underlying68 Tryd.sizeOf58 rfl rfl (by omega) (by omega) (by omega))⟩, ⟨_, rfl, Qok_gval 6 41 true _ rfl rfl rfl rfl (Ev_load rfl (Ld_one Tryd.isAgg58 (MemAt.ent 0 rfl (Seg.head))))⟩, ⟨_, rfl, Qok_gval 6 41 true _ rfl rfl rfl rfl (Ev_indexArr 2 58 1 1 Tryd.underlying68 Tryd.sizeOf58 rfl rfl (by omega) (by omega) (by omega))⟩, ⟨_, rfl, Qok_gval 6 41 true _ rfl rfl rfl rfl (Ev_load rfl (Ld_one Tryd.isAgg58 (MemAt.ent 0 rfl (Seg.tail (Seg.head)))))⟩, ⟨_, rfl, Qok_gval 6 41 true _ rfl rfl rfl rfl (Ev_bini rfl rfl fun _ => bin_eql_u64 x y)⟩, ⟨_, rfl, Qok_gval 6 41 true _ rfl rfl rfl rfl (Ev_move rfl)⟩, ⟨_, rfl, Qok_gskip 17 52 true _ rfl rfl rfl hb1⟩, ⟨_, rfl, Qok_gskip 17 52 true _ rfl rfl rfl hb1⟩, ⟨_, rfl, Qok_gskip 17 52 true _ rfl rfl rfl hb1⟩, ⟨_, rfl, Qok_gskip 17 52 true _ rfl rfl rfl hb1⟩, ⟨_, rfl, Qok_gskip 17 52 true _ rfl rfl rfl hb1⟩, ⟨_, rfl, Qok_gval 6 41 true _ rfl rfl rfl rfl (Ev_pickF _ rfl hb1 rfl)⟩, ⟨_, rfl, Qok_gval 6 41 true _ rfl rfl rfl rfl (Ev_bin _ _ _ rfl rfl (fun _ => eqGuard_bool ..) fun _ => neq_bool Tryd.underlying4)⟩, ⟨_, rfl, Qok_val rfl (Ev_pickT _ rfl rfl rfl)⟩, trivial⟩ ?_
      refine K_sub (F' := [(60, .bool (!((decide ((leafT x e1 d1 t1) = (leafT y e2 d2 t2))) == false))), (4, Ptr nb2 0), (5, Ptr nb3 0), (6, .bool false), (7, Slc nb4 0 61 cp1), (8, .nilIface)]) (Sub.cons (by kernel_rfl) (Sub.cons (by kernel_rfl) (Sub.cons (by kernel_rfl) (Sub.cons (by kernel_rfl) (Sub.cons (by kernel_rfl) (Sub.cons (by kernel_rfl) (Sub.nil))))))) ?_
      show JQ _ _ _ [(60, .bool (!((decide ((leafT x e1 d1 t1) = (leafT y e2 d2 t2))) == false))), (4, Ptr nb2 0), (5, Ptr nb3 0), (6, .bool false), (7, Slc nb4 0 61 cp1), (8, .nilIface)] _
      refine K_pick [1, 2, 3] (by decide) ?_
      show JQ _ _ _ _ [⟨nb2, [U64 e1] ++ cu8 d1 ++ cu8 t1 ++ [U64 e2] ++ cu8 d2 ++ cu8 t2, 113, (0, 0)⟩, ⟨nb3, [I64 ((a:Int)), I64 (b)], 95, (0, 0)⟩, ⟨nb4, cu8 (leafT x e1 d1 t1) ++ sp1, 5, (0, 0)⟩]
      refine JQ_cut (!((decide ((leafT x e1 d1 t1) = (leafT y e2 d2 t2))) == false)) (by rw [show ((decide ((leafT x e1 d1 t1) = (leafT y e2 d2 t2))) == false) = true from (by rw [decide_eq_false (fun h => of_decide_eq_false hb1 (leafT_inj hx hy hd1 hd2 h).1)]; rfl)] <;> rfl) (Sub.cons rfl (Sub.cons rfl (Sub.cons rfl (Sub.cons rfl (Sub.cons rfl (Sub.cons rfl (Sub.nil))))))) rfl
  ·
    rintro yb0 hy1
    show JQ _ _ _ [(4, Ptr nb2 0), (5, Ptr nb3 0), (6, .bool false), (7, Slc nb4 0 61 cp1), (8, .nilIface), (60, .bool yb0)] [⟨nb2, [U64 e1] ++ cu8 d1 ++ cu8 t1 ++ [U64 e2] ++ cu8 d2 ++ cu8 t2, 113, (0, 0)⟩, ⟨nb3, [I64 ((a:Int)), I64 (b)], 95, (0, 0)⟩, ⟨nb4, cu8 (leafT x e1 d1 t1) ++ sp1, 5, (0, 0)⟩]
    refine JQ_then ?_
    refine JC_condF _ rfl hy1 ?_
    refine JC_skip ?_
    refine JQ_then ?_
    refine JC_seq ?_
    refine JC_cut (ι := Nat × Nat) (fun ⟨ynb0, ynb1⟩ => [(5, Ptr nb3 0), (6, .bool false), (7, Slc nb4 0 61 cp1), (8, .nilIface), (11, Ptr ynb0 0), (12, Ptr ynb1 0)]) (fun ⟨ynb0, ynb1⟩ => [⟨nb3, [I64 ((a:Int)), I64 (b)], 95, (0, 0)⟩, ⟨nb4, cu8 (leafT x e1 d1 t1) ++ sp1, 5, (0, 0)⟩, ⟨ynb0, cu8 d1, 25, (0, 0)⟩, ⟨ynb1, cu8 d2, 25, (0, 0)⟩]) (fun ⟨ynb0, ynb1⟩ => True) ?_ ?_
    ·
      refine JC_draw 127 5 [(0, Ptr nb2 0), (1, Ptr nb2 1), (2, .agg (cu8 d1).toArray), (3, Ptr nb2 49), (4, Ptr nb2 50), (5, .agg (cu8 d2).toArray)] Tryd.mixed rfl (by decide +kernel) ?_
      refine DP_two ⟨[], [0, 1, 2, 3, 4, 5], [], [0, 1, 2, 3, 4, 5], [6, 7]⟩ 6 7 _ _ rfl rfl (by decide +kernel) rfl ⟨⟨_, rfl, Qok_val rfl (Ev_indexArr 2 76 49 0 Tryd.underlying113 Tryd.sizeOf76 rfl rfl (by omega) (by omega) (by omega))⟩, ⟨_, rfl, Qok_val rfl (Ev_fieldAddr 1 74 32 Tryd.underlying76 rfl Tryd.sizeOf74 rfl rfl)⟩, ⟨_, rfl, Qok_val rfl (Ev_load rfl (Ld_agg Tryd.isAgg74 Tryd.sizeOf74 (len_cu8 hd1) (MemAt.ent 0 rfl (Seg.left (Seg.left (Seg.left (Seg.left (Seg.right 1 0 rfl rfl (Seg.whole _)))))))))⟩, ⟨_, rfl, Qok_val rfl (Ev_indexArr 2 76 49 49 Tryd.underlying113 Tryd.sizeOf76 rfl rfl (by omega) (by omega) (by omega))⟩, ⟨_, rfl, Qok_val rfl (Ev_fieldAddr 1 74 32 Tryd.underlying76 rfl Tryd.sizeOf74 rfl rfl)⟩, ⟨_, rfl, Qok_val rfl (Ev_load rfl (Ld_agg Tryd.isAgg74 Tryd.sizeOf74 (len_cu8 hd2) (MemAt.ent 0 rfl (Seg.left (Seg.right 50 0 (by simp [hd1, ht1]) rfl (Seg.whole _))))))⟩, trivial⟩ rfl rfl (Cok_step rfl (Step_alloc _ (cu8 (zr8 32)) Tryd.zeroValue25 (by kernel_rfl))) (Cok_step rfl (Step_alloc _ (cu8 (zr8 32)) Tryd.zeroValue25 (by kernel_rfl))) ?_ ?_
      ·
        rintro v1 L1 ⟨nb6, hnb6, rfl, rfl⟩
        refine ⟨[], ?_⟩
        show DP _ _ _ _ _ _ _ _ [⟨nb2, [U64 e1] ++ cu8 d1 ++ cu8 t1 ++ [U64 e2] ++ cu8 d2 ++ cu8 t2, 113, (0, 0)⟩, ⟨nb3, [I64 ((a:Int)), I64 (b)], 95, (0, 0)⟩, ⟨nb4, cu8 (leafT x e1 d1 t1) ++ sp1, 5, (0, 0)⟩, ⟨nb6, cu8 (zr8 32), 25, (0, 0)⟩]
        refine DP_one ⟨[6], [0, 1, 2, 3, 4, 5], [], [0, 1, 2, 3, 4, 5], [7]⟩ 7 _ rfl rfl (by decide +kernel) rfl ⟨⟨_, rfl, Qok_val rfl (Ev_indexArr 2 76 49 0 Tryd.underlying113 Tryd.sizeOf76 rfl rfl (by omega) (by omega) (by omega))⟩, ⟨_, rfl, Qok_val rfl (Ev_fieldAddr 1 74 32 Tryd.underlying76 rfl Tryd.sizeOf74 rfl rfl)⟩, ⟨_, rfl, Qok_val rfl (Ev_load rfl (Ld_agg Tryd.isAgg74 Tryd.sizeOf74 (len_cu8 hd1) (MemAt.ent 0 rfl (Seg.left (Seg.left (Seg.left (Seg.left (Seg.right 1 0 rfl rfl (Seg.whole _)))))))))⟩, ⟨_, rfl, Qok_val rfl (Ev_indexArr 2 76 49 49 Tryd.underlying113 Tryd.sizeOf76 rfl rfl (by omega) (by omega) (by omega))⟩, ⟨_, rfl, Qok_val rfl (Ev_fieldAddr 1 74 32 Tryd.underlying76 rfl Tryd.sizeOf74 rfl rfl)⟩, ⟨_, rfl, Qok_val rfl (Ev_load rfl (Ld_agg Tryd.isAgg74 Tryd.sizeOf74 (len_cu8 hd2) (MemAt.ent 0 rfl (Seg.left (Seg.right 50 0 (by simp [hd1, ht1]) rfl (Seg.whole _))))))⟩, trivial⟩ rfl (Cok_step rfl (Step_alloc _ (cu8 (zr8 32)) Tryd.zeroValue25 (by kernel_rfl))) ?_
        rintro v1 L1 ⟨nb8, hnb8, rfl, rfl⟩
        refine ⟨[], ?_⟩
        show DP _ _ _ _ _ _ _ _ [⟨nb2, [U64 e1] ++ cu8 d1 ++ cu8 t1 ++ [U64 e2] ++ cu8 d2 ++ cu8 t2, 113, (0, 0)⟩, ⟨nb3, [I64 ((a:Int)), I64 (b)], 95, (0, 0)⟩, ⟨nb4, cu8 (leafT x e1 d1 t1) ++ sp1, 5, (0, 0)⟩, ⟨nb6, cu8 (zr8 32), 25, (0, 0)⟩, ⟨nb8, cu8 (zr8 32), 25, (0, 0)⟩]
        refine DP_one ⟨[6, 7], [0, 1, 2, 3, 4, 5], [], [0, 1, 2, 3, 4, 5], [8]⟩ 8 _ rfl rfl (by decide +kernel) rfl ⟨⟨_, rfl, Qok_val rfl (Ev_indexArr 2 76 49 0 Tryd.underlying113 Tryd.sizeOf76 rfl rfl (by omega) (by omega) (by omega))⟩, ⟨_, rfl, Qok_val rfl (Ev_fieldAddr 1 74 32 Tryd.underlying76 rfl Tryd.sizeOf74 rfl rfl)⟩, ⟨_, rfl, Qok_val rfl (Ev_load rfl (Ld_agg Tryd.isAgg74 Tryd.sizeOf74 (len_cu8 hd1) (MemAt.ent 0 rfl (Seg.left (Seg.left (Seg.left (Seg.left (Seg.right 1 0 rfl rfl (Seg.whole _)))))))))⟩, ⟨_, rfl, Qok_val rfl (Ev_indexArr 2 76 49 49 Tryd.underlying113 Tryd.sizeOf76 rfl rfl (by omega) (by omega) (by omega))⟩, ⟨_, rfl, Qok_val rfl (Ev_fieldAddr 1 74 32 Tryd.underlying76 rfl Tryd.sizeOf74 rfl rfl)⟩, ⟨_, rfl, Qok_val rfl (Ev_load rfl (Ld_agg Tryd.isAgg74 Tryd.sizeOf74 (len_cu8 hd2) (MemAt.ent 0 rfl (Seg.left (Seg.right 50 0 (by simp [hd1, ht1]) rfl (Seg.whole _))))))⟩, trivial⟩ rfl (Cok_step rfl (Step_store 3 nb6 0 32 (cu8 (zr8 32)) 25 (.agg (cu8 d1).toArray) (cu8 d1) (cu8 d1) rfl rfl rfl (by first | rfl | simp) Tryd.sizeOf25 (len_cu8 hd1) (by first | exact one_u8 | exact one_u32 | exact one_u64 | (simp [cu8, cu32, cu64, Value.oneCell']; done)) (by simp [(zr8_len 32)]) (lay_whole (by simp [(zr8_len 32), hd1])))) ?_
        rintro v1 L1 ⟨rfl, rfl⟩
        refine ⟨[], ?_⟩
        show DP _ _ _ _ _ _ _ _ [⟨nb2, [U64 e1] ++ cu8 d1 ++ cu8 t1 ++ [U64 e2] ++ cu8 d2 ++ cu8 t2, 113, (0, 0)⟩, ⟨nb3, [I64 ((a:Int)), I64 (b)], 95, (0, 0)⟩, ⟨nb4, cu8 (leafT x e1 d1 t1) ++ sp1, 5, (0, 0)⟩, ⟨nb6, cu8 d1, 25, (0, 0)⟩, ⟨nb8, cu8 (zr8 32), 25, (0, 0)⟩]
        refine DP_one ⟨[6, 7, 8], [0, 1, 2, 3, 4, 5], [0, 1, 2], [3, 4, 5], [9]⟩ 9 _ rfl rfl (by decide +kernel) rfl ⟨⟨_, rfl, Qok_val rfl (Ev_indexArr 2 76 49 49 Tryd.underlying113 Tryd.sizeOf76 rfl rfl (by omega) (by omega) (by omega))⟩, ⟨_, rfl, Qok_val rfl (Ev_fieldAddr 1 74 32 Tryd.underlying76 rfl Tryd.sizeOf74 rfl rfl)⟩, ⟨_, rfl, Qok_val rfl (Ev_load rfl (Ld_agg Tryd.isAgg74 Tryd.sizeOf74 (len_cu8 hd2) (MemAt.ent 0 rfl (Seg.left (Seg.right 50 0 (by simp [hd1, ht1]) rfl (Seg.whole _))))))⟩, trivial⟩ rfl (Cok_step rfl (Step_store 4 nb8 0 32 (cu8 (zr8 32)) 25 (.agg (cu8 d2).toArray) (cu8 d2) (cu8 d2) rfl rfl rfl (by first | rfl | simp) Tryd.sizeOf25 (len_cu8 hd2) (by first | exact one_u8 | exact one_u32 | exact one_u64 | (simp [cu8, cu32, cu64, Value.oneCell']; done)) (by simp [(zr8_len 32)]) (lay_whole (by simp [(zr8_len 32), hd2])))) ?_
        rintro v1 L1 ⟨rfl, rfl⟩
        refine ⟨[], ?_⟩
        show DP _ _ _ _ _ _ _ _ [⟨nb2, [U64 e1] ++ cu8 d1 ++ cu8 t1 ++ [U64 e2] ++ cu8 d2 ++ cu8 t2, 113, (0, 0)⟩, ⟨nb3, [I64 ((a:Int)), I64 (b)], 95, (0, 0)⟩, ⟨nb4, cu8 (leafT x e1 d1 t1) ++ sp1, 5, (0, 0)⟩, ⟨nb6, cu8 d1, 25, (0, 0)⟩, ⟨nb8, cu8 d2, 25, (0, 0)⟩]
        refine DP_end ⟨[6, 7, 8, 9], [0, 1, 2, 3, 4, 5], [0, 1, 2, 3, 4, 5], [], []⟩ rfl rfl (by decide +kernel) rfl trivial ?_
        refine K_sub (F' := [(11, Ptr nb6 0), (12, Ptr nb8 0), (5, Ptr nb3 0), (6, .bool false), (7, Slc nb4 0 61 cp1), (8, .nilIface)]) (Sub.cons (by kernel_rfl) (Sub.cons (by kernel_rfl) (Sub.cons (by kernel_rfl) (Sub.cons (by kernel_rfl) (Sub.cons (by kernel_rfl) (Sub.cons (by kernel_rfl) (Sub.nil))))))) ?_
        show JQ _ _ _ [(11, Ptr nb6 0), (12, Ptr nb8 0), (5, Ptr nb3 0), (6, .bool false), (7, Slc nb4 0 61 cp1), (8, .nilIface)] _
        refine K_pick [1, 2, 3, 4] (by decide) ?_
        show JQ _ _ _ _ [⟨nb3, [I64 ((a:Int)), I64 (b)], 95, (0, 0)⟩, ⟨nb4, cu8 (leafT x e1 d1 t1) ++ sp1, 5, (0, 0)⟩, ⟨nb6, cu8 d1, 25, (0, 0)⟩, ⟨nb8, cu8 d2, 25, (0, 0)⟩]
        refine JQ_cut (nb6, nb8) trivial (Sub.cons rfl (Sub.cons rfl (Sub.cons rfl (Sub.cons rfl (Sub.cons rfl (Sub.cons rfl (Sub.nil))))))) rfl
      ·
        rintro v1 L1 ⟨nb7, hnb7, rfl, rfl⟩
        refine ⟨[], ?_⟩
        show DP _ _ _ _ _ _ _ _ [⟨nb2, [U64 e1] ++ cu8 d1 ++ cu8 t1 ++ [U64 e2] ++ cu8 d2 ++ cu8 t2, 113, (0, 0)⟩, ⟨nb3, [I64 ((a:Int)), I64 (b)], 95, (0, 0)⟩, ⟨nb4, cu8 (leafT x e1 d1 t1) ++ sp1, 5, (0, 0)⟩, ⟨nb7, cu8 (zr8 32), 25, (0, 0)⟩]
        refine DP_one ⟨[7], [0, 1, 2, 3, 4, 5], [], [0, 1, 2, 3, 4, 5], [6]⟩ 6 _ rfl rfl (by decide +kernel) rfl ⟨⟨_, rfl, Qok_val rfl (Ev_indexArr 2 76 49 0 Tryd.underlying113 Tryd.sizeOf76 rfl rfl (by omega) (by omega) (by omega))⟩, ⟨_, rfl, Qok_val rfl (Ev_fieldAddr 1 74 32 Tryd.underlying76 rfl Tryd.sizeOf74 rfl rfl)⟩, ⟨_, rfl, Qok_val rfl (Ev_load rfl (Ld_agg Tryd.isAgg74 Tryd.sizeOf74 (len_cu8 hd1) (MemAt.ent 0 rfl (Seg.left (Seg.left (Seg.left (Seg.left (Seg.right 1 0 rfl rfl (Seg.whole _)))))))))⟩, ⟨_, rfl, Qok_val rfl (Ev_indexArr 2 76 49 49 Tryd.underlying113 Tryd.sizeOf76 rfl rfl (by omega) (by omega) (by omega))⟩, ⟨_, rfl, Qok_val rfl (Ev_fieldAddr 1 74 32 Tryd.underlying76 rfl Tryd.sizeOf74 rfl rfl)⟩, ⟨_, rfl, Qok_val rfl (Ev_load rfl (Ld_agg Tryd.isAgg74 Tryd.sizeOf74 (len_cu8 hd2) (MemAt.ent 0 rfl (Seg.left (Seg.right 50 0 (by simp [hd1, ht1]) rfl (Seg.whole _))))))⟩, trivial⟩ rfl (Cok_step rfl (Step_alloc _ (cu8 (zr8 32)) Tryd.zeroValue25 (by kernel_rfl))) ?_
        rintro v1 L1 ⟨nb9, hnb9, rfl, rfl⟩
        refine ⟨[], ?_⟩
        show DP _ _ _ _ _ _ _ _ [⟨nb2, [U64 e1] ++ cu8 d1 ++ cu8 t1 ++ [U64 e2] ++ cu8 d2 ++ cu8 t2, 113, (0, 0)⟩, ⟨nb3, [I64 ((a:Int)), I64 (b)], 95, (0, 0)⟩, ⟨nb4, cu8 (leafT x e1 d1 t1) ++ sp1, 5, (0, 0)⟩, ⟨nb7, cu8 (zr8 32), 25, (0, 0)⟩, ⟨nb9, cu8 (zr8 32), 25, (0, 0)⟩]
        refine DP_one ⟨[7, 6], [0, 1, 2, 3, 4, 5], [], [0, 1, 2, 3, 4, 5], [8]⟩ 8 _ rfl rfl (by decide +kernel) rfl ⟨⟨_, rfl, Qok_val rfl (Ev_indexArr 2 76 49 0 Tryd.underlying113 Tryd.sizeOf76 rfl rfl (by omega) (by omega) (by omega))⟩, ⟨_, rfl, Qok_val rfl (Ev_fieldAddr 1 74 32 Tryd.underlying76 rfl Tryd.sizeOf74 rfl rfl)⟩, ⟨_, rfl, Qok_val rfl (Ev_load rfl (Ld_agg Tryd.isAgg74 Tryd.sizeOf74 (len_cu8 hd1) (MemAt.ent 0 rfl (Seg.left (Seg.left (Seg.left (Seg.left (Seg.right 1 0 rfl rfl (Seg.whole _)))))))))⟩, ⟨_, rfl, Qok_val rfl (Ev_indexArr 2 76 49 49 Tryd.underlying113 Tryd.sizeOf76 rfl rfl (by omega) (by omega) (by omega))⟩, ⟨_, rfl, Qok_val rfl (Ev_fieldAddr 1 74 32 Tryd.underlying76 rfl Tryd.sizeOf74 rfl rfl)⟩, ⟨_, rfl, Qok_val rfl (Ev_load rfl (Ld_agg Tryd.isAgg74 Tryd.sizeOf74 (len_cu8 hd2) (MemAt.ent 0 rfl (Seg.left (Seg.right 50 0 (by simp [hd1, ht1]) rfl (Seg.whole _))))))⟩, trivial⟩ rfl (Cok_step rfl (Step_store 4 nb9 0 32 (cu8 (zr8 32)) 25 (.agg (cu8 d1).toArray) (cu8 d1) (cu8 d1) rfl rfl rfl (by first | rfl | simp) Tryd.sizeOf25 (len_cu8 hd1) (by first | exact one_u8 | exact one_u32 | exact one_u64 | (simp [cu8, cu32, cu64, Value.oneCell']; done)) (by simp [(zr8_len 32)]) (lay_whole (by simp [(zr8_len 32), hd1])))) ?_
        rintro v1 L1 ⟨rfl, rfl⟩
        refine ⟨[], ?_⟩
        show DP _ _ _ _ _ _ _ _ [⟨nb2, [U64 e1] ++ cu8 d1 ++ cu8 t1 ++ [U64 e2] ++ cu8 d2 ++ cu8 t2, 113, (0, 0)⟩, ⟨nb3, [I64 ((a:Int)), I64 (b)], 95, (0, 0)⟩, ⟨nb4, cu8 (leafT x e1 d1 t1) ++ sp1, 5, (0, 0)⟩, ⟨nb7, cu8 (zr8 32), 25, (0, 0)⟩, ⟨nb9, cu8 d1, 25, (0, 0)⟩]
        refine DP_one ⟨[7, 6, 8], [0, 1, 2, 3, 4, 5], [0, 1, 2], [3, 4, 5], [9]⟩ 9 _ rfl rfl (by decide +kernel) rfl ⟨⟨_, rfl, Qok_val rfl (Ev_indexArr 2 76 49 49 Tryd.underlying113 Tryd.sizeOf76 rfl rfl (by omega) (by omega) (by omega))⟩, ⟨_, rfl, Qok_val rfl (Ev_fieldAddr 1 74 32 Tryd.underlying76 rfl Tryd.sizeOf74 rfl rfl)⟩, ⟨_, rfl, Qok_val rfl (Ev_load rfl (Ld_agg Tryd.isAgg74 Tryd.sizeOf74 (len_cu8 hd2) (MemAt.ent 0 rfl (Seg.left (Seg.right 50 0 (by simp [hd1, ht1]) rfl (Seg.whole _))))))⟩, trivial⟩ rfl (Cok_step rfl (Step_store 3 nb7 0 32 (cu8 (zr8 32)) 25 (.agg (cu8 d2).toArray) (cu8 d2) (cu8 d2) rfl rfl rfl (by first | rfl | simp) Tryd.sizeOf25 (len_cu8 hd2) (by first | exact one_u8 | exact one_u32 | exact one_u64 | (simp [cu8, cu32, cu64, Value.oneCell']; done)) (by simp [(zr8_len 32)]) (lay_whole (by simp [(zr8_len 32), hd2])))) ?_
        rintro v1 L1 ⟨rfl, rfl⟩
        refine ⟨[], ?_⟩
        show DP _ _ _ _ _ _ _ _ [⟨nb2, [U64 e1] ++ cu8 d1 ++ cu8 t1 ++ [U64 e2] ++ cu8 d2 ++ cu8 t2, 113, (0, 0)⟩, ⟨nb3, [I64 ((a:Int)), I64 (b)], 95, (0, 0)⟩, ⟨nb4, cu8 (leafT x e1 d1 t1) ++ sp1, 5, (0, 0)⟩, ⟨nb7, cu8 d2, 25, (0, 0)⟩, ⟨nb9, cu8 d1, 25, (0, 0)⟩]
        refine DP_end ⟨[7, 6, 8, 9], [0, 1, 2, 3, 4, 5], [0, 1, 2, 3, 4, 5], [], []⟩ rfl rfl (by decide +kernel) rfl trivial ?_
        refine K_sub (F' := [(11, Ptr nb9 0), (12, Ptr nb7 0), (5, Ptr nb3 0), (6, .bool false), (7, Slc nb4 0 61 cp1), (8, .nilIface)]) (Sub.cons (by kernel_rfl) (Sub.cons (by kernel_rfl) (Sub.cons (by kernel_rfl) (Sub.cons (by kernel_rfl) (Sub.cons (by kernel_rfl) (Sub.cons (by kernel_rfl) (Sub.nil))))))) ?_
        show JQ _ _ _ [(11, Ptr nb9 0), (12, Ptr nb7 0), (5, Ptr nb3 0), (6, .bool false), (7, Slc nb4 0 61 cp1), (8, .nilIface)] _
        refine K_pick [1, 2, 4, 3] (by decide) ?_
        show JQ _ _ _ _ [⟨nb3, [I64 ((a:Int)), I64 (b)], 95, (0, 0)⟩, ⟨nb4, cu8 (leafT x e1 d1 t1) ++ sp1, 5, (0, 0)⟩, ⟨nb9, cu8 d1, 25, (0, 0)⟩, ⟨nb7, cu8 d2, 25, (0, 0)⟩]
        refine JQ_cut (nb9, nb7) trivial (Sub.cons rfl (Sub.cons rfl (Sub.cons rfl (Sub.cons rfl (Sub.cons rfl (Sub.cons rfl (Sub.nil))))))) rfl
    ·
      rintro ⟨ynb0, ynb1⟩ _
      show JQ _ _ _ [(5, Ptr nb3 0), (6, .bool false), (7, Slc nb4 0 61 cp1), (8, .nilIface), (11, Ptr ynb0 0), (12, Ptr ynb1 0)] [⟨nb3, [I64 ((a:Int)), I64 (b)], 95, (0, 0)⟩, ⟨nb4, cu8 (leafT x e1 d1 t1) ++ sp1, 5, (0, 0)⟩, ⟨ynb0, cu8 d1, 25, (0, 0)⟩, ⟨ynb1, cu8 d2, 25, (0, 0)⟩]
      refine JQ_then ?_
      refine JC_seq ?_
      refine JC_region ?_
      refine JL_val (Ptr nb3 0) (Ev_indexArr 2 3 1 0 Tryd.underlying95 Tryd.sizeOf3 rfl rfl (by omega) (by omega) (by omega)) rfl ?_
      refine JL_val (I64 ((a:Int))) (Ev_load rfl (Ld_one Tryd.isAgg3 (MemAt.ent 0 rfl (Seg.head)))) rfl ?_
      refine JL_val (.agg (cu8 d1).toArray) (Ev_load rfl (Ld_agg Tryd.isAgg25 Tryd.sizeOf25 (len_cu8 hd1) (MemAt.ent 2 rfl (Seg.whole _)))) rfl ?_
      refine JL_val (.agg (cu8 d2).toArray) (Ev_load rfl (Ld_agg Tryd.isAgg25 Tryd.sizeOf25 (len_cu8 hd2) (MemAt.ent 3 rfl (Seg.whole _)))) rfl ?_
      refine JL_step (Step_callN 71 [I64 ((a:Int)), .agg (cu8 d1).toArray, .agg (cu8 d2).toArray] _ (Cl_func [I64 ((a:Int)), .agg (cu8 d1).toArray, .agg (cu8 d2).toArray] Tryd.call71 rfl) (fun w1 hw1 => joinText_c a d1 d2 w1 hd1 hd2 (by omega) (by omega))) rfl ?_
      rintro v1 L1 ⟨_, ⟨nb10, sp3, cp3, rfl, rfl, hc7, hc8, hc9⟩, rfl⟩
      show JL _ _ _ _ ((72, .tuple #[Slc nb10 0 66 cp3, .nilIface]) :: _) [⟨nb3, [I64 ((a:Int)), I64 (b)], 95, (0, 0)⟩, ⟨nb4, cu8 (leafT x e1 d1 t1) ++ sp1, 5, (0, 0)⟩, ⟨ynb0, cu8 d1, 25, (0, 0)⟩, ⟨ynb1, cu8 d2, 25, (0, 0)⟩, ⟨nb10, cu8 (joinT a d1 d2) ++ sp3, 5, (0, 0)⟩]
      refine JL_val _ (Ev_move rfl) rfl ?_
      refine JL_val _ (Ev_extract rfl rfl) rfl ?_
      refine JL_val _ (Ev_extract rfl rfl) rfl ?_
      refine JL_val _ (Ev_assign rfl) rfl ?_
      refine JL_val _ (Ev_assign rfl) rfl ?_
      refine JL_nil ?_
      refine JQ_then ?_
      refine JC_seq ?_
      refine JC_region ?_
      refine JL_val (Ptr nb3 1) (Ev_indexArr 2 3 1 1 Tryd.underlying95 Tryd.sizeOf3 rfl rfl (by omega) (by omega) (by omega)) rfl ?_
      refine JL_val (I64 (b)) (Ev_load rfl (Ld_one Tryd.isAgg3 (MemAt.ent 0 rfl (Seg.tail (Seg.head))))) rfl ?_
      refine JL_val (.agg (cu8 d2).toArray) (Ev_load rfl (Ld_agg Tryd.isAgg25 Tryd.sizeOf25 (len_cu8 hd2) (MemAt.ent 3 rfl (Seg.whole _)))) rfl ?_
      refine JL_val (.agg (cu8 d1).toArray) (Ev_load rfl (Ld_agg Tryd.isAgg25 Tryd.sizeOf25 (len_cu8 hd1) (MemAt.ent 2 rfl (Seg.whole _)))) rfl ?_
      refine JL_step (Step_callP 71 [I64 (b), .agg (cu8 d2).toArray, .agg (cu8 d1).toArray] (.tuple #[.slice none 0 0, .iface 43 (I64 (1:Int))]) (Cl_func [I64 (b), .agg (cu8 d2).toArray, .agg (cu8 d1).toArray] Tryd.call71 rfl) (fun w1 hw1 => joinTextB_c (b) d2 d1 w1 hd2 hd1 hb)) rfl ?_
      rintro v1 L1 ⟨rfl, rfl⟩
      show JL _ _ _ _ ((80, .tuple #[.slice none 0 0, .iface 43 (I64 (1:Int))]) :: _) [⟨nb3, [I64 ((a:Int)), I64 (b)], 95, (0, 0)⟩, ⟨nb4, cu8 (leafT x e1 d1 t1) ++ sp1, 5, (0, 0)⟩, ⟨ynb0, cu8 d1, 25, (0, 0)⟩, ⟨ynb1, cu8 d2, 25, (0, 0)⟩, ⟨nb10, cu8 (joinT a d1 d2) ++ sp3, 5, (0, 0)⟩]
      refine JL_val _ (Ev_move rfl) rfl ?_
      refine JL_val _ (Ev_extract rfl rfl) rfl ?_
      refine JL_val _ (Ev_extract rfl rfl) rfl ?_
      refine JL_val _ (Ev_assign rfl) rfl ?_
      refine JL_val _ (Ev_assign rfl) rfl ?_
      refine JL_nil ?_
      refine JQ_then ?_
      refine JC_seq ?_
      refine JC_seq ?_
      refine JC_draw 127 1 [(0, .nilIface), (1, .bool true), (2, .bool true), (3, .iface 43 (I64 (1:Int))), (4, .bool false), (5, .bool false), (6, .bool false), (7, undef), (8, undef), (9, undef), (10, undef), (11, undef), (12, undef), (13, undef), (14, undef), (15, undef), (16, undef), (17, undef), (18, undef), (19, undef), (20, undef), (21, undef), (22, undef), (23, .bool false)] Tryd.mixed rfl (by decide +kernel) ?_
      refine DP_end ⟨[], [0, 1, 2, 3, 4, 5, 6, 7, 8, 9, 10, 11, 12, 13, 14, 15, 16, 17, 18, 19, 20, 21, 22, 23], [], [0, 1, 2, 3, 4, 5, 6, 7, 8, 9, 10, 11, 12, 13, 14, 15, 16, 17, 18, 19, 20, 21, 22, 23], []⟩ rfl rfl (by decide +kernel) rfl ⟨⟨_, rfl, Qok_val rfl (Ev_move rfl)⟩, ⟨_, rfl, Qok_val rfl (Ev_bin _ _ _ rfl rfl (fun _ => eqGuard_nn ..) fun _ => eql_if_nil_nil Tryd.underlying39)⟩, ⟨_, rfl, Qok_val rfl (Ev_move rfl)⟩, ⟨_, rfl, Qok_gval 2 85 true _ rfl rfl rfl rfl (Ev_move rfl)⟩, ⟨_, rfl, Qok_gval 2 85 true _ rfl rfl rfl rfl (Ev_bin _ _ _ rfl rfl (fun _ => eqGuard_if ..) fun _ => eql_if_nil Tryd.underlying39)⟩, ⟨_, rfl, Qok_val rfl (Ev_pickT _ rfl rfl rfl)⟩, ⟨_, rfl, Qok_val rfl (Ev_move rfl)⟩, ⟨_, rfl, Qok_gskip 6 89 true _ rfl rfl rfl rfl⟩, ⟨_, rfl, Qok_gskip 6 89 true _ rfl rfl rfl rfl⟩, ⟨_, rfl, Qok_gskip 6 89 true _ rfl rfl rfl rfl⟩, ⟨_, rfl, Qok_gskip 6 89 true _ rfl rfl rfl rfl⟩, ⟨_, rfl, Qok_gskip 6 89 true _ rfl rfl rfl rfl⟩, ⟨_, rfl, Qok_gskip 6 89 true _ rfl rfl rfl rfl⟩, ⟨_, rfl, Qok_gskip 6 89 true _ rfl rfl rfl rfl⟩, ⟨_, rfl, Qok_gskip 6 89 true _ rfl rfl rfl rfl⟩, ⟨_, rfl, Qok_gskip 6 89 true _ rfl rfl rfl rfl⟩, ⟨_, rfl, Qok_gskip 6 89 true _ rfl rfl rfl rfl⟩, ⟨_, rfl, Qok_gskip 6 89 true _ rfl rfl rfl rfl⟩, ⟨_, rfl, Qok_gskipU 17 100 true rfl rfl rfl⟩, ⟨_, rfl, Qok_gskipU 17 100 true rfl rfl rfl⟩, ⟨_, rfl, Qok_gskipU 17 100 true rfl rfl rfl⟩, ⟨_, rfl, Qok_gskip 6 89 true _ rfl rfl rfl rfl⟩, ⟨_, rfl, Qok_gskip 6 89 true _ rfl rfl rfl rfl⟩, ⟨_, rfl, Qok_val rfl (Ev_pickF _ rfl rfl rfl)⟩, trivial⟩ ?_
      refine K_sub (F' := [(106, .bool false), (6, .bool false), (7, Slc nb4 0 61 cp1), (8, .nilIface), (13, Slc nb10 0 66 cp3), (14, .nilIface)]) (Sub.cons (by kernel_rfl) (Sub.cons (by kernel_rfl) (Sub.cons (by kernel_rfl) (Sub.cons (by kernel_rfl) (Sub.cons (by kernel_rfl) (Sub.cons (by kernel_rfl) (Sub.nil))))))) ?_
      show JQ _ _ _ [(106, .bool false), (6, .bool false), (7, Slc nb4 0 61 cp1), (8, .nilIface), (13, Slc nb10 0 66 cp3), (14, .nilIface)] _
      refine JQ_then ?_
      refine JC_condF _ rfl rfl ?_
      refine JC_skip ?_
      refine JQ_then ?_
      refine JC_seq ?_
      refine JC_region ?_
      refine JL_val _ (Ev_move rfl) rfl ?_
      refine JL_val (.bool false) (Ev_bin _ _ _ rfl rfl (fun _ => eqGuard_nn ..) fun _ => neq_if_nil_nil Tryd.underlying39) rfl ?_
      refine JL_val _ (Ev_move rfl) rfl ?_
      refine JL_gval 2 109 false _ _ rfl rfl rfl (Ev_move rfl) rfl ?_
      refine JL_gval 2 109 false _ (.bool false) rfl rfl rfl (Ev_bin _ _ _ rfl rfl (fun _ => eqGuard_nn ..) fun _ => neq_if_nil_nil Tryd.underlying39) rfl ?_
      refine JL_val _ (Ev_pickF _ rfl rfl rfl) rfl ?_
      refine JL_val _ (Ev_move rfl) rfl ?_
      refine JL_gval 6 113 false _ _ rfl rfl rfl (Ev_move rfl) rfl ?_
      refine JL_gval 6 113 false _ (.string (⟨(leafT x e1 d1 t1).toArray⟩ : ByteArray)) rfl rfl rfl (Ev_toStr 5 (some ⟨nb4, 0, none⟩) 61 cp1 (leafT x e1 d1 t1) Tryd.underlying22 Tryd.underlying5 Tryd.underlying9 rfl (by simp [(show (leafT x e1 d1 t1).length = 61 from (leafT_len hd1 ht1))]; try omega) (SrcAt.mem (MemAt.ent 1 rfl (Seg.left (Seg.whole _))))) rfl ?_
      refine JL_gval 6 113 false _ _ rfl rfl rfl (Ev_move rfl) rfl ?_
      refine JL_gval 6 113 false _ (.string (⟨(joinT a d1 d2).toArray⟩ : ByteArray)) rfl rfl rfl (Ev_toStr 5 (some ⟨nb10, 0, none⟩) 66 cp3 (joinT a d1 d2) Tryd.underlying22 Tryd.underlying5 Tryd.underlying9 rfl (by simp [(show (joinT a d1 d2).length = 66 from (joinT_len hd1 hd2))]; try omega) (SrcAt.mem (MemAt.ent 4 rfl (Seg.left (Seg.whole _))))) rfl ?_
      refine JL_gval 6 113 false _ (.bool (decide ((leafT x e1 d1 t1) ≠ (joinT a d1 d2)))) rfl rfl rfl (Ev_bin _ _ _ rfl rfl (fun _ => eqGuard_str ..) fun _ => neq_str) rfl ?_
      refine JL_gval 6 113 false _ _ rfl rfl rfl (Ev_move rfl) rfl ?_
      refine JL_gval 12 119 true _ _ rfl rfl (decide_eq_true (leaf_join hd1 ht1 hd1 hd2)) (Ev_move rfl) rfl ?_
      refine JL_gstep 12 119 true _ rfl rfl (decide_eq_true (leaf_join hd1 ht1 hd1 hd2)) (Step_callP 76 [Slc nb4 0 61 cp1] (I64 ((kindN (leafT x e1 d1 t1):Int))) (Cl_func [Slc nb4 0 61 cp1] Tryd.call76 rfl) (fun w1 hw1 => kind_c (some ⟨nb4, 0, none⟩) 61 cp1 (leafT x e1 d1 t1) w1 (show (leafT x e1 d1 t1).length = 61 from (leafT_len hd1 ht1)) (RdB.of hw1 (MemAt.ent 1 rfl (Seg.left (Seg.whole _))) (by simp)))) rfl ?_
      rintro v1 L1 ⟨rfl, rfl⟩
      show JL _ _ _ _ ((121, I64 ((kindN (leafT x e1 d1 t1):Int))) :: _) [⟨nb3, [I64 ((a:Int)), I64 (b)], 95, (0, 0)⟩, ⟨nb4, cu8 (leafT x e1 d1 t1) ++ sp1, 5, (0, 0)⟩, ⟨ynb0, cu8 d1, 25, (0, 0)⟩, ⟨ynb1, cu8 d2, 25, (0, 0)⟩, ⟨nb10, cu8 (joinT a d1 d2) ++ sp3, 5, (0, 0)⟩]
      refine JL_gval 12 119 true _ _ rfl rfl (decide_eq_true (leaf_join hd1 ht1 hd1 hd2)) (Ev_move rfl) rfl ?_
      refine JL_gstep 12 119 true _ rfl rfl (decide_eq_true (leaf_join hd1 ht1 hd1 hd2)) (Step_callP 76 [Slc nb10 0 66 cp3] (I64 ((kindN (joinT a d1 d2):Int))) (Cl_func [Slc nb10 0 66 cp3] Tryd.call76 rfl) (fun w1 hw1 => kind_c (some ⟨nb10, 0, none⟩) 66 cp3 (joinT a d1 d2) w1 (show (joinT a d1 d2).length = 66 from (joinT_len hd1 hd2)) (RdB.of hw1 (MemAt.ent 4 rfl (Seg.left (Seg.whole _))) (by simp)))) rfl ?_
      rintro v1 L1 ⟨rfl, rfl⟩
      show JL _ _ _ _ ((123, I64 ((kindN (joinT a d1 d2):Int))) :: _) [⟨nb3, [I64 ((a:Int)), I64 (b)], 95, (0, 0)⟩, ⟨nb4, cu8 (leafT x e1 d1 t1) ++ sp1, 5, (0, 0)⟩, ⟨ynb0, cu8 d1, 25, (0, 0)⟩, ⟨ynb1, cu8 d2, 25, (0, 0)⟩, ⟨nb10, cu8 (joinT a d1 d2) ++ sp3, 5, (0, 0)⟩]
      refine JL_gval 12 119 true _ (.bool (decide (((kindN (leafT x e1 d1 t1):Int)) ≠ ((kindN (joinT a d1 d2):Int))))) rfl rfl (decide_eq_true (leaf_join hd1 ht1 hd1 hd2)) (Ev_bini rfl rfl fun _ => bin_neq_i _ _) rfl ?_
      refine JL_gval 6 113 false _ _ rfl rfl rfl (Ev_pickT _ rfl (decide_eq_true (leaf_join hd1 ht1 hd1 hd2)) rfl) rfl ?_
      refine JL_val _ (Ev_pickF _ rfl rfl rfl) rfl ?_
      refine JL_val _ (Ev_assign rfl) rfl ?_
      refine JL_nil ?_
      refine JQ_then ?_
      refine JC_ret ?_
      refine JQ_ret (.bool (decide (((kindN (leafT x e1 d1 t1):Int)) ≠ ((kindN (joinT a d1 d2):Int))))) (res1 Tryd.results20 (RV_tmp rfl)) fun w1 hw1 => ?_
      exact ⟨_, [], rfl, ⟨by rw [show (decide (((kindN (leafT x e1 d1 t1):Int)) ≠ ((kindN (joinT a d1 d2):Int)))) = true from (decide_eq_true (by rw [kind_leaf hd1 ht1, kind_join hd1 hd2 ha.1 ha.2]; decide))], rfl⟩, hw1.sub (by simp) (by simp)⟩

theorem nodeAp8_c (x y e1 : UInt64) (d1 t1 : List UInt8) (e2 : UInt64) (d2 t2 : List UInt8) (a : Int) (b : Nat)  (w : World) (hd1 : d1.length = 32) (ht1 : t1.length = 16) (hd2 : d2.length = 32) (ht2 : t2.length = 16) (hG : GLs w) (hx : (4294967295:UInt64) < x) (hy : (4294967295:UInt64) < y) (ha : a < 1 ∨ 32 < a) (hb : 1 ≤ b ∧ b ≤ 32)  : Calls Tryd.prog 20 #[.agg (List.toArray (α := Value) ([U64 x, U64 y])), .agg (List.toArray (α := Value) ([U64 e1] ++ cu8 d1 ++ cu8 t1 ++ [U64 e2] ++ cu8 d2 ++ cu8 t2)), .agg (List.toArray (α := Value) ([I64 (a), I64 ((b:Int))]))] w (Post w [] (fun v L => v = .bool true ∧ L = [])) := by
  have hmx : maxLen = 9223372036854775807 := rfl
  refine enter (P := Tryd.prog) (f := 20) (fn := Tryd.f20) w [] 127 [] [.agg (List.toArray (α := Value) ([U64 x, U64 y])), .agg (List.toArray (α := Value) ([U64 e1] ++ cu8 d1 ++ cu8 t1 ++ [U64 e2] ++ cu8 d2 ++ cu8 t2)), .agg (List.toArray (α := Value) ([I64 (a), I64 ((b:Int))]))] Tryd.func20 rfl rfl (by simp) (Hp.start (by simp) (by simp) (by simp)) ?_
  show JC _ _ _ [(0, .agg (List.toArray (α := Value) ([U64 x, U64 y]))), (1, .agg (List.toArray (α := Value) ([U64 e1] ++ cu8 d1 ++ cu8 t1 ++ [U64 e2] ++ cu8 d2 ++ cu8 t2))), (2, .agg (List.toArray (α := Value) ([I64 (a), I64 ((b:Int))])))] _
  refine JC_seq ?_
  refine JC_region ?_
  refine JL_step (Step_box (.agg (List.toArray (α := Value) ([U64 x, U64 y]))) ([U64 x, U64 y]) rfl (by first | rfl | simp)) rfl ?_
  rintro v1 L1 ⟨nb1, hnb1, rfl, rfl⟩
  show JL _ _ _ _ ((3, Ptr nb1 0) :: _) [⟨nb1, [U64 x, U64 y], 68, (0, 0)⟩]
  refine JL_step (Step_box (.agg (List.toArray (α := Value) ([U64 e1] ++ cu8 d1 ++ cu8 t1 ++ [U64 e2] ++ cu8 d2 ++ cu8 t2))) ([U64 e1] ++ cu8 d1 ++ cu8 t1 ++ [U64 e2] ++ cu8 d2 ++ cu8 t2) rfl (by first | rfl | simp)) rfl ?_
  rintro v1 L1 ⟨nb2, hnb2, rfl, rfl⟩
  show JL _ _ _ _ ((4, Ptr nb2 0) :: _) [⟨nb1, [U64 x, U64 y], 68, (0, 0)⟩, ⟨nb2, [U64 e1] ++ cu8 d1 ++ cu8 t1 ++ [U64 e2] ++ cu8 d2 ++ cu8 t2, 113, (0, 0)⟩]
  refine JL_step (Step_box (.agg (List.toArray (α := Value) ([I64 (a), I64 ((b:Int))]))) ([I64 (a), I64 ((b:Int))]) rfl (by first | rfl | simp)) rfl ?_
  rintro v1 L1 ⟨nb3, hnb3, rfl, rfl⟩
  show JL _ _ _ _ ((5, Ptr nb3 0) :: _) [⟨nb1, [U64 x, U64 y], 68, (0, 0)⟩, ⟨nb2, [U64 e1] ++ cu8 d1 ++ cu8 t1 ++ [U64 e2] ++ cu8 d2 ++ cu8 t2, 113, (0, 0)⟩, ⟨nb3, [I64 (a), I64 ((b:Int))], 95, (0, 0)⟩]
  refine JL_val _ (Ev_assign rfl) rfl ?_
  refine JL_nil ?_
  refine JQ_then ?_
  refine JC_seq ?_
  refine JC_seq ?_
  refine JC_region ?_
  refine JL_step (Step_callP 69 [] (.bool true) (Cl_func [] Tryd.call69 rfl) (fun w1 hw1 => alive8_c  w1 (hG.at hw1))) rfl ?_
  rintro v1 L1 ⟨rfl, rfl⟩
  show JL _ _ _ _ ((17, .bool true) :: _) [⟨nb1, [U64 x, U64 y], 68, (0, 0)⟩, ⟨nb2, [U64 e1] ++ cu8 d1 ++ cu8 t1 ++ [U64 e2] ++ cu8 d2 ++ cu8 t2, 113, (0, 0)⟩, ⟨nb3, [I64 (a), I64 ((b:Int))], 95, (0, 0)⟩]
  refine JL_val (.bool (!true)) (Ev_not rfl) rfl ?_
  refine JL_nil ?_
  refine JQ_then ?_
  refine JC_condF _ rfl rfl ?_
  refine JC_skip ?_
  refine JQ_then ?_
  refine JC_seq ?_
  refine JC_region ?_
  refine JL_val (Ptr nb1 0) (Ev_indexArr 2 58 1 0 Tryd.underlying68 Tryd.sizeOf58 rfl rfl (by omega) (by omega) (by omega)) rfl ?_
  refine JL_val (U64 x) (Ev_load rfl (Ld_one Tryd.isAgg58 (MemAt.ent 0 rfl (Seg.head)))) rfl ?_
  refine JL_val (Ptr nb2 0) (Ev_indexArr 2 76 49 0 Tryd.underlying113 Tryd.sizeOf76 rfl rfl (by omega) (by omega) (by omega)) rfl ?_
  refine JL_val (.agg (List.toArray (α := Value) ([U64 e1] ++ cu8 d1 ++ cu8 t1))) (Ev_load rfl (Ld_agg Tryd.isAgg76 Tryd.sizeOf76 (by simp [hd1, ht1]) (MemAt.ent 1 rfl (Seg.split (p := []) (q := [U64 e2] ++ cu8 d2 ++ cu8 t2) (vs := [U64 e1] ++ cu8 d1 ++ cu8 t1) (by first | rfl | (simp only [List.append_assoc, List.nil_append, List.append_nil, List.cons_append]; done)) rfl)))) rfl ?_
  refine JL_step (Step_callP 79 [U64 x, .agg (List.toArray (α := Value) ([U64 e1] ++ cu8 d1 ++ cu8 t1))] (.tuple #[.slice none 0 0, .iface 43 (I64 (1:Int))]) (Cl_func [U64 x, .agg (List.toArray (α := Value) ([U64 e1] ++ cu8 d1 ++ cu8 t1))] Tryd.call79 rfl) (fun w1 hw1 => leafTextB_c x e1 d1 t1 w1 hd1 ht1 (shr4n hx))) rfl ?_
  rintro v1 L1 ⟨rfl, rfl⟩
  show JL _ _ _ _ ((24, .tuple #[.slice none 0 0, .iface 43 (I64 (1:Int))]) :: _) [⟨nb1, [U64 x, U64 y], 68, (0, 0)⟩, ⟨nb2, [U64 e1] ++ cu8 d1 ++ cu8 t1 ++ [U64 e2] ++ cu8 d2 ++ cu8 t2, 113, (0, 0)⟩, ⟨nb3, [I64 (a), I64 ((b:Int))], 95, (0, 0)⟩]
  refine JL_val _ (Ev_move rfl) rfl ?_
  refine JL_val _ (Ev_extract rfl rfl) rfl ?_
  refine JL_val _ (Ev_extract rfl rfl) rfl ?_
  refine JL_val _ (Ev_assign rfl) rfl ?_
  refine JL_val _ (Ev_assign rfl) rfl ?_
  refine JL_nil ?_
  refine JQ_then ?_
  refine JC_seq ?_
  refine JC_region ?_
  refine JL_val (Ptr nb1 1) (Ev_indexArr 2 58 1 1 Tryd.underlying68 Tryd.sizeOf58 rfl rfl (by omega) (by omega) (by omega)) rfl ?_
  refine JL_val (U64 y) (Ev_load rfl (Ld_one Tryd.isAgg58 (MemAt.ent 0 rfl (Seg.tail (Seg.head))))) rfl ?_
  refine JL_val (Ptr nb2 49) (Ev_indexArr 2 76 49 49 Tryd.underlying113 Tryd.sizeOf76 rfl rfl (by omega) (by omega) (by omega)) rfl ?_
  refine JL_val (.agg (List.toArray (α := Value) ([U64 e2] ++ cu8 d2 ++ cu8 t2))) (Ev_load rfl (Ld_agg Tryd.isAgg76 Tryd.sizeOf76 (by simp [hd2, ht2]) (MemAt.ent 1 rfl (Seg.split (p := [U64 e1] ++ cu8 d1 ++ cu8 t1) (q := []) (vs := [U64 e2] ++ cu8 d2 ++ cu8 t2) (by first | rfl | (simp only [List.append_assoc, List.nil_append, List.append_nil, List.cons_append]; done)) (by simp [hd1, ht1]))))) rfl ?_
  refine JL_step (Step_callP 79 [U64 y, .agg (List.toArray (α := Value) ([U64 e2] ++ cu8 d2 ++ cu8 t2))] (.tuple #[.slice none 0 0, .iface 43 (I64 (1:Int))]) (Cl_func [U64 y, .agg (List.toArray (α := Value) ([U64 e2] ++ cu8 d2 ++ cu8 t2))] Tryd.call79 rfl) (fun w1 hw1 => leafTextB_c y e2 d2 t2 w1 hd2 ht2 (shr4n hy))) rfl ?_
  rintro v1 L1 ⟨rfl, rfl⟩
  show JL _ _ _ _ ((32, .tuple #[.slice none 0 0, .iface 43 (I64 (1:Int))]) :: _) [⟨nb1, [U64 x, U64 y], 68, (0, 0)⟩, ⟨nb2, [U64 e1] ++ cu8 d1 ++ cu8 t1 ++ [U64 e2] ++ cu8 d2 ++ cu8 t2, 113, (0, 0)⟩, ⟨nb3, [I64 (a), I64 ((b:Int))], 95, (0, 0)⟩]
  refine JL_val _ (Ev_move rfl) rfl ?_
  refine JL_val _ (Ev_extract rfl rfl) rfl ?_
  refine JL_val _ (Ev_extract rfl rfl) rfl ?_
  refine JL_val _ (Ev_assign rfl) rfl ?_
  refine JL_val _ (Ev_assign rfl) rfl ?_
  refine JL_nil ?_
  refine JQ_then ?_
  refine JC_seq ?_
  refine JC_seq ?_
  refine JC_draw 127 1 [(0, .iface 43 (I64 (1:Int))), (1, .bool false), (2, .bool false), (3, undef), (4, undef), (5, .bool false), (6, .bool false), (7, undef), (8, undef), (9, undef), (10, undef), (11, undef), (12, undef), (13, undef), (14, undef), (15, undef), (16, undef), (17, undef), (18, undef), (19, undef), (20, undef), (21, undef), (22, undef), (23, undef), (24, undef), (25, .bool false)] Tryd.mixed rfl (by decide +kernel) ?_
  refine DP_end ⟨[], [0, 1, 2, 3, 4, 5, 6, 7, 8, 9, 10, 11, 12, 13, 14, 15, 16, 17, 18, 19, 20, 21, 22, 23, 24, 25], [], [0, 1, 2, 3, 4, 5, 6, 7, 8, 9, 10, 11, 12, 13, 14, 15, 16, 17, 18, 19, 20, 21, 22, 23, 24, 25], []⟩ rfl rfl (by decide +kernel) rfl ⟨⟨_, rfl, Qok_val rfl (Ev_move rfl)⟩, ⟨_, rfl, Qok_val rfl (Ev_bin _ _ _ rfl rfl (fun _ => eqGuard_if ..) fun _ => eql_if_nil Tryd.underlying39)⟩, ⟨_, rfl, Qok_val rfl (Ev_move rfl)⟩, ⟨_, rfl, Qok_gskip 2 37 true _ rfl rfl rfl rfl⟩, ⟨_, rfl, Qok_gskip 2 37 true _ rfl rfl rfl rfl⟩, ⟨_, rfl, Qok_val rfl (Ev_pickF _ rfl rfl rfl)⟩, ⟨_, rfl, Qok_val rfl (Ev_move rfl)⟩, ⟨_, rfl, Qok_gskip 6 41 true _ rfl rfl rfl rfl⟩, ⟨_, rfl, Qok_gskip 6 41 true _ rfl rfl rfl rfl⟩, ⟨_, rfl, Qok_gskip 6 41 true _ rfl rfl rfl rfl⟩, ⟨_, rfl, Qok_gskip 6 41 true _ rfl rfl rfl rfl⟩, ⟨_, rfl, Qok_gskip 6 41 true _ rfl rfl rfl rfl⟩, ⟨_, rfl, Qok_gskip 6 41 true _ rfl rfl rfl rfl⟩, ⟨_, rfl, Qok_gskip 6 41 true _ rfl rfl rfl rfl⟩, ⟨_, rfl, Qok_gskip 6 41 true _ rfl rfl rfl rfl⟩, ⟨_, rfl, Qok_gskip 6 41 true _ rfl rfl rfl rfl⟩, ⟨_, rfl, Qok_gskip 6 41 true _ rfl rfl rfl rfl⟩, ⟨_, rfl, Qok_gskip 6 41 true _ rfl rfl rfl rfl⟩, ⟨_, rfl, Qok_gskipU 17 52 true rfl rfl rfl⟩, ⟨_, rfl, Qok_gskipU 17 52 true rfl rfl rfl⟩, ⟨_, rfl, Qok_gskipU 17 52 true rfl rfl rfl⟩, ⟨_, rfl, Qok_gskipU 17 52 true rfl rfl rfl⟩, ⟨_, rfl, Qok_gskipU 17 52 true rfl rfl rfl⟩, ⟨_, rfl, Qok_gskip 6 41 true _ rfl rfl rfl rfl⟩, ⟨_, rfl, Qok_gskip 6 41 true _ rfl rfl rfl rfl⟩, ⟨_, rfl, Qok_val rfl (Ev_pickF _ rfl rfl rfl)⟩, trivial⟩ ?_
  refine K_sub (F' := [(60, .bool false), (4, Ptr nb2 0), (5, Ptr nb3 0), (6, .bool false), (7, .slice none 0 0), (8, .iface 43 (I64 (1:Int)))]) (Sub.cons (by kernel_rfl) (Sub.cons (by kernel_rfl) (Sub.cons (by kernel_rfl) (Sub.cons (by kernel_rfl) (Sub.cons (by kernel_rfl) (Sub.cons (by kernel_rfl) (Sub.nil))))))) ?_
  show JQ _ _ _ [(60, .bool false), (4, Ptr nb2 0), (5, Ptr nb3 0), (6, .bool false), (7, .slice none 0 0), (8, .iface 43 (I64 (1:Int)))] _
  refine JQ_then ?_
  refine JC_condF _ rfl rfl ?_
  refine JC_skip ?_
  refine JQ_then ?_
  refine JC_seq ?_
  refine JC_cut (ι := Nat × Nat) (fun ⟨ynb0, ynb1⟩ => [(5, Ptr nb3 0), (6, .bool false), (7, .slice none 0 0), (8, .iface 43 (I64 (1:Int))), (11, Ptr ynb0 0), (12, Ptr ynb1 0)]) (fun ⟨ynb0, ynb1⟩ => [⟨nb3, [I64 (a), I64 ((b:Int))], 95, (0, 0)⟩, ⟨ynb0, cu8 d1, 25, (0, 0)⟩, ⟨ynb1, cu8 d2, 25, (0, 0)⟩]) (fun ⟨ynb0, ynb1⟩ => True) ?_ ?_
  ·
    refine JC_draw 127 5 [(0, Ptr nb2 0), (1, Ptr nb2 1), (2, .agg (cu8 d1).toArray), (3, Ptr nb2 49), (4, Ptr nb2 50), (5, .agg (cu8 d2).toArray)] Tryd.mixed rfl (by decide +kernel) ?_
    refine DP_two ⟨[], [0, 1, 2, 3, 4, 5], [], [0, 1, 2, 3, 4, 5], [6, 7]⟩ 6 7 _ _ rfl rfl (by decide +kernel) rfl ⟨⟨_, rfl, Qok_val rfl (Ev_indexArr 2 76 49 0 Tryd.underlying113 Tryd.sizeOf76 rfl rfl (by omega) (by omega) (by omega))⟩, ⟨_, rfl, Qok_val rfl (Ev_fieldAddr 1 74 32 Tryd.underlying76 rfl Tryd.sizeOf74 rfl rfl)⟩, ⟨_, rfl, Qok_val rfl (Ev_load rfl (Ld_agg Tryd.isAgg74 Tryd.sizeOf74 (len_cu8 hd1) (MemAt.ent 1 rfl (Seg.left (Seg.left (Seg.left (Seg.left (Seg.right 1 0 rfl rfl (Seg.whole _)))))))))⟩, ⟨_, rfl, Qok_val rfl (Ev_indexArr 2 76 49 49 Tryd.underlying113 Tryd.sizeOf76 rfl rfl (by omega) (by omega) (by omega))⟩, ⟨_, rfl, Qok_val rfl (Ev_fieldAddr 1 74 32 Tryd.underlying76 rfl Tryd.sizeOf74 rfl rfl)⟩, ⟨_, rfl, Qok_val rfl (Ev_load rfl (Ld_agg Tryd.isAgg74 Tryd.sizeOf74 (len_cu8 hd2) (MemAt.ent 1 rfl (Seg.left (Seg.right 50 0 (by simp [hd1, ht1]) rfl (Seg.whole _))))))⟩, trivial⟩ rfl rfl (Cok_step rfl (Step_alloc _ (cu8 (zr8 32)) Tryd.zeroValue25 (by kernel_rfl))) (Cok_step rfl (Step_alloc _ (cu8 (zr8 32)) Tryd.zeroValue25 (by kernel_rfl))) ?_ ?_
    ·
      rintro v1 L1 ⟨nb4, hnb4, rfl, rfl⟩
      refine ⟨[], ?_⟩
      show DP _ _ _ _ _ _ _ _ [⟨nb1, [U64 x, U64 y], 68, (0, 0)⟩, ⟨nb2, [U64 e1] ++ cu8 d1 ++ cu8 t1 ++ [U64 e2] ++ cu8 d2 ++ cu8 t2, 113, (0, 0)⟩, ⟨nb3, [I64 (a), I64 ((b:Int))], 95, (0, 0)⟩, ⟨nb4, cu8 (zr8 32), 25, (0, 0)⟩]
      refine DP_one ⟨[6], [0, 1, 2, 3, 4, 5], [], [0, 1, 2, 3, 4, 5], [7]⟩ 7 _ rfl rfl (by decide +kernel) rfl ⟨⟨_, rfl, Qok_val rfl (Ev_indexArr 2 76 49 0 Tryd.underlying113 Tryd.sizeOf76 rfl rfl (by omega) (by omega) (by omega))⟩, ⟨_, rfl, Qok_val rfl (Ev_fieldAddr 1 74 32 Tryd.underlying76 rfl Tryd.sizeOf74 rfl rfl)⟩, ⟨_, rfl, Qok_val rfl (Ev_load rfl (Ld_agg Tryd.isAgg74 Tryd.sizeOf74 (len_cu8 hd1) (MemAt.ent 1 rfl (Seg.left (Seg.left (Seg.left (Seg.left (Seg.right 1 0 rfl rfl (Seg.whole _)))))))))⟩, ⟨_, rfl, Qok_val rfl (Ev_indexArr 2 76 49 49 Tryd.underlying113 Tryd.sizeOf76 rfl rfl (by omega) (by omega) (by omega))⟩, ⟨_, rfl, Qok_val rfl (Ev_fieldAddr 1 74 32 Tryd.underlying76 rfl Tryd.sizeOf74 rfl rfl)⟩, ⟨_, rfl, Qok_val rfl (Ev_load rfl (Ld_agg Tryd.isAgg74 Tryd.sizeOf74 (len_cu8 hd2) (MemAt.ent 1 rfl (Seg.left (Seg.right 50 0 (by simp [hd1, ht1]) rfl (Seg.whole _))))))⟩, trivial⟩ rfl (Cok_step rfl (Step_alloc _ (cu8 (zr8 32)) Tryd.zeroValue25 (by kernel_rfl))) ?_
      rintro v1 L1 ⟨nb6, hnb6, rfl, rfl⟩
      refine ⟨[], ?_⟩
      show DP _ _ _ _ _ _ _ _ [⟨nb1, [U64 x, U64 y], 68, (0, 0)⟩, ⟨nb2, [U64 e1] ++ cu8 d1 ++ cu8 t1 ++ [U64 e2] ++ cu8 d2 ++ cu8 t2, 113, (0, 0)⟩, ⟨nb3, [I64 (a), I64 ((b:Int))], 95, (0, 0)⟩, ⟨nb4, cu8 (zr8 32), 25, (0, 0)⟩, ⟨nb6, cu8 (zr8 32), 25, (0, 0)⟩]
      refine DP_one ⟨[6, 7], [0, 1, 2, 3, 4, 5], [], [0, 1, 2, 3, 4, 5], [8]⟩ 8 _ rfl rfl (by decide +kernel) rfl ⟨⟨_, rfl, Qok_val rfl (Ev_indexArr 2 76 49 0 Tryd.underlying113 Tryd.sizeOf76 rfl rfl (by omega) (by omega) (by omega))⟩, ⟨_, rfl, Qok_val rfl (Ev_fieldAddr 1 74 32 Tryd.underlying76 rfl Tryd.sizeOf74 rfl rfl)⟩, ⟨_, rfl, Qok_val rfl (Ev_load rfl (Ld_agg Tryd.isAgg74 Tryd.sizeOf74 (len_cu8 hd1) (MemAt.ent 1 rfl (Seg.left (Seg.left (Seg.left (Seg.left (Seg.right 1 0 rfl rfl (Seg.whole _)))))))))⟩, ⟨_, rfl, Qok_val rfl (Ev_indexArr 2 76 49 49 Tryd.underlying113 Tryd.sizeOf76 rfl rfl (by omega) (by omega) (by omega))⟩, ⟨_, rfl, Qok_val rfl (Ev_fieldAddr 1 74 32 Tryd.underlying76 rfl Tryd.sizeOf74 rfl rfl)⟩, ⟨_, rfl, Qok_val rfl (Ev_load rfl (Ld_agg Tryd.isAgg74 Tryd.sizeOf74 (len_cu8 hd2) (MemAt.ent 1 rfl (Seg.left (Seg.right 50 0 (by simp [hd1, ht1]) rfl (Seg.whole _))))))⟩, trivial⟩ rfl (Cok_step rfl (Step_store 3 nb4 0 32 (cu8 (zr8 32)) 25 (.agg (cu8 d1).toArray) (cu8 d1) (cu8 d1) rfl rfl rfl (by first | rfl | simp) Tryd.sizeOf25 (len_cu8 hd1) (by first | exact one_u8 | exact one_u32 | exact one_u64 | (simp [cu8, cu32, cu64, Value.oneCell']; done)) (by simp [(zr8_len 32)]) (lay_whole (by simp [(zr8_len 32), hd1])))) ?_
      rintro v1 L1 ⟨rfl, rfl⟩
      refine ⟨[], ?_⟩
      show DP _ _ _ _ _ _ _ _ [⟨nb1, [U64 x, U64 y], 68, (0, 0)⟩, ⟨nb2, [U64 e1] ++ cu8 d1 ++ cu8 t1 ++ [U64 e2] ++ cu8 d2 ++ cu8 t2, 113, (0, 0)⟩, ⟨nb3, [I64 (a), I64 ((b:Int))], 95, (0, 0)⟩, ⟨nb4, cu8 d1, 25, (0, 0)⟩, ⟨nb6, cu8 (zr8 32), 25, (0, 0)⟩]
      refine DP_one ⟨[6, 7, 8], [0, 1, 2, 3, 4, 5], [0, 1, 2], [3, 4, 5], [9]⟩ 9 _ rfl rfl (by decide +kernel) rfl ⟨⟨_, rfl, Qok_val rfl (Ev_indexArr 2 76 49 49 Tryd.underlying113 Tryd.sizeOf76 rfl rfl (by omega) (by omega) (by omega))⟩, ⟨_, rfl, Qok_val rfl (Ev_fieldAddr 1 74 32 Tryd.underlying76 rfl Tryd.sizeOf74 rfl rfl)⟩, ⟨_, rfl, Qok_val rfl (Ev_load rfl (Ld_agg Tryd.isAgg74 Tryd.sizeOf74 (len_cu8 hd2) (MemAt.ent 1 rfl (Seg.left (Seg.right 50 0 (by simp [hd1, ht1]) rfl (Seg.whole _))))))⟩, trivial⟩ rfl (Cok_step rfl (Step_store 4 nb6 0 32 (cu8 (zr8 32)) 25 (.agg (cu8 d2).toArray) (cu8 d2) (cu8 d2) rfl rfl rfl (by first | rfl | simp) Tryd.sizeOf25 (len_cu8 hd2) (by first | exact one_u8 | exact one_u32 | exact one_u64 | (simp [cu8, cu32, cu64, Value.oneCell']; done)) (by simp [(zr8_len 32)]) (lay_whole (by simp [(zr8_len 32), hd2])))) ?_
      rintro v1 L1 ⟨rfl, rfl⟩
      refine ⟨[], ?_⟩
      show DP _ _ _ _ _ _ _ _ [⟨nb1, [U64 x, U64 y], 68, (0, 0)⟩, ⟨nb2, [U64 e1] ++ cu8 d1 ++ cu8 t1 ++ [U64 e2] ++ cu8 d2 ++ cu8 t2, 113, (0, 0)⟩, ⟨nb3, [I64 (a), I64 ((b:Int))], 95, (0, 0)⟩, ⟨nb4, cu8 d1, 25, (0, 0)⟩, ⟨nb6, cu8 d2, 25, (0, 0)⟩]
      refine DP_end ⟨[6, 7, 8, 9], [0, 1, 2, 3, 4, 5], [0, 1, 2, 3, 4, 5], [], []⟩ rfl rfl (by decide +kernel) rfl trivial ?_
      refine K_sub (F' := [(11, Ptr nb4 0), (12, Ptr nb6 0), (5, Ptr nb3 0), (6, .bool false), (7, .slice none 0 0), (8, .iface 43 (I64 (1:Int)))]) (Sub.cons (by kernel_rfl) (Sub.cons (by kernel_rfl) (Sub.cons (by kernel_rfl) (Sub.cons (by kernel_rfl) (Sub.cons (by kernel_rfl) (Sub.cons (by kernel_rfl) (Sub.nil))))))) ?_
      show JQ _ _ _ [(11, Ptr nb4 0), (12, Ptr nb6 0), (5, Ptr nb3 0), (6, .bool false), (7, .slice none 0 0), (8, .iface 43 (I64 (1:Int)))] _
      refine K_pick [2, 3, 4] (by decide) ?_
      show JQ _ _ _ _ [⟨nb3, [I64 (a), I64 ((b:Int))], 95, (0, 0)⟩, ⟨nb4, cu8 d1, 25, (0, 0)⟩, ⟨nb6, cu8 d2, 25, (0, 0)⟩]
      refine JQ_cut (nb4, nb6) trivial (Sub.cons rfl (Sub.cons rfl (Sub.cons rfl (Sub.cons rfl (Sub.cons rfl (Sub.cons rfl (Sub.nil))))))) rfl
    ·
      rintro v1 L1 ⟨nb5, hnb5, rfl, rfl⟩
      refine ⟨[], ?_⟩
      show DP _ _ _ _ _ _ _ _ [⟨nb1, [U64 x, U64 y], 68, (0, 0)⟩, ⟨nb2, [U64 e1] ++ cu8 d1 ++ cu8 t1 ++ [U64 e2] ++ cu8 d2 ++ cu8 t2, 113, (0, 0)⟩, ⟨nb3, [I64 (a), I64 ((b:Int))], 95, (0, 0)⟩, ⟨nb5, cu8 (zr8 32), 25, (0, 0)⟩]
      refine DP_one ⟨[7], [0, 1, 2, 3, 4, 5], [], [0, 1, 2, 3, 4, 5], [6]⟩ 6 _ rfl rfl (by decide +kernel) rfl ⟨⟨_, rfl, Qok_val rfl (Ev_indexArr 2 76 49 0 Tryd.underlying113 Tryd.sizeOf76 rfl rfl (by omega) (by omega) (by omega))⟩, ⟨_, rfl, Qok_val rfl (Ev_fieldAddr 1 74 32 Tryd.underlying76 rfl Tryd.sizeOf74 rfl rfl)⟩, ⟨_, rfl, Qok_val rfl (Ev_load rfl (Ld_agg Tryd.isAgg74 Tryd.sizeOf74 (len_cu8 hd1) (MemAt.ent 1 rfl (Seg.left (Seg.left (Seg.left (Seg.left (Seg.right 1 0 rfl rfl (Seg.whole _)))))))))⟩, ⟨_, rfl, Qok_val rfl (Ev_indexArr 2 76 49 49 Tryd.underlying113 Tryd.sizeOf76 rfl rfl (by omega) (by omega) (by omega))⟩, ⟨_, rfl, Qok_val rfl (Ev_fieldAddr 1 74 32 Tryd.underlying76 rfl Tryd.sizeOf74 rfl rfl)⟩, ⟨_, rfl, Qok_val rfl (Ev_load rfl (Ld_agg Tryd.isAgg74 Tryd.sizeOf74 (len_cu8 hd2) (MemAt.ent 1 rfl (Seg.left (Seg.right 50 0 (by simp [hd1, ht1]) rfl (Seg.whole _))))))⟩, trivial⟩ rfl (Cok_step rfl (Step_alloc _ (cu8 (zr8 32)) Tryd.zeroValue25 (by kernel_rfl))) ?_
      rintro v1 L1 ⟨nb7, hnb7, rfl, rfl⟩
      refine ⟨[], ?_⟩
      show DP _ _ _ _ _ _ _ _ [⟨nb1, [U64 x, U64 y], 68, (0, 0)⟩, ⟨nb2, [U64 e1] ++ cu8 d1 ++ cu8 t1 ++ [U64 e2] ++ cu8 d2 ++ cu8 t2, 113, (0, 0)⟩, ⟨nb3, [I64 (a), I64 ((b:Int))], 95, (0, 0)⟩, ⟨nb5, cu8 (zr8 32), 25, (0, 0)⟩, ⟨nb7, cu8 (zr8 32), 25, (0, 0)⟩]
      refine DP_one ⟨[7, 6], [0, 1, 2, 3, 4, 5], [], [0, 1, 2, 3, 4, 5], [8]⟩ 8 _ rfl rfl (by decide +kernel) rfl ⟨⟨_, rfl, Qok_val rfl (Ev_indexArr 2 76 49 0 Tryd.underlying113 Tryd.sizeOf76 rfl rfl (by omega) (by omega) (by omega))⟩, ⟨_, rfl, Qok_val rfl (Ev_fieldAddr 1 74 32 Tryd.underlying76 rfl Tryd.sizeOf74 rfl rfl)⟩, ⟨_, rfl, Qok_val rfl (Ev_load rfl (Ld_agg Tryd.isAgg74 Tryd.sizeOf74 (len_cu8 hd1) (MemAt.ent 1 rfl (Seg.left (Seg.left (Seg.left (Seg.left (Seg.right 1 0 rfl rfl (Seg.whole _)))))))))⟩, ⟨_, rfl, Qok_val rfl (Ev_indexArr 2 76 49 49 Tryd.underlying113 Tryd.sizeOf76 rfl rfl (by omega) (by omega) (by omega))⟩, ⟨_, rfl, Qok_val rfl (Ev_fieldAddr 1 74 32 Tryd.underlying76 rfl Tryd.sizeOf74 rfl rfl)⟩, ⟨_, rfl, Qok_val rfl (Ev_load rfl (Ld_agg Tryd.isAgg74 Tryd.sizeOf74 (len_cu8 hd2) (MemAt.ent 1 rfl (Seg.left (Seg.right 50 0 (by simp [hd1, ht1]) rfl (Seg.whole _))))))⟩, trivial⟩ rfl (Cok_step rfl (Step_store 4 nb7 0 32 (cu8 (zr8 32)) 25 (.agg (cu8 d1).toArray) (cu8 d1) (cu8 d1) rfl rfl rfl (by first | rfl | simp) Tryd.sizeOf25 (len_cu8 hd1) (by first | exact one_u8 | exact one_u32 | exact one_u64 | (simp [cu8, cu32, cu64, Value.oneCell']; done)) (by simp [(zr8_len 32)]) (lay_whole (by simp [(zr8_len 32), hd1])))) ?_
      rintro v1 L1 ⟨rfl, rfl⟩
      refine ⟨[], ?_⟩
      show DP _ _ _ _ _ _ _ _ [⟨nb1, [U64 x, U64 y], 68, (0, 0)⟩, ⟨nb2, [U64 e1] ++ cu8 d1 ++ cu8 t1 ++ [U64 e2] ++ cu8 d2 ++ cu8 t2, 113, (0, 0)⟩, ⟨nb3, [I64 (a), I64 ((b:Int))], 95, (0, 0)⟩, ⟨nb5, cu8 (zr8 32), 25, (0, 0)⟩, ⟨nb7, cu8 d1, 25, (0, 0)⟩]
      refine DP_one ⟨[7, 6, 8], [0, 1, 2, 3, 4, 5], [0, 1, 2], [3, 4, 5], [9]⟩ 9 _ rfl rfl (by decide +kernel) rfl ⟨⟨_, rfl, Qok_val rfl (Ev_indexArr 2 76 49 49 Tryd.underlying113 Tryd.sizeOf76 rfl rfl (by omega) (by omega) (by omega))⟩, ⟨_, rfl, Qok_val rfl (Ev_fieldAddr 1 74 32 Tryd.underlying76 rfl Tryd.sizeOf74 rfl rfl)⟩, ⟨_, rfl, Qok_val rfl (Ev_load rfl (Ld_agg Tryd.isAgg74 Tryd.sizeOf74 (len_cu8 hd2) (MemAt.ent 1 rfl (Seg.left (Seg.right 50 0 (by simp [hd1, ht1]) rfl (Seg.whole _))))))⟩, trivial⟩ rfl (Cok_step rfl (Step_store 3 nb5 0 32 (cu8 (zr8 32)) 25 (.agg (cu8 d2).toArray) (cu8 d2) (cu8 d2) rfl rfl rfl (by first | rfl | simp) Tryd.sizeOf25 (len_cu8 hd2) (by first | exact one_u8 | exact one_u32 | exact one_u64 | (simp [cu8, cu32, cu64, Value.oneCell']; done)) (by simp [(zr8_len 32)]) (lay_whole (by simp [(zr8_len 32), hd2])))) ?_
      rintro v1 L1 ⟨rfl, rfl⟩
      refine ⟨[], ?_⟩
      show DP _ _ _ _ _ _ _ _ [⟨nb1, [U64 x, U64 y], 68, (0, 0)⟩, ⟨nb2, [U64 e1] ++ cu8 d1 ++ cu8 t1 ++ [U64 e2] ++ cu8 d2 ++ cu8 t2, 113, (0, 0)⟩, ⟨nb3, [I64 (a), I64 ((b:Int))], 95, (0, 0)⟩, ⟨nb5, cu8 d2, 25, (0, 0)⟩, ⟨nb7, cu8 d1, 25, (0, 0)⟩]
      refine DP_end ⟨[7, 6, 8, 9], [0, 1, 2, 3, 4, 5], [0, 1, 2, 3, 4, 5], [], []⟩ rfl rfl (by decide +kernel) rfl trivial ?_
      refine K_sub (F' := [(11, Ptr nb7 0), (12, Ptr nb5 0), (5, Ptr nb3 0), (6, .bool false), (7, .slice none 0 0), (8, .iface 43 (I64 (1:Int)))]) (Sub.cons (by kernel_rfl) (Sub.cons (by kernel_rfl) (Sub.cons (by kernel_rfl) (Sub.cons (by kernel_rfl) (Sub.cons (by kernel_rfl) (Sub.cons (by kernel_rfl) (Sub.nil))))))) ?_
      show JQ _ _ _ [(11, Ptr nb7 0), (12, Ptr nb5 0), (5, Ptr nb3 0), (6, .bool false), (7, .slice none 0 0), (8, .iface 43 (I64 (1:Int)))] _
      refine K_pick [2, 4, 3] (by decide) ?_
      show JQ _ _ _ _ [⟨nb3, [I64 (a), I64 ((b:Int))], 95, (0, 0)⟩, ⟨nb7, cu8 d1, 25, (0, 0)⟩, ⟨nb5, cu8 d2, 25, (0, 0)⟩]
      refine JQ_cut (nb7, nb5) trivial (Sub.cons rfl (Sub.cons rfl (Sub.cons rfl (Sub.cons rfl (Sub.cons rfl (Sub.cons rfl (Sub.nil))))))) rfl
  ·
    rintro ⟨ynb0, ynb1⟩ _
    show JQ _ _ _ [(5, Ptr nb3 0), (6, .bool false), (7, .slice none 0 0), (8, .iface 43 (I64 (1:Int))), (11, Ptr ynb0 0), (12, Ptr ynb1 0)] [⟨nb3, [I64 (a), I64 ((b:Int))], 95, (0, 0)⟩, ⟨ynb0, cu8 d1, 25, (0, 0)⟩, ⟨ynb1, cu8 d2, 25, (0, 0)⟩]
    refine JQ_then ?_
    refine JC_seq ?_
    refine JC_region ?_
    refine JL_val (Ptr nb3 0) (Ev_indexArr 2 3 1 0 Tryd.underlying95 Tryd.sizeOf3 rfl rfl (by omega) (by omega) (by omega)) rfl ?_
    refine JL_val (I64 (a)) (Ev_load rfl (Ld_one Tryd.isAgg3 (MemAt.ent 0 rfl (Seg.head)))) rfl ?_
    refine JL_val (.agg (cu8 d1).toArray) (Ev_load rfl (Ld_agg Tryd.isAgg25 Tryd.sizeOf25 (len_cu8 hd1) (MemAt.ent 1 rfl (Seg.whole _)))) rfl ?_
    refine JL_val (.agg (cu8 d2).toArray) (Ev_load rfl (Ld_agg Tryd.isAgg25 Tryd.sizeOf25 (len_cu8 hd2) (MemAt.ent 2 rfl (Seg.whole _)))) rfl ?_
    refine JL_step (Step_callP 71 [I64 (a), .agg (cu8 d1).toArray, .agg (cu8 d2).toArray] (.tuple #[.slice none 0 0, .iface 43 (I64 (1:Int))]) (Cl_func [I64 (a), .agg (cu8 d1).toArray, .agg (cu8 d2).toArray] Tryd.call71 rfl) (fun w1 hw1 => joinTextB_c (a) d1 d2 w1 hd1 hd2 ha)) rfl ?_
    rintro v1 L1 ⟨rfl, rfl⟩
    show JL _ _ _ _ ((72, .tuple #[.slice none 0 0, .iface 43 (I64 (1:Int))]) :: _) [⟨nb3, [I64 (a), I64 ((b:Int))], 95, (0, 0)⟩, ⟨ynb0, cu8 d1, 25, (0, 0)⟩, ⟨ynb1, cu8 d2, 25, (0, 0)⟩]
    refine JL_val _ (Ev_move rfl) rfl ?_
    refine JL_val _ (Ev_extract rfl rfl) rfl ?_
    refine JL_val _ (Ev_extract rfl rfl) rfl ?_
    refine JL_val _ (Ev_assign rfl) rfl ?_
    refine JL_val _ (Ev_assign rfl) rfl ?_
    refine JL_nil ?_
    refine JQ_then ?_
    refine JC_seq ?_
    refine JC_region ?_
    refine JL_val (Ptr nb3 1) (Ev_indexArr 2 3 1 1 Tryd.underlying95 Tryd.sizeOf3 rfl rfl (by omega) (by omega) (by omega)) rfl ?_
    refine JL_val (I64 ((b:Int))) (Ev_load rfl (Ld_one Tryd.isAgg3 (MemAt.ent 0 rfl (Seg.tail (Seg.head))))) rfl ?_
    refine JL_val (.agg (cu8 d2).toArray) (Ev_load rfl (Ld_agg Tryd.isAgg25 Tryd.sizeOf25 (len_cu8 hd2) (MemAt.ent 2 rfl (Seg.whole _)))) rfl ?_
    refine JL_val (.agg (cu8 d1).toArray) (Ev_load rfl (Ld_agg Tryd.isAgg25 Tryd.sizeOf25 (len_cu8 hd1) (MemAt.ent 1 rfl (Seg.whole _)))) rfl ?_
    refine JL_step (Step_callN 71 [I64 ((b:Int)), .agg (cu8 d2).toArray, .agg (cu8 d1).toArray] _ (Cl_func [I64 ((b:Int)), .agg (cu8 d2).toArray, .agg (cu8 d1).toArray] Tryd.call71 rfl) (fun w1 hw1 => joinText_c b d2 d1 w1 hd2 hd1 (by omega) (by omega))) rfl ?_
    rintro v1 L1 ⟨_, ⟨nb8, sp1, cp1, rfl, rfl, hc1, hc2, hc3⟩, rfl⟩
    show JL _ _ _ _ ((80, .tuple #[Slc nb8 0 66 cp1, .nilIface]) :: _) [⟨nb3, [I64 (a), I64 ((b:Int))], 95, (0, 0)⟩, ⟨ynb0, cu8 d1, 25, (0, 0)⟩, ⟨ynb1, cu8 d2, 25, (0, 0)⟩, ⟨nb8, cu8 (joinT b d2 d1) ++ sp1, 5, (0, 0)⟩]
    refine JL_val _ (Ev_move rfl) rfl ?_
    refine JL_val _ (Ev_extract rfl rfl) rfl ?_
    refine JL_val _ (Ev_extract rfl rfl) rfl ?_
    refine JL_val _ (Ev_assign rfl) rfl ?_
    refine JL_val _ (Ev_assign rfl) rfl ?_
    refine JL_nil ?_
    refine JQ_then ?_
    refine JC_seq ?_
    refine JC_seq ?_
    refine JC_draw 127 1 [(0, .iface 43 (I64 (1:Int))), (1, .bool false), (2, .bool false), (3, undef), (4, undef), (5, .bool false), (6, .bool false), (7, undef), (8, undef), (9, undef), (10, undef), (11, undef), (12, undef), (13, undef), (14, undef), (15, undef), (16, undef), (17, undef), (18, undef), (19, undef), (20, undef), (21, undef), (22, undef), (23, .bool false)] Tryd.mixed rfl (by decide +kernel) ?_
    refine DP_end ⟨[], [0, 1, 2, 3, 4, 5, 6, 7, 8, 9, 10, 11, 12, 13, 14, 15, 16, 17, 18, 19, 20, 21, 22, 23], [], [0, 1, 2, 3, 4, 5, 6, 7, 8, 9, 10, 11, 12, 13, 14, 15, 16, 17, 18, 19, 20, 21, 22, 23], []⟩ rfl rfl (by decide +kernel) rfl ⟨⟨_, rfl, Qok_val rfl (Ev_move rfl)⟩, ⟨_, rfl, Qok_val rfl (Ev_bin _ _ _ rfl rfl (fun _ => eqGuard_if ..) fun _ => eql_if_nil Tryd.underlying39)⟩, ⟨_, rfl, Qok_val rfl (Ev_move rfl)⟩, ⟨_, rfl, Qok_gskip 2 85 true _ rfl rfl rfl rfl⟩, ⟨_, rfl, Qok_gskip 2 85 true _ rfl rfl rfl rfl⟩, ⟨_, rfl, Qok_val rfl (Ev_pickF _ rfl rfl rfl)⟩, ⟨_, rfl, Qok_val rfl (Ev_move rfl)⟩, ⟨_, rfl, Qok_gskip 6 89 true _ rfl rfl rfl rfl⟩, ⟨_, rfl, Qok_gskip 6 89 true _ rfl rfl rfl rfl⟩, ⟨_, rfl, Qok_gskip 6 89 true _ rfl rfl rfl rfl⟩, ⟨_, rfl, Qok_gskip 6 89 true _ rfl rfl rfl rfl⟩, ⟨_, rfl, Qok_gskip 6 89 true _ rfl rfl rfl rfl⟩, ⟨_, rfl, Qok_gskip 6 89 true _ rfl rfl rfl rfl⟩, ⟨_, rfl, Qok_gskip 6 89 true _ rfl rfl rfl rfl⟩, ⟨_, rfl, Qok_gskip 6 89 true _ rfl rfl rfl rfl⟩, ⟨_, rfl, Qok_gskip 6 89 true _ rfl rfl rfl rfl⟩, ⟨_, rfl, Qok_gskip 6 89 true _ rfl rfl rfl rfl⟩, ⟨_, rfl, Qok_gskip 6 89 true _ rfl rfl rfl rfl⟩, ⟨_, rfl, Qok_gskipU 17 100 true rfl rfl rfl⟩, ⟨_, rfl, Qok_gskipU 17 100 true rfl rfl rfl⟩, ⟨_, rfl, Qok_gskipU 17 100 true rfl rfl rfl⟩, ⟨_, rfl, Qok_gskip 6 89 true _ rfl rfl rfl rfl⟩, ⟨_, rfl, Qok_gskip 6 89 true _ rfl rfl rfl rfl⟩, ⟨_, rfl, Qok_val rfl (Ev_pickF _ rfl rfl rfl)⟩, trivial⟩ ?_
    refine K_sub (F' := [(106, .bool false), (6, .bool false), (7, .slice none 0 0), (8, .iface 43 (I64 (1:Int))), (13, .slice none 0 0), (14, .iface 43 (I64 (1:Int)))]) (Sub.cons (by kernel_rfl) (Sub.cons (by kernel_rfl) (Sub.cons (by kernel_rfl) (Sub.cons (by kernel_rfl) (Sub.cons (by kernel_rfl) (Sub.cons (by kernel_rfl) (Sub.nil))))))) ?_
    show JQ _ _ _ [(106, .bool false), (6, .bool false), (7, .slice none 0 0), (8, .iface 43 (I64 (1:Int))), (13, .slice none 0 0), (14, .iface 43 (I64 (1:Int)))] _
    refine JQ_then ?_
    refine JC_condF _ rfl rfl ?_
    refine JC_skip ?_
    refine JQ_then ?_
    refine JC_seq ?_
    refine JC_region ?_
    refine JL_val _ (Ev_move rfl) rfl ?_
    refine JL_val (.bool true) (Ev_bin _ _ _ rfl rfl (fun _ => eqGuard_if ..) fun _ => neq_if_nil Tryd.underlying39) rfl ?_
    refine JL_val _ (Ev_move rfl) rfl ?_
    refine JL_gskip 2 109 false _ rfl rfl rfl rfl ?_
    refine JL_gskip 2 109 false _ rfl rfl rfl rfl ?_
    refine JL_val _ (Ev_pickT _ rfl rfl rfl) rfl ?_
    refine JL_val _ (Ev_move rfl) rfl ?_
    refine JL_gskip 6 113 false _ rfl rfl rfl rfl ?_
    refine JL_gskip 6 113 false _ rfl rfl rfl rfl ?_
    refine JL_gskip 6 113 false _ rfl rfl rfl rfl ?_
    refine JL_gskip 6 113 false _ rfl rfl rfl rfl ?_
    refine JL_gskip 6 113 false _ rfl rfl rfl rfl ?_
    refine JL_gskip 6 113 false _ rfl rfl rfl rfl ?_
    refine JL_gskipU 12 119 true rfl rfl rfl ?_
    refine JL_gskipU 12 119 true rfl rfl rfl ?_
    refine JL_gskipU 12 119 true rfl rfl rfl ?_
    refine JL_gskipU 12 119 true rfl rfl rfl ?_
    refine JL_gskipU 12 119 true rfl rfl rfl ?_
    refine JL_gskip 6 113 false _ rfl rfl rfl rfl ?_
    refine JL_val _ (Ev_pickT _ rfl rfl rfl) rfl ?_
    refine JL_val _ (Ev_assign rfl) rfl ?_
    refine JL_nil ?_
    refine JQ_then ?_
    refine JC_ret ?_
    refine JQ_ret (.bool true) (res1 Tryd.results20 (RV_tmp rfl)) fun w1 hw1 => ?_
    exact ⟨_, [], rfl, ⟨by rw [show (true) = true from rfl], rfl⟩, hw1.sub (by simp) (by simp)⟩

theorem nodeAp11_c (x y e1 : UInt64) (d1 t1 : List UInt8) (e2 : UInt64) (d2 t2 : List UInt8) (a : Int) (b : Nat)  (w : World) (hd1 : d1.length = 32) (ht1 : t1.length = 16) (hd2 : d2.length = 32) (ht2 : t2.length = 16) (hG : GLs w) (hx : ¬ (4294967295:UInt64) < x) (hy : ¬ (4294967295:UInt64) < y) (ha : a < 1 ∨ 32 < a) (hb : 1 ≤ b ∧ b ≤ 32)  : Calls Tryd.prog 20 #[.agg (List.toArray (α := Value) ([U64 x, U64 y])), .agg (List.toArray (α := Value) ([U64 e1] ++ cu8 d1 ++ cu8 t1 ++ [U64 e2] ++ cu8 d2 ++ cu8 t2)), .agg (List.toArray (α := Value) ([I64 (a), I64 ((b:Int))]))] w (Post w [] (fun v L => v = .bool true ∧ L = [])) := by
  have hmx : maxLen = 9223372036854775807 := rfl
  refine enter (P := Tryd.prog) (f := 20) (fn := Tryd.f20) w [] 127 [] [.agg (List.toArray (α := Value) ([U64 x, U64 y])), .agg (List.toArray (α := Value) ([U64 e1] ++ cu8 d1 ++ cu8 t1 ++ [U64 e2] ++ cu8 d2 ++ cu8 t2)), .agg (List.toArray (α := Value) ([I64 (a), I64 ((b:Int))]))] Tryd.func20 rfl rfl (by simp) (Hp.start (by simp) (by simp) (by simp)) ?_
  show JC _ _ _ [(0, .agg (List.toArray (α := Value) ([U64 x, U64 y]))), (1, .agg (List.toArray (α := Value) ([U64 e1] ++ cu8 d1 ++ cu8 t1 ++ [U64 e2] ++ cu8 d2 ++ cu8 t2))), (2, .agg (List.toArray (α := Value) ([I64 (a), I64 ((b:Int))])))] _
  refine JC_seq ?_
  refine JC_region ?_
  refine JL_step (Step_box (.agg (List.toArray (α := Value) ([U64 x, U64 y]))) ([U64 x, U64 y]) rfl (by first | rfl | simp)) rfl ?_
  rintro v1 L1 ⟨nb1, hnb1, rfl, rfl⟩
  show JL _ _ _ _ ((3, Ptr nb1 0) :: _) [⟨nb1, [U64 x, U64 y], 68, (0, 0)⟩]
  refine JL_step (Step_box (.agg (List.toArray (α := Value) ([U64 e1] ++ cu8 d1 ++ cu8 t1 ++ [U64 e2] ++ cu8 d2 ++ cu8 t2))) ([U64 e1] ++ cu8 d1 ++ cu8 t1 ++ [U64 e2] ++ cu8 d2 ++ cu8 t2) rfl (by first | rfl | simp)) rfl ?_
  rintro v1 L1 ⟨nb2, hnb2, rfl, rfl⟩
  show JL _ _ _ _ ((4, Ptr nb2 0) :: _) [⟨nb1, [U64 x, U64 y], 68, (0, 0)⟩, ⟨nb2, [U64 e1] ++ cu8 d1 ++ cu8 t1 ++ [U64 e2] ++ cu8 d2 ++ cu8 t2, 113, (0, 0)⟩]
  refine JL_step (Step_box (.agg (List.toArray (α := Value) ([I64 (a), I64 ((b:Int))]))) ([I64 (a), I64 ((b:Int))]) rfl (by first | rfl | simp)) rfl ?_
  rintro v1 L1 ⟨nb3, hnb3, rfl, rfl⟩
  show JL _ _ _ _ ((5, Ptr nb3 0) :: _) [⟨nb1, [U64 x, U64 y], 68, (0, 0)⟩, ⟨nb2, [U64 e1] ++ cu8 d1 ++ cu8 t1 ++ [U64 e2] ++ cu8 d2 ++ cu8 t2, 113, (0, 0)⟩, ⟨nb3, [I64 (a), I64 ((b:Int))], 95, (0, 0)⟩]
  refine JL_val _ (Ev_assign rfl) rfl ?_
  refine JL_nil ?_
  refine JQ_then ?_
  refine JC_seq ?_
  refine JC_seq ?_
  refine JC_region ?_
  refine JL_step (Step_callP 69 [] (.bool true) (Cl_func [] Tryd.call69 rfl) (fun w1 hw1 => alive8_c  w1 (hG.at hw1))) rfl ?_
  rintro v1 L1 ⟨rfl, rfl⟩
  show JL _ _ _ _ ((17, .bool true) :: _) [⟨nb1, [U64 x, U64 y], 68, (0, 0)⟩, ⟨nb2, [U64 e1] ++ cu8 d1 ++ cu8 t1 ++ [U64 e2] ++ cu8 d2 ++ cu8 t2, 113, (0, 0)⟩, ⟨nb3, [I64 (a), I64 ((b:Int))], 95, (0, 0)⟩]
  refine JL_val (.bool (!true)) (Ev_not rfl) rfl ?_
  refine JL_nil ?_
  refine JQ_then ?_
  refine JC_condF _ rfl rfl ?_
  refine JC_skip ?_
  refine JQ_then ?_
  refine JC_seq ?_
  refine JC_region ?_
  refine JL_val (Ptr nb1 0) (Ev_indexArr 2 58 1 0 Tryd.underlying68 Tryd.sizeOf58 rfl rfl (by omega) (by omega) (by omega)) rfl ?_
  refine JL_val (U64 x) (Ev_load rfl (Ld_one Tryd.isAgg58 (MemAt.ent 0 rfl (Seg.head)))) rfl ?_
  refine JL_val (Ptr nb2 0) (Ev_indexArr 2 76 49 0 Tryd.underlying113 Tryd.sizeOf76 rfl rfl (by omega) (by omega) (by omega)) rfl ?_
  refine JL_val (.agg (List.toArray (α := Value) ([U64 e1] ++ cu8 d1 ++ cu8 t1))) (Ev_load rfl (Ld_agg Tryd.isAgg76 Tryd.sizeOf76 (by simp [hd1, ht1]) (MemAt.ent 1 rfl (Seg.split (p := []) (q := [U64 e2] ++ cu8 d2 ++ cu8 t2) (vs := [U64 e1] ++ cu8 d1 ++ cu8 t1) (by first | rfl | (simp only [List.append_assoc, List.nil_append, List.append_nil, List.cons_append]; done)) rfl)))) rfl ?_
  refine JL_step (Step_callN 79 [U64 x, .agg (List.toArray (α := Value) ([U64 e1] ++ cu8 d1 ++ cu8 t1))] _ (Cl_func [U64 x, .agg (List.toArray (α := Value) ([U64 e1] ++ cu8 d1 ++ cu8 t1))] Tryd.call79 rfl) (fun w1 hw1 => leafText_c x e1 d1 t1 w1 hd1 ht1 (shr4z hx))) rfl ?_
  rintro v1 L1 ⟨_, ⟨nb4, sp1, cp1, rfl, rfl, hc1, hc2, hc3⟩, rfl⟩
  show JL _ _ _ _ ((24, .tuple #[Slc nb4 0 61 cp1, .nilIface]) :: _) [⟨nb1, [U64 x, U64 y], 68, (0, 0)⟩, ⟨nb2, [U64 e1] ++ cu8 d1 ++ cu8 t1 ++ [U64 e2] ++ cu8 d2 ++ cu8 t2, 113, (0, 0)⟩, ⟨nb3, [I64 (a), I64 ((b:Int))], 95, (0, 0)⟩, ⟨nb4, cu8 (leafT x e1 d1 t1) ++ sp1, 5, (0, 0)⟩]
  refine JL_val _ (Ev_move rfl) rfl ?_
  refine JL_val _ (Ev_extract rfl rfl) rfl ?_
  refine JL_val _ (Ev_extract rfl rfl) rfl ?_
  refine JL_val _ (Ev_assign rfl) rfl ?_
  refine JL_val _ (Ev_assign rfl) rfl ?_
  refine JL_nil ?_
  refine JQ_then ?_
  refine JC_seq ?_
  refine JC_region ?_
  refine JL_val (Ptr nb1 1) (Ev_indexArr 2 58 1 1 Tryd.underlying68 Tryd.sizeOf58 rfl rfl (by omega) (by omega) (by omega)) rfl ?_
  refine JL_val (U64 y) (Ev_load rfl (Ld_one Tryd.isAgg58 (MemAt.ent 0 rfl (Seg.tail (Seg.head))))) rfl ?_
  refine JL_val (Ptr nb2 49) (Ev_indexArr 2 76 49 49 Tryd.underlying113 Tryd.sizeOf76 rfl rfl (by omega) (by omega) (by omega)) rfl ?_
  refine JL_val (.agg (List.toArray (α := Value) ([U64 e2] ++ cu8 d2 ++ cu8 t2))) (Ev_load rfl (Ld_agg Tryd.isAgg76 Tryd.sizeOf76 (by simp [hd2, ht2]) (MemAt.ent 1 rfl (Seg.split (p := [U64 e1] ++ cu8 d1 ++ cu8 t1) (q := []) (vs := [U64 e2] ++ cu8 d2 ++ cu8 t2) (by first | rfl | (simp only [List.append_assoc, List.nil_append, List.append_nil, List.cons_append]; done)) (by simp [hd1, ht1]))))) rfl ?_
  refine JL_step (Step_callN 79 [U64 y, .agg (List.toArray (α := Value) ([U64 e2] ++ cu8 d2 ++ cu8 t2))] _ (Cl_func [U64 y, .agg (List.toArray (α := Value) ([U64 e2] ++ cu8 d2 ++ cu8 t2))] Tryd.call79 rfl) (fun w1 hw1 => leafText_c y e2 d2 t2 w1 hd2 ht2 (shr4z hy))) rfl ?_
  rintro v1 L1 ⟨_, ⟨nb5, sp2, cp2, rfl, rfl, hc4, hc5, hc6⟩, rfl⟩
  show JL _ _ _ _ ((32, .tuple #[Slc nb5 0 61 cp2, .nilIface]) :: _) [⟨nb1, [U64 x, U64 y], 68, (0, 0)⟩, ⟨nb2, [U64 e1] ++ cu8 d1 ++ cu8 t1 ++ [U64 e2] ++ cu8 d2 ++ cu8 t2, 113, (0, 0)⟩, ⟨nb3, [I64 (a), I64 ((b:Int))], 95, (0, 0)⟩, ⟨nb4, cu8 (leafT x e1 d1 t1) ++ sp1, 5, (0, 0)⟩, ⟨nb5, cu8 (leafT y e2 d2 t2) ++ sp2, 5, (0, 0)⟩]
  refine JL_val _ (Ev_move rfl) rfl ?_
  refine JL_val _ (Ev_extract rfl rfl) rfl ?_
  refine JL_val _ (Ev_extract rfl rfl) rfl ?_
  refine JL_val _ (Ev_assign rfl) rfl ?_
  refine JL_val _ (Ev_assign rfl) rfl ?_
  refine JL_nil ?_
  refine JQ_then ?_
  refine JC_seq ?_
  refine JC_seq ?_
  refine JC_cut (ι := Bool) (fun yb0 => [(4, Ptr nb2 0), (5, Ptr nb3 0), (6, .bool false), (7, Slc nb4 0 61 cp1), (8, .nilIface), (60, .bool yb0)]) (fun yb0 => [⟨nb2, [U64 e1] ++ cu8 d1 ++ cu8 t1 ++ [U64 e2] ++ cu8 d2 ++ cu8 t2, 113, (0, 0)⟩, ⟨nb3, [I64 (a), I64 ((b:Int))], 95, (0, 0)⟩, ⟨nb4, cu8 (leafT x e1 d1 t1) ++ sp1, 5, (0, 0)⟩]) (fun yb0 => yb0 = false) ?_ ?_
  ·
    rcases Bool.eq_false_or_eq_true (decide (x = y)) with hb1 | hb1
    ·
      have hp1 : x = y := of_decide_eq_true hb1
      refine JC_draw 127 1 [(0, .nilIface), (1, .bool true), (2, .bool true), (3, .nilIface), (4, .bool true), (5, .bool true), (6, .bool true), (7, Slc nb4 0 61 cp1), (8, .string (⟨(leafT x e1 d1 t1).toArray⟩ : ByteArray)), (9, Slc nb5 0 61 cp2), (10, .string (⟨(leafT y e2 d2 t2).toArray⟩ : ByteArray)), (11, .bool (decide ((leafT x e1 d1 t1) = (leafT y e2 d2 t2)))), (12, Ptr nb1 0), (13, U64 x), (14, Ptr nb1 1), (15, U64 y), (16, .bool (decide (x = y))), (17, .bool (decide (x = y))), (18, Ptr nb2 0), (19, .agg (List.toArray (α := Value) ([U64 e1] ++ cu8 d1 ++ cu8 t1))), (20, Ptr nb2 49), (21, .agg (List.toArray (α := Value) ([U64 e2] ++ cu8 d2 ++ cu8 t2))), (22, .bool (decide (e1 = e2 ∧ d1 = d2 ∧ t1 = t2))), (23, .bool (decide (e1 = e2 ∧ d1 = d2 ∧ t1 = t2))), (24, .bool (!((decide ((leafT x e1 d1 t1) = (leafT y e2 d2 t2))) == (decide (e1 = e2 ∧ d1 = d2 ∧ t1 = t2))))), (25, .bool (!((decide ((leafT x e1 d1 t1) = (leafT y e2 d2 t2))) == (decide (e1 = e2 ∧ d1 = d2 ∧ t1 = t2)))))] Tryd.mixed rfl (by decide +kernel) ?_
      refine DP_end ⟨[], [0, 1, 2, 3, 4, 5, 6, 7, 8, 9, 10, 11, 12, 13, 14, 15, 16, 17, 18, 19, 20, 21, 22, 23, 24, 25], [], [0, 1, 2, 3, 4, 5, 6, 7, 8, 9, 10, 11, 12, 13, 14, 15, 16, 17, 18, 19, 20, 21, 22, 23, 24, 25], []⟩ rfl rfl (by decide +kernel) rfl ⟨⟨_, rfl, Qok_val rfl (Ev_move rfl)⟩, ⟨_, rfl, Qok_val rfl (Ev_bin _ _ _ rfl rfl (fun _ => eqGuard_nn ..) fun _ => eql_if_nil_nil Tryd.underlying39)⟩, ⟨_, rfl, Qok_val rfl (Ev_move rfl)⟩, ⟨_, rfl, Qok_gval 2 37 true _ rfl rfl rfl rfl (Ev_move rfl)⟩, ⟨_, rfl, Qok_gval 2 37 true _ rfl rfl rfl rfl (Ev_bin _ _ _ rfl rfl (fun _ => eqGuard_nn ..) fun _ => eql_if_nil_nil Tryd.underlying39)⟩, ⟨_, rfl, Qok_val rfl (Ev_pickT _ rfl rfl rfl)⟩, ⟨_, rfl, Qok_val rfl (Ev_move rfl)⟩, ⟨_, rfl, Qok_gval 6 41 true _ rfl rfl rfl rfl (Ev_move rfl)⟩, ⟨_, rfl, Qok_gval 6 41 true _ rfl rfl rfl rfl (Ev_toStr 5 (some ⟨nb4, 0, none⟩) 61 cp1 (leafT x e1 d1 t1) Tryd.underlying22 Tryd.underlying5 Tryd.underlying9 rfl (by simp [(show (leafT x e1 d1 t1).length = 61 from (leafT_len hd1 ht1))]; try omega) (SrcAt.mem (MemAt.ent 3 rfl (Seg.left (Seg.whole _)))))⟩, ⟨_, rfl, Qok_gval 6 41 true _ rfl rfl rfl rfl (Ev_move rfl)⟩, ⟨_, rfl, Qok_gval 6 41 true _ rfl rfl rfl rfl (Ev_toStr 5 (some ⟨nb5, 0, none⟩) 61 cp2 (leafT y e2 d2 t2) Tryd.underlying22 Tryd.underlying5 Tryd.underlying9 rfl (by simp [(show (leafT y e2 d2 t2).length = 61 from (leafT_len hd2 ht2))]; try omega) (SrcAt.mem (MemAt.ent 4 rfl (Seg.left (Seg.whole _)))))⟩, ⟨_, rfl, Qok_gval 6 41 true _ rfl rfl rfl rfl (Ev_bin _ _ _ rfl rfl (fun _ => eqGuard_str ..) fun _ => eql_str)⟩, ⟨_, rfl, Qok_gval 6 41 true _ rfl rfl rfl rfl (Ev_indexArr 2 58 1 0 Tryd.underlying68 Tryd.sizeOf58 rfl rfl (by omega) (by omega) (by omega))⟩, ⟨_, rfl, Qok_gval 6 41 true _ rfl rfl rfl rfl (Ev_load rfl (Ld_one Tryd.isAgg58 (MemAt.ent 0 rfl (Seg.head))))⟩, ⟨_, rfl, Qok_gval 6 41 true _ rfl rfl rfl rfl (Ev_indexArr 2 58 1 1 Tryd.underlying68 Tryd.sizeOf58 rfl rfl (by omega) (by omega) (by omega))⟩, ⟨_, rfl, Qok_gval 6 41 true _ rfl rfl rfl rfl (Ev_load rfl (Ld_one Tryd.isAgg58 (MemAt.ent 0 rfl (Seg.tail (Seg.head)))))⟩, ⟨_, rfl, Qok_gval 6 41 true _ rfl rfl rfl rfl (Ev_bini rfl rfl fun _ => bin_eql_u64 x y)⟩, ⟨_, rfl, Qok_gval 6 41 true _ rfl rfl rfl rfl (Ev_move rfl)⟩, ⟨_, rfl, Qok_gval 17 52 true _ rfl rfl rfl hb1 (Ev_indexArr 2 76 49 0 Tryd.underlying113 Tryd.sizeOf76 rfl rfl (by omega) (by omega) (by omega))⟩, ⟨_, rfl, Qok_gval 17 52 true _ rfl rfl rfl hb1 (Ev_load rfl (Ld_agg Tryd.isAgg76 Tryd.sizeOf76 (by simp [hd1, ht1]) (MemAt.ent 1 rfl (Seg.split (p := []) (q := [U64 e2] ++ cu8 d2 ++ cu8 t2) (vs := [U64 e1] ++ cu8 d1 ++ cu8 t1) (by first | rfl | (simp only [List.append_assoc, List.nil_append, List.append_nil, List.cons_append]; done)) rfl))))⟩, ⟨_, rfl, Qok_gval 17 52 true _ rfl rfl rfl hb1 (Ev_indexArr 2 76 49 49 Tryd.underlying113 Tryd.sizeOf76 rfl rfl (by omega) (by omega) (by omega))⟩, ⟨_, rfl, Qok_gval 17 52 true _ rfl rfl rfl hb1 (Ev_load rfl (Ld_agg Tryd.isAgg76 Tryd.sizeOf76 (by simp [hd2, ht2]) (MemAt.ent 1 rfl (Seg.split (p := [U64 e1] ++ cu8 d1 ++ cu8 t1) (q := []) (vs := [U64 e2] ++ cu8 d2 ++ cu8 t2) (by first | rfl | (simp only [List.append_assoc, List.nil_append, List.append_nil, List.cons_append]; done)) (by simp [hd1, ht1])))))⟩, ⟨_, rfl, Qok_gval 17 52 true _ rfl rfl rfl hb1 (Ev_bin _ _ _ rfl rfl (fun _ => eqGuard_agg _ _ _ _ _ _ (by kernel_rfl)) (eql_struct (e1 = e2 ∧ d1 = d2 ∧ t1 = t2) (EqV.struct (d := 9999) (by kernel_rfl) (by kernel_rfl) (by kernel_rfl) (EqRs.cons 58 0 (U64 e1) (U64 e2) _ _ _ (PartV.one Tryd.isAgg58 (Seg.left (Seg.left (Seg.head)))) (PartV.one Tryd.isAgg58 (Seg.left (Seg.left (Seg.head)))) (EqV.u64 (d := 9998) Tryd.underlying58 e1 e2) (EqRs.cons 74 1 (.agg (cu8 d1).toArray) (.agg (cu8 d2).toArray) _ _ _ (PartV.agg Tryd.isAgg74 Tryd.sizeOf74 (Seg.cut (Seg.left (Seg.right 1 0 rfl rfl (Seg.whole _))) (len_cu8 hd1) (by omega))) (PartV.agg Tryd.isAgg74 Tryd.sizeOf74 (Seg.cut (Seg.left (Seg.right 1 0 rfl rfl (Seg.whole _))) (len_cu8 hd2) (by omega))) (EqV.arr8 (d := 9997) Tryd.underlying74 Tryd.underlying5 Tryd.isAgg5 Tryd.cells5 Tryd.has5 (by simp [hd1]) (by simp [hd2])) (EqRs.last 54 33 (.agg (cu8 t1).toArray) (.agg (cu8 t2).toArray) _ (PartV.agg Tryd.isAgg54 Tryd.sizeOf54 (Seg.cut (Seg.right 33 0 (by simp [hd1]) rfl (Seg.whole _)) (len_cu8 ht1) (by omega))) (PartV.agg Tryd.isAgg54 Tryd.sizeOf54 (Seg.cut (Seg.right 33 0 (by simp [hd2]) rfl (Seg.whole _)) (len_cu8 ht2) (by omega))) (EqV.arr8 (d := 9997) Tryd.underlying54 Tryd.underlying5 Tryd.isAgg5 Tryd.cells5 Tryd.has5 (by simp [ht1]) (by simp [ht2])))))) (by first | rfl | (simp only [Bool.decide_and, Bool.and_assoc]; done) | (simp [Bool.and_assoc]; done))))⟩, ⟨_, rfl, Qok_gval 6 41 true _ rfl rfl rfl rfl (Ev_pickT _ rfl hb1 rfl)⟩, ⟨_, rfl, Qok_gval 6 41 true _ rfl rfl rfl rfl (Ev_bin _ _ _ rfl rfl (fun _ => eqGuard_bool ..) fun _ => neq_bool Tryd.underlying4)⟩, ⟨_, rfl, Qok_val rfl (Ev_pickT _ rfl rfl rfl)⟩, trivial⟩ ?_
      refine K_sub (F' := [(60, .bool (!((decide ((leafT x e1 d1 t1) = (leafT y e2 d2 t2))) == (decide (e1 = e2 ∧ d1 = d2 ∧ t1 = t2))))), (4, Ptr nb2 0), (5, Ptr nb3 0), (6, .bool false), (7, Slc nb4 0 61 cp1), (8, .nilIface)]) (Sub.cons (by kernel_rfl) (Sub.cons (by kernel_rfl) (Sub.cons (by kernel_rfl) (Sub.cons (by kernel_rfl) (Sub.cons (by kernel_rfl) (Sub.cons (by kernel_rfl) (Sub.nil))))))) ?_
      show JQ _ _ _ [(60, .bool (!((decide ((leafT x e1 d1 t1) = (leafT y e2 d2 t2))) == (decide (e1 = e2 ∧ d1 = d2 ∧ t1 = t2))))), (4, Ptr nb2 0), (5, Ptr nb3 0), (6, .bool false), (7, Slc nb4 0 61 cp1), (8, .nilIface)] _
      refine K_pick [1, 2, 3] (by decide) ?_
      show JQ _ _ _ _ [⟨nb2, [U64 e1] ++ cu8 d1 ++ cu8 t1 ++ [U64 e2] ++ cu8 d2 ++ cu8 t2, 113, (0, 0)⟩, ⟨nb3, [I64 (a), I64 ((b:Int))], 95, (0, 0)⟩, ⟨nb4, cu8 (leafT x e1 d1 t1) ++ sp1, 5, (0, 0)⟩]
      refine JQ_cut (!((decide ((leafT x e1 d1 t1) = (leafT y e2 d2 t2))) == (decide (e1 = e2 ∧ d1 = d2 ∧ t1 = t2)))) (by rw [show ((decide ((leafT x e1 d1 t1) = (leafT y e2 d2 t2))) == (decide (e1 = e2 ∧ d1 = d2 ∧ t1 = t2))) = true from (by have hxy : x = y := of_decide_eq_true hb1; subst hxy; rw [leafT_same hx hd1 hd2]; exact beq_self_eq_true _)] <;> rfl) (Sub.cons rfl (Sub.cons rfl (Sub.cons rfl (Sub.cons rfl (Sub.cons rfl (Sub.cons rfl (Sub.nil))))))) rfl
    ·
      have hp1 : ¬ (x = y) := of_decide_eq_false hb1
      refine JC_draw 127 1 [(0, .nilIface), (1, .bool true), (2, .bool true), (3, .nilIface), (4, .bool true), (5, .bool true), (6, .bool true), (7, Slc nb4 0 61 cp1), (8, .string (⟨(leafT x e1 d1 t1).toArray⟩ : ByteArray)), (9, Slc nb5 0 61 cp2), (10, .string (⟨(leafT y e2 d2 t2).toArray⟩ : ByteArray)), (11, .bool (decide ((leafT x e1 d1 t1) = (leafT y e2 d2 t2)))), (12, Ptr nb1 0), (13, U64 x), (14, Ptr nb1 1), (15, U64 y), (16, .bool (decide (x = y))), (17, .bool (decide (x = y))), (18, undef), (19, undef), (20, undef), (21, undef), (22, undef), (23, .bool false), (24, .bool (!((decide ((leafT x e1 d1 t1) = (leafT y e2 d2 t2))) == false))), (25, .bool (!((decide ((leafT x e1 d1 t1) = (leafT y e2 d2 t2))) == false)))] Tryd.mixed rfl (by decide +kernel) ?_
      refine DP_end ⟨[], [0, 1, 2, 3, 4, 5, 6, 7, 8, 9, 10, 11, 12, 13, 14, 15, 16, 17, 18, 19, 20, 21, 22, 23, 24, 25], [], [0, 1, 2, 3, 4, 5, 6, 7, 8, 9, 10, 11, 12, 13, 14, 15, 16, 17, 18, 19, 20, 21, 22, 23, 24, 25], []⟩ rfl rfl (by decide +kernel) rfl ⟨⟨_, rfl, Qok_val rfl (Ev_move rfl)⟩, ⟨_, rfl, Qok_val rfl (Ev_bin _ _ _ rfl rfl (fun _ => eqGuard_nn ..) fun _ => eql_if_nil_nil Tryd.underlying39)⟩, ⟨_, rfl, Qok_val rfl (Ev_move rfl)⟩, ⟨_, rfl, Qok_gval 2 37 true _ rfl rfl rfl rfl (Ev_move rfl)⟩, ⟨_, rfl, Qok_gval 2 37 true _ rfl rfl rfl rfl (Ev_bin _ _ _ rfl rfl (fun _ => eqGuard_nn ..) fun _ => eql_if_nil_nil Tryd.underlying39)⟩, ⟨_, rfl, Qok_val rfl (Ev_pickT _ rfl rfl rfl)⟩, ⟨_, rfl, Qok_val rfl (Ev_move rfl)⟩, ⟨_, rfl, Qok_gval 6 41 true _ rfl rfl rfl rfl (Ev_move rfl)⟩, ⟨_, rfl, Qok_gval 6 41 true _ rfl rfl rfl rfl (Ev_toStr 5 (some ⟨nb4, 0, none⟩) 61 cp1 (leafT x e1 d1 t1) Tryd.underlying22 Tryd.underlying5 Tryd.underlying9 rfl (by simp [(show (leafT x e1 d1 t1).length = 61 from (leafT_len hd1 ht1))]; try omega) (SrcAt.mem (MemAt.ent 3 rfl (Seg.left (Seg.whole _)))))⟩, ⟨_, rfl, Qok_gval 6 41 true _ rfl rfl rfl rfl (Ev_move rfl)⟩, ⟨_, rfl, Qok_gval 6 41 true _ rfl rfl rfl rfl (Ev_toStr 5 (some ⟨nb5, 0, none⟩) 61 cp2 (leafT y e2 d2 t2) Tryd.underlying22 Tryd.underlying5 Tryd.underlying9 rfl (by simp [(show (leafT y e2 d2 t2).length = 61 from (leafT_len hd2 ht2))]; try omega) (SrcAt.mem (MemAt.ent 4 rfl (Seg.left (Seg.whole _)))))⟩, ⟨_, rfl, Qok_gval 6 41 true _ rfl rfl rfl rfl (Ev_bin _ _ _ rfl rfl (fun _ => eqGuard_str ..) fun _ => eql_str)⟩, ⟨_, rfl, Qok_gval 6 41 true _ rfl rfl rfl rfl (Ev_indexArr 2 58 1 0 Tryd.underlying68 Tryd.sizeOf58 rfl rfl (by omega) (by omega) (by omega))⟩, ⟨_, rfl, Qok_gval 6 41 true _ rfl rfl rfl rfl (Ev_load rfl (Ld_one Tryd.isAgg58 (MemAt.ent 0 rfl (Seg.head))))⟩, ⟨_, rfl, Qok_gval 6 41 true _ rfl rfl rfl rfl (Ev_indexArr 2 58 1 1 Tryd.underlying68 Tryd.sizeOf58 rfl rfl (by omega) (by omega) (by omega))⟩, ⟨_, rfl, Qok_gval 6 41 true _ rfl rfl rfl rfl (Ev_load rfl (Ld_one Tryd.isAgg58 (MemAt.ent 0 rfl (Seg.tail (Seg.head)))))⟩, ⟨_, rfl, Qok_gval 6 41 true _ rfl rfl rfl rfl (Ev_bini rfl rfl fun _ => bin_eql_u64 x y)⟩, ⟨_, rfl, Qok_gval 6 41 true _ rfl rfl rfl rfl (Ev_move rfl)⟩, ⟨_, rfl, Qok_gskip 17 52 true _ rfl rfl rfl hb1⟩, ⟨_, rfl, Qok_gskip 17 52 true _ rfl rfl rfl hb1⟩, ⟨_, rfl, Qok_gskip 17 52 true _ rfl rfl rfl hb1⟩, ⟨_, rfl, Qok_gskip 17 52 true _ rfl rfl rfl hb1⟩, ⟨_, rfl, Qok_gskip 17 52 true _ rfl rfl rfl hb1⟩, ⟨_, rfl, Qok_gval 6 41 true _ rfl rfl rfl rfl (Ev_pickF _ rfl hb1 rfl)⟩, ⟨_, rfl, Qok_gval 6 41 true _ rfl rfl rfl rfl (Ev_bin _ _ _ rfl rfl (fun _ => eqGuard_bool ..) fun _ => neq_bool Tryd.underlying4)⟩, ⟨_, rfl, Qok_val rfl (Ev_pickT _ rfl rfl rfl)⟩, trivial⟩ ?_
      refine K_sub (F' := [(60, .bool (!((decide ((leafT x e1 d1 t1) = (leafT y e2 d2 t2))) == false))), (4, Ptr nb2 0), (5, Ptr nb3 0), (6, .bool false), (7, Slc nb4 0 61 cp1), (8, .nilIface)]) (Sub.cons (by kernel_rfl) (Sub.cons (by kernel_rfl) (Sub.cons (by kernel_rfl) (Sub.cons (by kernel_rfl) (Sub.cons (by kernel_rfl) (Sub.cons (by kernel_rfl) (Sub.nil))))))) ?_
      show JQ _ _ _ [(60, .bool (!((decide ((leafT x e1 d1 t1) = (leafT y e2 d2 t2))) == false))), (4, Ptr nb2 0), (5, Ptr nb3 0), (6, .bool false), (7, Slc nb4 0 61 cp1), (8, .nilIface)] _
      refine K_pick [1, 2, 3] (by decide) ?_
      show JQ _ _ _ _ [⟨nb2, [U64 e1] ++ cu8 d1 ++ cu8 t1 ++ [U64 e2] ++ cu8 d2 ++ cu8 t2, 113, (0, 0)⟩, ⟨nb3, [I64 (a), I64 ((b:Int))], 95, (0, 0)⟩, ⟨nb4, cu8 (leafT x e1 d1 t1) ++ sp1, 5, (0, 0)⟩]
      refine JQ_cut (!((decide ((leafT x e1 d1 t1) = (leafT y e2 d2 t2))) == false)) (by rw [show ((decide ((leafT x e1 d1 t1) = (leafT y e2 d2 t2))) == false) = true from (by rw [decide_eq_false (fun h => of_decide_eq_false hb1 (leafT_inj hx hy hd1 hd2 h).1)]; rfl)] <;> rfl) (Sub.cons rfl (Sub.cons rfl (Sub.cons rfl (Sub.cons rfl (Sub.cons rfl (Sub.cons rfl (Sub.nil))))))) rfl
  ·
    rintro yb0 hy1
    show JQ _ _ _ [(4, Ptr nb2 0), (5, Ptr nb3 0), (6, .bool false), (7, Slc nb4 0 61 cp1), (8, .nilIface), (60, .bool yb0)] [⟨nb2, [U64 e1] ++ cu8 d1 ++ cu8 t1 ++ [U64 e2] ++ cu8 d2 ++ cu8 t2, 113, (0, 0)⟩, ⟨nb3, [I64 (a), I64 ((b:Int))], 95, (0, 0)⟩, ⟨nb4, cu8 (leafT x e1 d1 t1) ++ sp1, 5, (0, 0)⟩]
    refine JQ_then ?_
    refine JC_condF _ rfl hy1 ?_
    refine JC_skip ?_
    refine JQ_then ?_
    refine JC_seq ?_
    refine JC_cut (ι := Nat × Nat) (fun ⟨ynb0, ynb1⟩ => [(5, Ptr nb3 0), (6, .bool false), (7, Slc nb4 0 61 cp1), (8, .nilIface), (11, Ptr ynb0 0), (12, Ptr ynb1 0)]) (fun ⟨ynb0, ynb1⟩ => [⟨nb3, [I64 (a), I64 ((b:Int))], 95, (0, 0)⟩, ⟨nb4, cu8 (leafT x e1 d1 t1) ++ sp1, 5, (0, 0)⟩, ⟨ynb0, cu8 d1, 25, (0, 0)⟩, ⟨ynb1, cu8 d2, 25, (0, 0)⟩]) (fun ⟨ynb0, ynb1⟩ => True) ?_ ?_
    ·
      refine JC_draw 127 5 [(0, Ptr nb2 0), (1, Ptr nb2 1), (2, .agg (cu8 d1).toArray), (3, Ptr nb2 49), (4, Ptr nb2 50), (5, .agg (cu8 d2).toArray)] Tryd.mixed rfl (by decide +kernel) ?_
      refine DP_two ⟨[], [0, 1, 2, 3, 4, 5], [], [0, 1, 2, 3, 4, 5], [6, 7]⟩ 6 7 _ _ rfl rfl (by decide +kernel) rfl ⟨⟨_, rfl, Qok_val rfl (Ev_indexArr 2 76 49 0 Tryd.underlying113 Tryd.sizeOf76 rfl rfl (by omega) (by omega) (by omega))⟩, ⟨_, rfl, Qok_val rfl (Ev_fieldAddr 1 74 32 Tryd.underlying76 rfl Tryd.sizeOf74 rfl rfl)⟩, ⟨_, rfl, Qok_val rfl (Ev_load rfl (Ld_agg Tryd.isAgg74 Tryd.sizeOf74 (len_cu8 hd1) (MemAt.ent 0 rfl (Seg.left (Seg.left (Seg.left (Seg.left (Seg.right 1 0 rfl rfl (Seg.whole _)))))))))⟩, ⟨_, rfl, Qok_val rfl (Ev_indexArr 2 76 49 49 Tryd.underlying113 Tryd.sizeOf76 rfl rfl (by omega) (by omega) (by omega))⟩, ⟨_, rfl, Qok_val rfl (Ev_fieldAddr 1 74 32 Tryd.underlying76 rfl Tryd.sizeOf74 rfl rfl)⟩, ⟨_, rfl, Qok_val rfl (Ev_load rfl (Ld_agg Tryd.isAgg74 Tryd.sizeOf74 (len_cu8 hd2) (MemAt.ent 0 rfl (Seg.left (Seg.right 50 0 (by simp [hd1, ht1]) rfl (Seg.whole _))))))⟩, trivial⟩ rfl rfl (Cok_step rfl (Step_alloc _ (cu8 (zr8 32)) Tryd.zeroValue25 (by kernel_rfl))) (Cok_step rfl (Step_alloc _ (cu8 (zr8 32)) Tryd.zeroValue25 (by kernel_rfl))) ?_ ?_
      ·
        rintro v1 L1 ⟨nb6, hnb6, rfl, rfl⟩
        refine ⟨[], ?_⟩
        show DP _ _ _ _ _ _ _ _ [⟨nb2, [U64 e1] ++ cu8 d1 ++ cu8 t1 ++ [U64 e2] ++ cu8 d2 ++ cu8 t2, 113, (0, 0)⟩, ⟨nb3, [I64 (a), I64 ((b:Int))], 95, (0, 0)⟩, ⟨nb4, cu8 (leafT x e1 d1 t1) ++ sp1, 5, (0, 0)⟩, ⟨nb6, cu8 (zr8 32), 25, (0, 0)⟩]
        refine DP_one ⟨[6], [0, 1, 2, 3, 4, 5], [], [0, 1, 2, 3, 4, 5], [7]⟩ 7 _ rfl rfl (by decide +kernel) rfl ⟨⟨_, rfl, Qok_val rfl (Ev_indexArr 2 76 49 0 Tryd.underlying113 Tryd.sizeOf76 rfl rfl (by omega) (by omega) (by omega))⟩, ⟨_, rfl, Qok_val rfl (Ev_fieldAddr 1 74 32 Tryd.underlying76 rfl Tryd.sizeOf74 rfl rfl)⟩, ⟨_, rfl, Qok_val rfl (Ev_load rfl (Ld_agg Tryd.isAgg74 Tryd.sizeOf74 (len_cu8 hd1) (MemAt.ent 0 rfl (Seg.left (Seg.left (Seg.left (Seg.left (Seg.right 1 0 rfl rfl (Seg.whole _)))))))))⟩, ⟨_, rfl, Qok_val rfl (Ev_indexArr 2 76 49 49 Tryd.underlying113 Tryd.sizeOf76 rfl rfl (by omega) (by omega) (by omega))⟩, ⟨_, rfl, Qok_val rfl (Ev_fieldAddr 1 74 32 Tryd.underlying76 rfl Tryd.sizeOf74 rfl rfl)⟩, ⟨_, rfl, Qok_val rfl (Ev_load rfl (Ld_agg Tryd.isAgg74 Tryd.sizeOf74 (len_cu8 hd2) (MemAt.ent 0 rfl (Seg.left (Seg.right 50 0 (by simp [hd1, ht1]) rfl (Seg.whole _))))))⟩, trivial⟩ rfl (Cok_step rfl (Step_alloc _ (cu8 (zr8 32)) Tryd.zeroValue25 (by kernel_rfl))) ?_
        rintro v1 L1 ⟨nb8, hnb8, rfl, rfl⟩
        refine ⟨[], ?_⟩
        show DP _ _ _ _ _ _ _ _ [⟨nb2, [U64 e1] ++ cu8 d1 ++ cu8 t1 ++ [U64 e2] ++ cu8 d2 ++ cu8 t2, 113, (0, 0)⟩, ⟨nb3, [I64 (a), I64 ((b:Int))], 95, (0, 0)⟩, ⟨nb4, cu8 (leafT x e1 d1 t1) ++ sp1, 5, (0, 0)⟩, ⟨nb6, cu8 (zr8 32), 25, (0, 0)⟩, ⟨nb8, cu8 (zr8 32), 25, (0, 0)⟩]
        refine DP_one ⟨[6, 7], [0, 1, 2, 3, 4, 5], [], [0, 1, 2, 3, 4, 5], [8]⟩ 8 _ rfl rfl (by decide +kernel) rfl ⟨⟨_, rfl, Qok_val rfl (Ev_indexArr 2 76 49 0 Tryd.underlying113 Tryd.sizeOf76 rfl rfl (by omega) (by omega) (by omega))⟩, ⟨_, rfl, Qok_val rfl (Ev_fieldAddr 1 74 32 Tryd.underlying76 rfl Tryd.sizeOf74 rfl rfl)⟩, ⟨_, rfl, Qok_val rfl (Ev_load rfl (Ld_agg Tryd.isAgg74 Tryd.sizeOf74 (len_cu8 hd1) (MemAt.ent 0 rfl (Seg.left (Seg.left (Seg.left (Seg.left (Seg.right 1 0 rfl rfl (Seg.whole _)))))))))⟩, ⟨_, rfl, Qok_val rfl (Ev_indexArr 2 76 49 49 Tryd.underlying113 Tryd.sizeOf76 rfl rfl (by omega) (by omega) (by omega))⟩, ⟨_, rfl, Qok_val rfl (Ev_fieldAddr 1 74 32 Tryd.underlying76 rfl Tryd.sizeOf74 rfl rfl)⟩, ⟨_, rfl, Qok_val rfl (Ev_load rfl (Ld_agg Tryd.isAgg74 Tryd.sizeOf74 (len_cu8 hd2) (MemAt.ent 0 rfl (Seg.left (Seg.right 50 0 (by simp [hd1, ht1]) rfl (Seg.whole _))))))⟩, trivial⟩ rfl (Cok_step rfl (Step_store 3 nb6 0 32 (cu8 (zr8 32)) 25 (.agg (cu8 d1).toArray) (cu8 d1) (cu8 d1) rfl rfl rfl (by first | rfl | simp) Tryd.sizeOf25 (len_cu8 hd1) (by first | exact one_u8 | exact one_u32 | exact one_u64 | (simp [cu8, cu32, cu64, Value.oneCell']; done)) (by simp [(zr8_len 32)]) (lay_whole (by simp [(zr8_len 32), hd1])))) ?_
        rintro v1 L1 ⟨rfl, rfl⟩
        refine ⟨[], ?_⟩
        show DP _ _ _ _ _ _ _ _ [⟨nb2, [U64 e1] ++ cu8 d1 ++ cu8 t1 ++ [U64 e2] ++ cu8 d2 ++ cu8 t2, 113, (0, 0)⟩, ⟨nb3, [I64 (a), I64 ((b:Int))], 95, (0, 0)⟩, ⟨nb4, cu8 (leafT x e1 d1 t1) ++ sp1, 5, (0, 0)⟩, ⟨nb6, cu8 d1, 25, (0, 0)⟩, ⟨nb8, cu8 (zr8 32), 25, (0, 0)⟩]
        refine DP_one ⟨[6, 7, 8], [0, 1, 2, 3, 4, 5], [0, 1, 2], [3, 4, 5], [9]⟩ 9 _ rfl rfl (by decide +kernel) rfl ⟨⟨_, rfl, Qok_val rfl (Ev_indexArr 2 76 49 49 Tryd.underlying113 Tryd.sizeOf76 rfl rfl (by omega) (by omega) (by omega))⟩, ⟨_, rfl, Qok_val rfl (Ev_fieldAddr 1 74 32 Tryd.underlying76 rfl Tryd.sizeOf74 rfl rfl)⟩, ⟨_, rfl, Qok_val rfl (Ev_load rfl (Ld_agg Tryd.isAgg74 Tryd.sizeOf74 (len_cu8 hd2) (MemAt.ent 0 rfl (Seg.left (Seg.right 50 0 (by simp [hd1, ht1]) rfl (Seg.whole _))))))⟩, trivial⟩ rfl (Cok_step rfl (Step_store 4 nb8 0 32 (cu8 (zr8 32)) 25 (.agg (cu8 d2).toArray) (cu8 d2) (cu8 d2) rfl rfl rfl (by first | rfl | simp) Tryd.sizeOf25 (len_cu8 hd2) (by first | exact one_u8 | exact one_u32 | exact one_u64 | (simp [cu8, cu32, cu64, Value.oneCell']; done)) (by simp [(zr8_len 32)]) (lay_whole (by simp [(zr8_len 32), hd2])))) ?_
        rintro v1 L1 ⟨rfl, rfl⟩
        refine ⟨[], ?_⟩
        show DP _ _ _ _ _ _ _ _ [⟨nb2, [U64 e1] ++ cu8 d1 ++ cu8 t1 ++ [U64 e2] ++ cu8 d2 ++ cu8 t2, 113, (0, 0)⟩, ⟨nb3, [I64 (a), I64 ((b:Int))], 95, (0, 0)⟩, ⟨nb4, cu8 (leafT x e1 d1 t1) ++ sp1, 5, (0, 0)⟩, ⟨nb6, cu8 d1, 25, (0, 0)⟩, ⟨nb8, cu8 d2, 25, (0, 0)⟩]
        refine DP_end ⟨[6, 7, 8, 9], [0, 1, 2, 3, 4, 5], [0, 1, 2, 3, 4, 5], [], []⟩ rfl rfl (by decide +kernel) rfl trivial ?_
        refine K_sub (F' := [(11, Ptr nb6 0), (12, Ptr nb8 0), (5, Ptr nb3 0), (6, .bool false), (7, Slc nb4 0 61 cp1), (8, .nilIface)]) (Sub.cons (by kernel_rfl) (Sub.cons (by kernel_rfl) (Sub.cons (by kernel_rfl) (Sub.cons (by kernel_rfl) (Sub.cons (by kernel_rfl) (Sub.cons (by kernel_rfl) (Sub.nil))))))) ?_
        show JQ _ _ _ [(11, Ptr nb6 0), (12, Ptr nb8 0), (5, Ptr nb3 0), (6, .bool false), (7, Slc nb4 0 61 cp1), (8, .nilIface)] _
        refine K_pick [1, 2, 3, 4] (by decide) ?_
        show JQ _ _ _ _ [⟨nb3, [I64 (a), I64 ((b:Int))], 95, (0, 0)⟩, ⟨nb4, cu8 (leafT x e1 d1 t1) ++ sp1, 5, (0, 0)⟩, ⟨nb6, cu8 d1, 25, (0, 0)⟩, ⟨nb8, cu8 d2, 25, (0, 0)⟩]
        refine JQ_cut (nb6, nb8) trivial (Sub.cons rfl (Sub.cons rfl (Sub.cons rfl (Sub.cons rfl (Sub.cons rfl (Sub.cons rfl (Sub.nil))))))) rfl
      ·
        rintro v1 L1 ⟨nb7, hnb7, rfl, rfl⟩
        refine ⟨[], ?_⟩
        show DP _ _ _ _ _ _ _ _ [⟨nb2, [U64 e1] ++ cu8 d1 ++ cu8 t1 ++ [U64 e2] ++ cu8 d2 ++ cu8 t2, 113, (0, 0)⟩, ⟨nb3, [I64 (a), I64 ((b:Int))], 95, (0, 0)⟩, ⟨nb4, cu8 (leafT x e1 d1 t1) ++ sp1, 5, (0, 0)⟩, ⟨nb7, cu8 (zr8 32), 25, (0, 0)⟩]
        refine DP_one ⟨[7], [0, 1, 2, 3, 4, 5], [], [0, 1, 2, 3, 4, 5], [6]⟩ 6 _ rfl rfl (by decide +kernel) rfl ⟨⟨_, rfl, Qok_val rfl (Ev_indexArr 2 76 49 0 Tryd.underlying113 Tryd.sizeOf76 rfl rfl (by omega) (by omega) (by omega))⟩, ⟨_, rfl, Qok_val rfl (Ev_fieldAddr 1 74 32 Tryd.underlying76 rfl Tryd.sizeOf74 rfl rfl)⟩, ⟨_, rfl, Qok_val rfl (Ev_load rfl (Ld_agg Tryd.isAgg74 Tryd.sizeOf74 (len_cu8 hd1) (MemAt.ent 0 rfl (Seg.left (Seg.left (Seg.left (Seg.left (Seg.right 1 0 rfl rfl (Seg.whole _)))))))))⟩, ⟨_, rfl, Qok_val rfl (Ev_indexArr 2 76 49 49 Tryd.underlying113 Tryd.sizeOf76 rfl rfl (by omega) (by omega) (by omega))⟩, ⟨_, rfl, Qok_val rfl (Ev_fieldAddr 1 74 32 Tryd.underlying76 rfl Tryd.sizeOf74 rfl rfl)⟩, ⟨_, rfl, Qok_val rfl (Ev_load rfl (Ld_agg Tryd.isAgg74 Tryd.sizeOf74 (len_cu8 hd2) (MemAt.ent 0 rfl (Seg.left (Seg.right 50 0 (by simp [hd1, ht1]) rfl (Seg.whole _))))))⟩, trivial⟩ rfl (Cok_step rfl (Step_alloc _ (cu8 (zr8 32)) Tryd.zeroValue25 (by kernel_rfl))) ?_
        rintro v1 L1 ⟨nb9, hnb9, rfl, rfl⟩
        refine ⟨[], ?_⟩
        show DP _ _ _ _ _ _ _ _ [⟨nb2, [U64 e1] ++ cu8 d1 ++ cu8 t1 ++ [U64 e2] ++ cu8 d2 ++ cu8 t2, 113, (0, 0)⟩, ⟨nb3, [I64 (a), I64 ((b:Int))], 95, (0, 0)⟩, ⟨nb4, cu8 (leafT x e1 d1 t1) ++ sp1, 5, (0, 0)⟩, ⟨nb7, cu8 (zr8 32), 25, (0, 0)⟩, ⟨nb9, cu8 (zr8 32), 25, (0, 0)⟩]
        refine DP_one ⟨[7, 6], [0, 1, 2, 3, 4, 5], [], [0, 1, 2, 3, 4, 5], [8]⟩ 8 _ rfl rfl (by decide +kernel) rfl ⟨⟨_, rfl, Qok_val rfl (Ev_indexArr 2 76 49 0 Tryd.underlying113 Tryd.sizeOf76 rfl rfl (by omega) (by omega) (by omega))⟩, ⟨_, rfl, Qok_val rfl (Ev_fieldAddr 1 74 32 Tryd.underlying76 rfl Tryd.sizeOf74 rfl rfl)⟩, ⟨_, rfl, Qok_val rfl (Ev_load rfl (Ld_agg Tryd.isAgg74 Tryd.sizeOf74 (len_cu8 hd1) (MemAt.ent 0 rfl (Seg.left (Seg.left (Seg.left (Seg.left (Seg.right 1 0 rfl rfl (Seg.whole _)))))))))⟩, ⟨_, rfl, Qok_val rfl (Ev_indexArr 2 76 49 49 Tryd.underlying113 Tryd.sizeOf76 rfl rfl (by omega) (by omega) (by omega))⟩, ⟨_, rfl, Qok_val rfl (Ev_fieldAddr 1 74 32 Tryd.underlying76 rfl Tryd.sizeOf74 rfl rfl)⟩, ⟨_, rfl, Qok_val rfl (Ev_load rfl (Ld_agg Tryd.isAgg74 Tryd.sizeOf74 (len_cu8 hd2) (MemAt.ent 0 rfl (Seg.left (Seg.right 50 0 (by simp [hd1, ht1]) rfl (Seg.whole _))))))⟩, trivial⟩ rfl (Cok_step rfl (Step_store 4 nb9 0 32 (cu8 (zr8 32)) 25 (.agg (cu8 d1).toArray) (cu8 d1) (cu8 d1) rfl rfl rfl (by first | rfl | simp) Tryd.sizeOf25 (len_cu8 hd1) (by first | exact one_u8 | exact one_u32 | exact one_u64 | (simp [cu8, cu32, cu64, Value.oneCell']; done)) (by simp [(zr8_len 32)]) (lay_whole (by simp [(zr8_len 32), hd1])))) ?_
        rintro v1 L1 ⟨rfl, rfl⟩
        refine ⟨[], ?_⟩
        show DP _ _ _ _ _ _ _ _ [⟨nb2, [U64 e1] ++ cu8 d1 ++ cu8 t1 ++ [U64 e2] ++ cu8 d2 ++ cu8 t2, 113, (0, 0)⟩, ⟨nb3, [I64 (a), I64 ((b:Int))], 95, (0, 0)⟩, ⟨nb4, cu8 (leafT x e1 d1 t1) ++ sp1, 5, (0, 0)⟩, ⟨nb7, cu8 (zr8 32), 25, (0, 0)⟩, ⟨nb9, cu8 d1, 25, (0, 0)⟩]
        refine DP_one ⟨[7, 6, 8], [0, 1, 2, 3, 4, 5], [0, 1, 2], [3, 4, 5], [9]⟩ 9 _ rfl rfl (by decide +kernel) rfl ⟨⟨_, rfl, Qok_val rfl (Ev_indexArr 2 76 49 49 Tryd.underlying113 Tryd.sizeOf76 rfl rfl (by omega) (by omega) (by omega))⟩, ⟨_, rfl, Qok_val rfl (Ev_fieldAddr 1 74 32 Tryd.underlying76 rfl Tryd.sizeOf74 rfl rfl)⟩, ⟨_, rfl, Qok_val rfl (Ev_load rfl (Ld_agg Tryd.isAgg74 Tryd.sizeOf74 (len_cu8 hd2) (MemAt.ent 0 rfl (Seg.left (Seg.right 50 0 (by simp [hd1, ht1]) rfl (Seg.whole _))))))⟩, trivial⟩ rfl (Cok_step rfl (Step_store 3 nb7 0 32 (cu8 (zr8 32)) 25 (.agg (cu8 d2).toArray) (cu8 d2) (cu8 d2) rfl rfl rfl (by first | rfl | simp) Tryd.sizeOf25 (len_cu8 hd2) (by first | exact one_u8 | exact one_u32 | exact one_u64 | (simp [cu8, cu32, cu64, Value.oneCell']; done)) (by simp [(zr8_len 32)]) (lay_whole (by simp [(zr8_len 32), hd2])))) ?_
        rintro v1 L1 ⟨rfl, rfl⟩
        refine ⟨[], ?_⟩
        show DP _ _ _ _ _ _ _ _ [⟨nb2, [U64 e1] ++ cu8 d1 ++ cu8 t1 ++ [U64 e2] ++ cu8 d2 ++ cu8 t2, 113, (0, 0)⟩, ⟨nb3, [I64 (a), I64 ((b:Int))], 95, (0, 0)⟩, ⟨nb4, cu8 (leafT x e1 d1 t1) ++ sp1, 5, (0, 0)⟩, ⟨nb7, cu8 d2, 25, (0, 0)⟩, ⟨nb9, cu8 d1, 25, (0, 0)⟩]
        refine DP_end ⟨[7, 6, 8, 9], [0, 1, 2, 3, 4, 5], [0, 1, 2, 3, 4, 5], [], []⟩ rfl rfl (by decide +kernel) rfl trivial ?_
        refine K_sub (F' := [(11, Ptr nb9 0), (12, Ptr nb7 0), (5, Ptr nb3 0), (6, .bool false), (7, Slc nb4 0 61 cp1), (8, .nilIface)]) (Sub.cons (by kernel_rfl) (Sub.cons (by kernel_rfl) (Sub.cons (by kernel_rfl) (Sub.cons (by kernel_rfl) (Sub.cons (by kernel_rfl) (Sub.cons (by kernel_rfl) (Sub.nil))))))) ?_
        show JQ _ _ _ [(11, Ptr nb9 0), (12, Ptr nb7 0), (5, Ptr nb3 0), (6, .bool false), (7, Slc nb4 0 61 cp1), (8, .nilIface)] _
        refine K_pick [1, 2, 4, 3] (by decide) ?_
        show JQ _ _ _ _ [⟨nb3, [I64 (a), I64 ((b:Int))], 95, (0, 0)⟩, ⟨nb4, cu8 (leafT x e1 d1 t1) ++ sp1, 5, (0, 0)⟩, ⟨nb9, cu8 d1, 25, (0, 0)⟩, ⟨nb7, cu8 d2, 25, (0, 0)⟩]
        refine JQ_cut (nb9, nb7) trivial (Sub.cons rfl (Sub.cons rfl (Sub.cons rfl (Sub.cons rfl (Sub.cons rfl (Sub.cons rfl (Sub.nil))))))) rfl
    ·
      rintro ⟨ynb0, ynb1⟩ _
      show JQ _ _ _ [(5, Ptr nb3 0), (6, .bool false), (7, Slc nb4 0 61 cp1), (8, .nilIface), (11, Ptr ynb0 0), (12, Ptr ynb1 0)] [⟨nb3, [I64 (a), I64 ((b:Int))], 95, (0, 0)⟩, ⟨nb4, cu8 (leafT x e1 d1 t1) ++ sp1, 5, (0, 0)⟩, ⟨ynb0, cu8 d1, 25, (0, 0)⟩, ⟨ynb1, cu8 d2, 25, (0, 0)⟩]
      refine JQ_then ?_
      refine JC_seq ?_
      refine JC_region ?_
      refine JL_val (Ptr nb3 0) (Ev_indexArr 2 3 1 0 Tryd.underlying95 Tryd.sizeOf3 rfl rfl (by omega) (by omega) (by omega)) rfl ?_
      refine JL_val (I64 (a)) (Ev_load rfl (Ld_one Tryd.isAgg3 (MemAt.ent 0 rfl (Seg.head)))) rfl ?_
      refine JL_val (.agg (cu8 d1).toArray) (Ev_load rfl (Ld_agg Tryd.isAgg25 Tryd.sizeOf25 (len_cu8 hd1) (MemAt.ent 2 rfl (Seg.whole _)))) rfl ?_
      refine JL_val (.agg (cu8 d2).toArray) (Ev_load rfl (Ld_agg Tryd.isAgg25 Tryd.sizeOf25 (len_cu8 hd2) (MemAt.ent 3 rfl (Seg.whole _)))) rfl ?_
      refine JL_step (Step_callP 71 [I64 (a), .agg (cu8 d1).toArray, .agg (cu8 d2).toArray] (.tuple #[.slice none 0 0, .iface 43 (I64 (1:Int))]) (Cl_func [I64 (a), .agg (cu8 d1).toArray, .agg (cu8 d2).toArray] Tryd.call71 rfl) (fun w1 hw1 => joinTextB_c (a) d1 d2 w1 hd1 hd2 ha)) rfl ?_
      rintro v1 L1 ⟨rfl, rfl⟩
      show JL _ _ _ _ ((72, .tuple #[.slice none 0 0, .iface 43 (I64 (1:Int))]) :: _) [⟨nb3, [I64 (a), I64 ((b:Int))], 95, (0, 0)⟩, ⟨nb4, cu8 (leafT x e1 d1 t1) ++ sp1, 5, (0, 0)⟩, ⟨ynb0, cu8 d1, 25, (0, 0)⟩, ⟨ynb1, cu8 d2, 25, (0, 0)⟩]
      refine JL_val _ (Ev_move rfl) rfl ?_
      refine JL_val _ (Ev_extract rfl rfl) rfl ?_
      refine JL_val _ (Ev_extract rfl rfl) rfl ?_
      refine JL_val _ (Ev_assign rfl) rfl ?_
      refine JL_val _ (Ev_assign rfl) rfl ?_
      refine JL_nil ?_
      refine JQ_then ?_
      refine JC_seq ?_
      refine JC_region ?_
      refine JL_val (Ptr nb3 1) (Ev_indexArr 2 3 1 1 Tryd.underlying95 Tryd.sizeOf3 rfl rfl (by omega) (by omega) (by omega)) rfl ?_
      refine JL_val (I64 ((b:Int))) (Ev_load rfl (Ld_one Tryd.isAgg3 (MemAt.ent 0 rfl (Seg.tail (Seg.head))))) rfl ?_
      refine JL_val (.agg (cu8 d2).toArray) (Ev_load rfl (Ld_agg Tryd.isAgg25 Tryd.sizeOf25 (len_cu8 hd2) (MemAt.ent 3 rfl (Seg.whole _)))) rfl ?_
      refine JL_val (.agg (cu8 d1).toArray) (Ev_load rfl (Ld_agg Tryd.isAgg25 Tryd.sizeOf25 (len_cu8 hd1) (MemAt.ent 2 rfl (Seg.whole _)))) rfl ?_
      refine JL_step (Step_callN 71 [I64 ((b:Int)), .agg (cu8 d2).toArray, .agg (cu8 d1).toArray] _ (Cl_func [I64 ((b:Int)), .agg (cu8 d2).toArray, .agg (cu8 d1).toArray] Tryd.call71 rfl) (fun w1 hw1 => joinText_c b d2 d1 w1 hd2 hd1 (by omega) (by omega))) rfl ?_
      rintro v1 L1 ⟨_, ⟨nb10, sp3, cp3, rfl, rfl, hc7, hc8, hc9⟩, rfl⟩
      show JL _ _ _ _ ((80, .tuple #[Slc nb10 0 66 cp3, .nilIface]) :: _) [⟨nb3, [I64 (a), I64 ((b:Int))], 95, (0, 0)⟩, ⟨nb4, cu8 (leafT x e1 d1 t1) ++ sp1, 5, (0, 0)⟩, ⟨ynb0, cu8 d1, 25, (0, 0)⟩, ⟨ynb1, cu8 d2, 25, (0, 0)⟩, ⟨nb10, cu8 (joinT b d2 d1) ++ sp3, 5, (0, 0)⟩]
      refine JL_val _ (Ev_move rfl) rfl ?_
      refine JL_val _ (Ev_extract rfl rfl) rfl ?_
      refine JL_val _ (Ev_extract rfl rfl) rfl ?_
      refine JL_val _ (Ev_assign rfl) rfl ?_
      refine JL_val _ (Ev_assign rfl) rfl ?_
      refine JL_nil ?_
      refine JQ_then ?_
      refine JC_seq ?_
      refine JC_seq ?_
      refine JC_draw 127 1 [(0, .iface 43 (I64 (1:Int))), (1, .bool false), (2, .bool false), (3, undef), (4, undef), (5, .bool false), (6, .bool false), (7, undef), (8, undef), (9, undef), (10, undef), (11, undef), (12, undef), (13, undef), (14, undef), (15, undef), (16, undef), (17, undef), (18, undef), (19, undef), (20, undef), (21, undef), (22, undef), (23, .bool false)] Tryd.mixed rfl (by decide +kernel) ?_
      refine DP_end ⟨[], [0, 1, 2, 3, 4, 5, 6, 7, 8, 9, 10, 11, 12, 13, 14, 15, 16, 17, 18, 19, 20, 21, 22, 23], [], [0, 1, 2, 3, 4, 5, 6, 7, 8, 9, 10, 11, 12, 13, 14, 15, 16, 17, 18, 19, 20, 21, 22, 23], []⟩ rfl rfl (by decide +kernel) rfl ⟨⟨_, rfl, Qok_val rfl (Ev_move rfl)⟩, ⟨_, rfl, Qok_val rfl (Ev_bin _ _ _ rfl rfl (fun _ => eqGuard_if ..) fun _ => eql_if_nil Tryd.underlying39)⟩, ⟨_, rfl, Qok_val rfl (Ev_move rfl)⟩, ⟨_, rfl, Qok_gskip 2 85 true _ rfl rfl rfl rfl⟩, ⟨_, rfl, Qok_gskip 2 85 true _ rfl rfl rfl rfl⟩, ⟨_, rfl, Qok_val rfl (Ev_pickF _ rfl rfl rfl)⟩, ⟨_, rfl, Qok_val rfl (Ev_move rfl)⟩, ⟨_, rfl, Qok_gskip 6 89 true _ rfl rfl rfl rfl⟩, ⟨_, rfl, Qok_gskip 6 89 true _ rfl rfl rfl rfl⟩, ⟨_, rfl, Qok_gskip 6 89 true _ rfl rfl rfl rfl⟩, ⟨_, rfl, Qok_gskip 6 89 true _ rfl rfl rfl rfl⟩, ⟨_, rfl, Qok_gskip 6 89 true _ rfl rfl rfl rfl⟩, ⟨_, rfl, Qok_gskip 6 89 true _ rfl rfl rfl rfl⟩, ⟨_, rfl, Qok_gskip 6 89 true _ rfl rfl rfl rfl⟩, ⟨_, rfl, Qok_gskip 6 89 true _ rfl rfl rfl rfl⟩, ⟨_, rfl, Qok_gskip 6 89 true _ rfl rfl rfl rfl⟩, ⟨_, rfl, Qok_gskip 6 89 true _ rfl rfl rfl rfl⟩, ⟨_, rfl, Qok_gskip 6 89 true _ rfl rfl rfl rfl⟩, ⟨_, rfl, Qok_gskipU 17 100 true rfl rfl rfl⟩, ⟨_, rfl, Qok_gskipU 17 100 true rfl rfl rfl⟩, ⟨_, rfl, Qok_gskipU 17 100 true rfl rfl rfl⟩, ⟨_, rfl, Qok_gskip 6 89 true _ rfl rfl rfl rfl⟩, ⟨_, rfl, Qok_gskip 6 89 true _ rfl rfl rfl rfl⟩, ⟨_, rfl, Qok_val rfl (Ev_pickF _ rfl rfl rfl)⟩, trivial⟩ ?_
      refine K_sub (F' := [(106, .bool false), (6, .bool false), (7, Slc nb4 0 61 cp1), (8, .nilIface), (13, .slice none 0 0), (14, .iface 43 (I64 (1:Int)))]) (Sub.cons (by kernel_rfl) (Sub.cons (by kernel_rfl) (Sub.cons (by kernel_rfl) (Sub.cons (by kernel_rfl) (Sub.cons (by kernel_rfl) (Sub.cons (by kernel_rfl) (Sub.nil))))))) ?_
      show JQ _ _ _ [(106, .bool false), (6, .bool false), (7, Slc nb4 0 61 cp1), (8, .nilIface), (13, .slice none 0 0), (14, .iface 43 (I64 (1:Int)))] _
      refine JQ_then ?_
      refine JC_condF _ rfl rfl ?_
      refine JC_skip ?_
      refine JQ_then ?_
      refine JC_seq ?_
      refine JC_region ?_
      refine JL_val _ (Ev_move rfl) rfl ?_
      refine JL_val (.bool false) (Ev_bin _ _ _ rfl rfl (fun _ => eqGuard_nn ..) fun _ => neq_if_nil_nil Tryd.underlying39) rfl ?_
      refine JL_val _ (Ev_move rfl) rfl ?_
      refine JL_gval 2 109 false _ _ rfl rfl rfl (Ev_move rfl) rfl ?_
      refine JL_gval 2 109 false _ (.bool true) rfl rfl rfl (Ev_bin _ _ _ rfl rfl (fun _ => eqGuard_if ..) fun _ => neq_if_nil Tryd.underlying39) rfl ?_
      refine JL_val _ (Ev_pickF _ rfl rfl rfl) rfl ?_
      refine JL_val _ (Ev_move rfl) rfl ?_
      refine JL_gskip 6 113 false _ rfl rfl rfl rfl ?_
      refine JL_gskip 6 113 false _ rfl rfl rfl rfl ?_
      refine JL_gskip 6 113 false _ rfl rfl rfl rfl ?_
      refine JL_gskip 6 113 false _ rfl rfl rfl rfl ?_
      refine JL_gskip 6 113 false _ rfl rfl rfl rfl ?_
      refine JL_gskip 6 113 false _ rfl rfl rfl rfl ?_
      refine JL_gskipU 12 119 true rfl rfl rfl ?_
      refine JL_gskipU 12 119 true rfl rfl rfl ?_
      refine JL_gskipU 12 119 true rfl rfl rfl ?_
      refine JL_gskipU 12 119 true rfl rfl rfl ?_
      refine JL_gskipU 12 119 true rfl rfl rfl ?_
      refine JL_gskip 6 113 false _ rfl rfl rfl rfl ?_
      refine JL_val _ (Ev_pickT _ rfl rfl rfl) rfl ?_
      refine JL_val _ (Ev_assign rfl) rfl ?_
      refine JL_nil ?_
      refine JQ_then ?_
      refine JC_ret ?_
      refine JQ_ret (.bool true) (res1 Tryd.results20 (RV_tmp rfl)) fun w1 hw1 => ?_
      exact ⟨_, [], rfl, ⟨by rw [show (true) = true from rfl], rfl⟩, hw1.sub (by simp) (by simp)⟩

theorem nodeAp13_c (x y e1 : UInt64) (d1 t1 : List UInt8) (e2 : UInt64) (d2 t2 : List UInt8) (a : Nat) (b : Nat)  (w : World) (hd1 : d1.length = 32) (ht1 : t1.length = 16) (hd2 : d2.length = 32) (ht2 : t2.length = 16) (hG : GLs w) (hx : ¬ (4294967295:UInt64) < x) (hy : (4294967295:UInt64) < y) (ha : 1 ≤ a ∧ a ≤ 32) (hb : 1 ≤ b ∧ b ≤ 32)  : Calls Tryd.prog 20 #[.agg (List.toArray (α := Value) ([U64 x, U64 y])), .agg (List.toArray (α := Value) ([U64 e1] ++ cu8 d1 ++ cu8 t1 ++ [U64 e2] ++ cu8 d2 ++ cu8 t2)), .agg (List.toArray (α := Value) ([I64 ((a:Int)), I64 ((b:Int))]))] w (Post w [] (fun v L => v = .bool true ∧ L = [])) := by
  have hmx : maxLen = 9223372036854775807 := rfl
  refine enter (P := Tryd.prog) (f := 20) (fn := Tryd.f20) w [] 127 [] [.agg (List.toArray (α := Value) ([U64 x, U64 y])), .agg (List.toArray (α := Value) ([U64 e1] ++ cu8 d1 ++ cu8 t1 ++ [U64 e2] ++ cu8 d2 ++ cu8 t2)), .agg (List.toArray (α := Value) ([I64 ((a:Int)), I64 ((b:Int))]))] Tryd.func20 rfl rfl (by simp) (Hp.start (by simp) (by simp) (by simp)) ?_
  show JC _ _ _ [(0, .agg (List.toArray (α := Value) ([U64 x, U64 y]))), (1, .agg (List.toArray (α := Value) ([U64 e1] ++ cu8 d1 ++ cu8 t1 ++ [U64 e2] ++ cu8 d2 ++ cu8 t2))), (2, .agg (List.toArray (α := Value) ([I64 ((a:Int)), I64 ((b:Int))])))] _
  refine JC_seq ?_
  refine JC_region ?_
  refine JL_step (Step_box (.agg (List.toArray (α := Value) ([U64 x, U64 y]))) ([U64 x, U64 y]) rfl (by first | rfl | simp)) rfl ?_
  rintro v1 L1 ⟨nb1, hnb1, rfl, rfl⟩
  show JL _ _ _ _ ((3, Ptr nb1 0) :: _) [⟨nb1, [U64 x, U64 y], 68, (0, 0)⟩]
  refine JL_step (Step_box (.agg (List.toArray (α := Value) ([U64 e1] ++ cu8 d1 ++ cu8 t1 ++ [U64 e2] ++ cu8 d2 ++ cu8 t2))) ([U64 e1] ++ cu8 d1 ++ cu8 t1 ++ [U64 e2] ++ cu8 d2 ++ cu8 t2) rfl (by first | rfl | simp)) rfl ?_
  rintro v1 L1 ⟨nb2, hnb2, rfl, rfl⟩
  show JL _ _ _ _ ((4, Ptr nb2 0) :: _) [⟨nb1, [U64 x, U64 y], 68, (0, 0)⟩, ⟨nb2, [U64 e1] ++ cu8 d1 ++ cu8 t1 ++ [U64 e2] ++ cu8 d2 ++ cu8 t2, 113, (0, 0)⟩]
  refine JL_step (Step_box (.agg (List.toArray (α := Value) ([I64 ((a:Int)), I64 ((b:Int))]))) ([I64 ((a:Int)), I64 ((b:Int))]) rfl (by first | rfl | simp)) rfl ?_
  rintro v1 L1 ⟨nb3, hnb3, rfl, rfl⟩
  show JL _ _ _ _ ((5, Ptr nb3 0) :: _) [⟨nb1, [U64 x, U64 y], 68, (0, 0)⟩, ⟨nb2, [U64 e1] ++ cu8 d1 ++ cu8 t1 ++ [U64 e2] ++ cu8 d2 ++ cu8 t2, 113, (0, 0)⟩, ⟨nb3, [I64 ((a:Int)), I64 ((b:Int))], 95, (0, 0)⟩]
  refine JL_val _ (Ev_assign rfl) rfl ?_
  refine JL_nil ?_
  refine JQ_then ?_
  refine JC_seq ?_
  refine JC_seq ?_
  refine JC_region ?_
  refine JL_step (Step_callP 69 [] (.bool true) (Cl_func [] Tryd.call69 rfl) (fun w1 hw1 => alive8_c  w1 (hG.at hw1))) rfl ?_
  rintro v1 L1 ⟨rfl, rfl⟩
  show JL _ _ _ _ ((17, .bool true) :: _) [⟨nb1, [U64 x, U64 y], 68, (0, 0)⟩, ⟨nb2, [U64 e1] ++ cu8 d1 ++ cu8 t1 ++ [U64 e2] ++ cu8 d2 ++ cu8 t2, 113, (0, 0)⟩, ⟨nb3, [I64 ((a:Int)), I64 ((b:Int))], 95, (0, 0)⟩]
  refine JL_val (.bool (!true)) (Ev_not rfl) rfl ?_
  refine JL_nil ?_
  refine JQ_then ?_
  refine JC_condF _ rfl rfl ?_
  refine JC_skip ?_
  refine JQ_then ?_
  refine JC_seq ?_
  refine JC_region ?_
  refine JL_val (Ptr nb1 0) (Ev_indexArr 2 58 1 0 Tryd.underlying68 Tryd.sizeOf58 rfl rfl (by omega) (by omega) (by omega)) rfl ?_
  refine JL_val (U64 x) (Ev_load rfl (Ld_one Tryd.isAgg58 (MemAt.ent 0 rfl (Seg.head)))) rfl ?_
  refine JL_val (Ptr nb2 0) (Ev_indexArr 2 76 49 0 Tryd.underlying113 Tryd.sizeOf76 rfl rfl (by omega) (by omega) (by omega)) rfl ?_
  refine JL_val (.agg (List.toArray (α := Value) ([U64 e1] ++ cu8 d1 ++ cu8 t1))) (Ev_load rfl (Ld_agg Tryd.isAgg76 Tryd.sizeOf76 (by simp [hd1, ht1]) (MemAt.ent 1 rfl (Seg.split (p := []) (q := [U64 e2] ++ cu8 d2 ++ cu8 t2) (vs := [U64 e1] ++ cu8 d1 ++ cu8 t1) (by first | rfl | (simp only [List.append_assoc, List.nil_append, List.append_nil, List.cons_append]; done)) rfl)))) rfl ?_
  refine JL_step (Step_callN 79 [U64 x, .agg (List.toArray (α := Value) ([U64 e1] ++ cu8 d1 ++ cu8 t1))] _ (Cl_func [U64 x, .agg (List.toArray (α := Value) ([U64 e1] ++ cu8 d1 ++ cu8 t1))] Tryd.call79 rfl) (fun w1 hw1 => leafText_c x e1 d1 t1 w1 hd1 ht1 (shr4z hx))) rfl ?_
  rintro v1 L1 ⟨_, ⟨nb4, sp1, cp1, rfl, rfl, hc1, hc2, hc3⟩, rfl⟩
  show JL _ _ _ _ ((24, .tuple #[Slc nb4 0 61 cp1, .nilIface]) :: _) [⟨nb1, [U64 x, U64 y], 68, (0, 0)⟩, ⟨nb2, [U64 e1] ++ cu8 d1 ++ cu8 t1 ++ [U64 e2] ++ cu8 d2 ++ cu8 t2, 113, (0, 0)⟩, ⟨nb3, [I64 ((a:Int)), I64 ((b:Int))], 95, (0, 0)⟩, ⟨nb4, cu8 (leafT x e1 d1 t1) ++ sp1, 5, (0, 0)⟩]
  refine JL_val _ (Ev_move rfl) rfl ?_
  refine JL_val _ (Ev_extract rfl rfl) rfl ?_
  refine JL_val _ (Ev_extract rfl rfl) rfl ?_
  refine JL_val _ (Ev_assign rfl) rfl ?_
  refine JL_val _ (Ev_assign rfl) rfl ?_
  refine JL_nil ?_
  refine JQ_then ?_
  refine JC_seq ?_
  refine JC_region ?_
  refine JL_val (Ptr nb1 1) (Ev_indexArr 2 58 1 1 Tryd.underlying68 Tryd.sizeOf58 rfl rfl (by omega) (by omega) (by omega)) rfl ?_
  refine JL_val (U64 y) (Ev_load rfl (Ld_one Tryd.isAgg58 (MemAt.ent 0 rfl (Seg.tail (Seg.head))))) rfl ?_
  refine JL_val (Ptr nb2 49) (Ev_indexArr 2 76 49 49 Tryd.underlying113 Tryd.sizeOf76 rfl rfl (by omega) (by omega) (by omega)) rfl ?_
  refine JL_val (.agg (List.toArray (α := Value) ([U64 e2] ++ cu8 d2 ++ cu8 t2))) (Ev_load rfl (Ld_agg Tryd.isAgg76 Tryd.sizeOf76 (by simp [hd2, ht2]) (MemAt.ent 1 rfl (Seg.split (p := [U64 e1] ++ cu8 d1 ++ cu8 t1) (q := []) (vs := [U64 e2] ++ cu8 d2 ++ cu8 t2) (by first | rfl | (simp only [List.append_assoc, List.nil_append, List.append_nil, List.cons_append]; done)) (by simp [hd1, ht1]))))) rfl ?_
  refine JL_step (Step_callP 79 [U64 y, .agg (List.toArray (α := Value) ([U64 e2] ++ cu8 d2 ++ cu8 t2))] (.tuple #[.slice none 0 0, .iface 43 (I64 (1:Int))]) (Cl_func [U64 y, .agg (List.toArray (α := Value) ([U64 e2] ++ cu8 d2 ++ cu8 t2))] Tryd.call79 rfl) (fun w1 hw1 => leafTextB_c y e2 d2 t2 w1 hd2 ht2 (shr4n hy))) rfl ?_
  rintro v1 L1 ⟨rfl, rfl⟩
  show JL _ _ _ _ ((32, .tuple #[.slice none 0 0, .iface 43 (I64 (1:Int))]) :: _) [⟨nb1, [U64 x, U64 y], 68, (0, 0)⟩, ⟨nb2, [U64 e1] ++ cu8 d1 ++ cu8 t1 ++ [U64 e2] ++ cu8 d2 ++ cu8 t2, 113, (0, 0)⟩, ⟨nb3, [I64 ((a:Int)), I64 ((b:Int))], 95, (0, 0)⟩, ⟨nb4, cu8 (leafT x e1 d1 t1) ++ sp1, 5, (0, 0)⟩]
  refine JL_val _ (Ev_move rfl) rfl ?_
  refine JL_val _ (Ev_extract rfl rfl) rfl ?_
  refine JL_val _ (Ev_extract rfl rfl) rfl ?_
  refine JL_val _ (Ev_assign rfl) rfl ?_
  refine JL_val _ (Ev_assign rfl) rfl ?_
  refine JL_nil ?_
  refine JQ_then ?_
  refine JC_seq ?_
  refine JC_seq ?_
  refine JC_draw 127 1 [(0, .nilIface), (1, .bool true), (2, .bool true), (3, .iface 43 (I64 (1:Int))), (4, .bool false), (5, .bool false), (6, .bool false), (7, undef), (8, undef), (9, undef), (10, undef), (11, undef), (12, undef), (13, undef), (14, undef), (15, undef), (16, undef), (17, undef), (18, undef), (19, undef), (20, undef), (21, undef), (22, undef), (23, undef), (24, undef), (25, .bool false)] Tryd.mixed rfl (by decide +kernel) ?_
  refine DP_end ⟨[], [0, 1, 2, 3, 4, 5, 6, 7, 8, 9, 10, 11, 12, 13, 14, 15, 16, 17, 18, 19, 20, 21, 22, 23, 24, 25], [], [0, 1, 2, 3, 4, 5, 6, 7, 8, 9, 10, 11, 12, 13, 14, 15, 16, 17, 18, 19, 20, 21, 22, 23, 24, 25], []⟩ rfl rfl (by decide +kernel) rfl ⟨⟨_, rfl, Qok_val rfl (Ev_move rfl)⟩, ⟨_, rfl, Qok_val rfl (Ev_bin _ _ _ rfl rfl (fun _ => eqGuard_nn ..) fun _ => eql_if_nil_nil Tryd.underlying39)⟩, ⟨_, rfl, Qok_val rfl (Ev_move rfl)⟩, ⟨_, rfl, Qok_gval 2 37 true _ rfl rfl rfl rfl (Ev_move rfl)⟩, ⟨_, rfl, Qok_gval 2 37 true _ rfl rfl rfl rfl (Ev_bin _ _ _ rfl rfl (fun _ => eqGuard_if ..) fun _ => eql_if_nil Tryd.underlying39)⟩, ⟨_, rfl, Qok_val rfl (Ev_pickT _ rfl rfl rfl)⟩, ⟨_, rfl, Qok_val rfl (Ev_move rfl)⟩, ⟨_, rfl, Qok_gskip 6 41 true _ rfl rfl rfl rfl⟩, ⟨_, rfl, Qok_gskip 6 41 true _ rfl rfl rfl rfl⟩, ⟨_, rfl, Qok_gskip 6 41 true _ rfl rfl rfl rfl⟩, ⟨_, rfl, Qok_gskip 6 41 true _ rfl rfl rfl rfl⟩, ⟨_, rfl, Qok_gskip 6 41 true _ rfl rfl rfl rfl⟩, ⟨_, rfl, Qok_gskip 6 41 true _ rfl rfl rfl rfl⟩, ⟨_, rfl, Qok_gskip 6 41 true _ rfl rfl rfl rfl⟩, ⟨_, rfl, Qok_gskip 6 41 true _ rfl rfl rfl rfl⟩, ⟨_, rfl, Qok_gskip 6 41 true _ rfl rfl rfl rfl⟩, ⟨_, rfl, Qok_gskip 6 41 true _ rfl rfl rfl rfl⟩, ⟨_, rfl, Qok_gskip 6 41 true _ rfl rfl rfl rfl⟩, ⟨_, rfl, Qok_gskipU 17 52 true rfl rfl rfl⟩, ⟨_, rfl, Qok_gskipU 17 52 true rfl rfl rfl⟩, ⟨_, rfl, Qok_gskipU 17 52 true rfl rfl rfl⟩, ⟨_, rfl, Qok_gskipU 17 52 true rfl rfl rfl⟩, ⟨_, rfl, Qok_gskipU 17 52 true rfl rfl rfl⟩, ⟨_, rfl, Qok_gskip 6 41 true _ rfl rfl rfl rfl⟩, ⟨_, rfl, Qok_gskip 6 41 true _ rfl rfl rfl rfl⟩, ⟨_, rfl, Qok_val rfl (Ev_pickF _ rfl rfl rfl)⟩, trivial⟩ ?_
  refine K_sub (F' := [(60, .bool false), (4, Ptr nb2 0), (5, Ptr nb3 0), (6, .bool false), (7, Slc nb4 0 61 cp1), (8, .nilIface)]) (Sub.cons (by kernel_rfl) (Sub.cons (by kernel_rfl) (Sub.cons (by kernel_rfl) (Sub.cons (by kernel_rfl) (Sub.cons (by kernel_rfl) (Sub.cons (by kernel_rfl) (Sub.nil))))))) ?_
  show JQ _ _ _ [(60, .bool false), (4, Ptr nb2 0), (5, Ptr nb3 0), (6, .bool false), (7, Slc nb4 0 61 cp1), (8, .nilIface)] _
  refine JQ_then ?_
  refine JC_condF _ rfl rfl ?_
  refine JC_skip ?_
  refine JQ_then ?_
  refine JC_seq ?_
  refine JC_cut (ι := Nat × Nat) (fun ⟨ynb0, ynb1⟩ => [(5, Ptr nb3 0), (6, .bool false), (7, Slc nb4 0 61 cp1), (8, .nilIface), (11, Ptr ynb0 0), (12, Ptr ynb1 0)]) (fun ⟨ynb0, ynb1⟩ => [⟨nb3, [I64 ((a:Int)), I64 ((b:Int))], 95, (0, 0)⟩, ⟨nb4, cu8 (leafT x e1 d1 t1) ++ sp1, 5, (0, 0)⟩, ⟨ynb0, cu8 d1, 25, (0, 0)⟩, ⟨ynb1, cu8 d2, 25, (0, 0)⟩]) (fun ⟨ynb0, ynb1⟩ => True) ?_ ?_
  ·
    refine JC_draw 127 5 [(0, Ptr nb2 0), (1, Ptr nb2 1), (2, .agg (cu8 d1).toArray), (3, Ptr nb2 49), (4, Ptr nb2 50), (5, .agg (cu8 d2).toArray)] Tryd.mixed rfl (by decide +kernel) ?_
    refine DP_two ⟨[], [0, 1, 2, 3, 4, 5], [], [0, 1, 2, 3, 4, 5], [6, 7]⟩ 6 7 _ _ rfl rfl (by decide +kernel) rfl ⟨⟨_, rfl, Qok_val rfl (Ev_indexArr 2 76 49 0 Tryd.underlying113 Tryd.sizeOf76 rfl rfl (by omega) (by omega) (by omega))⟩, ⟨_, rfl, Qok_val rfl (Ev_fieldAddr 1 74 32 Tryd.underlying76 rfl Tryd.sizeOf74 rfl rfl)⟩, ⟨_, rfl, Qok_val rfl (Ev_load rfl (Ld_agg Tryd.isAgg74 Tryd.sizeOf74 (len_cu8 hd1) (MemAt.ent 1 rfl (Seg.left (Seg.left (Seg.left (Seg.left (Seg.right 1 0 rfl rfl (Seg.whole _)))))))))⟩, ⟨_, rfl, Qok_val rfl (Ev_indexArr 2 76 49 49 Tryd.underlying113 Tryd.sizeOf76 rfl rfl (by omega) (by omega) (by omega))⟩, ⟨_, rfl, Qok_val rfl (Ev_fieldAddr 1 74 32 Tryd.underlying76 rfl Tryd.sizeOf74 rfl rfl)⟩, ⟨_, rfl, Qok_val rfl (Ev_load rfl (Ld_agg Tryd.isAgg74 Tryd.sizeOf74 (len_cu8 hd2) (MemAt.ent 1 rfl (Seg.left (Seg.right 50 0 (by simp [hd1, ht1]) rfl (Seg.whole _))))))⟩, trivial⟩ rfl rfl (Cok_step rfl (Step_alloc _ (cu8 (zr8 32)) Tryd.zeroValue25 (by kernel_rfl))) (Cok_step rfl (Step_alloc _ (cu8 (zr8 32)) Tryd.zeroValue25 (by kernel_rfl))) ?_ ?_
    ·
      rintro v1 L1 ⟨nb5, hnb5, rfl, rfl⟩
      refine ⟨[], ?_⟩
      show DP _ _ _ _ _ _ _ _ [⟨nb1, [U64 x, U64 y], 68, (0, 0)⟩, ⟨nb2, [U64 e1] ++ cu8 d1 ++ cu8 t1 ++ [U64 e2] ++ cu8 d2 ++ cu8 t2, 113, (0, 0)⟩, ⟨nb3, [I64 ((a:Int)), I64 ((b:Int))], 95, (0, 0)⟩, ⟨nb4, cu8 (leafT x e1 d1 t1) ++ sp1, 5, (0, 0)⟩, ⟨nb5, cu8 (zr8 32), 25, (0, 0)⟩]
      refine DP_one ⟨[6], [0, 1, 2, 3, 4, 5], [], [0, 1, 2, 3, 4, 5], [7]⟩ 7 _ rfl rfl (by decide +kernel) rfl ⟨⟨_, rfl, Qok_val rfl (Ev_indexArr 2 76 49 0 Tryd.underlying113 Tryd.sizeOf76 rfl rfl (by omega) (by omega) (by omega))⟩, ⟨_, rfl, Qok_val rfl (Ev_fieldAddr 1 74 32 Tryd.underlying76 rfl Tryd.sizeOf74 rfl rfl)⟩, ⟨_, rfl, Qok_val rfl (Ev_load rfl (Ld_agg Tryd.isAgg74 Tryd.sizeOf74 (len_cu8 hd1) (MemAt.ent 1 rfl (Seg.left (Seg.left (Seg.left (Seg.left (Seg.right 1 0 rfl rfl (Seg.whole _)))))))))⟩, ⟨_, rfl, Qok_val rfl (Ev_indexArr 2 76 49 49 Tryd.underlying113 Tryd.sizeOf76 rfl rfl (by omega) (by omega) (by omega))⟩, ⟨_, rfl, Qok_val rfl (Ev_fieldAddr 1 74 32 Tryd.underlying76 rfl Tryd.sizeOf74 rfl rfl)⟩, ⟨_, rfl, Qok_val rfl (Ev_load rfl (Ld_agg Tryd.isAgg74 Tryd.sizeOf74 (len_cu8 hd2) (MemAt.ent 1 rfl (Seg.left (Seg.right 50 0 (by simp [hd1, ht1]) rfl (Seg.whole _))))))⟩, trivial⟩ rfl (Cok_step rfl (Step_alloc _ (cu8 (zr8 32)) Tryd.zeroValue25 (by kernel_rfl))) ?_
      rintro v1 L1 ⟨nb7, hnb7, rfl, rfl⟩
      refine ⟨[], ?_⟩
      show DP _ _ _ _ _ _ _ _ [⟨nb1, [U64 x, U64 y], 68, (0, 0)⟩, ⟨nb2, [U64 e1] ++ cu8 d1 ++ cu8 t1 ++ [U64 e2] ++ cu8 d2 ++ cu8 t2, 113, (0, 0)⟩, ⟨nb3, [I64 ((a:Int)), I64 ((b:Int))], 95, (0, 0)⟩, ⟨nb4, cu8 (leafT x e1 d1 t1) ++ sp1, 5, (0, 0)⟩, ⟨nb5, cu8 (zr8 32), 25, (0, 0)⟩, ⟨nb7, cu8 (zr8 32), 25, (0, 0)⟩]
      refine DP_one ⟨[6, 7], [0, 1, 2, 3, 4, 5], [], [0, 1, 2, 3, 4, 5], [8]⟩ 8 _ rfl rfl (by decide +kernel) rfl ⟨⟨_, rfl, Qok_val rfl (Ev_indexArr 2 76 49 0 Tryd.underlying113 Tryd.sizeOf76 rfl rfl (by omega) (by omega) (by omega))⟩, ⟨_, rfl, Qok_val rfl (Ev_fieldAddr 1 74 32 Tryd.underlying76 rfl Tryd.sizeOf74 rfl rfl)⟩, ⟨_, rfl, Qok_val rfl (Ev_load rfl (Ld_agg Tryd.isAgg74 Tryd.sizeOf74 (len_cu8 hd1) (MemAt.ent 1 rfl (Seg.left (Seg.left (Seg.left (Seg.left (Seg.right 1 0 rfl rfl (Seg.whole _)))))))))⟩, ⟨_, rfl, Qok_val rfl (Ev_indexArr 2 76 49 49 Tryd.underlying113 Tryd.sizeOf76 rfl rfl (by omega) (by omega) (by omega))⟩, ⟨_, rfl, Qok_val rfl (Ev_fieldAddr 1 74 32 Tryd.underlying76 rfl Tryd.sizeOf74 rfl rfl)⟩, ⟨_, rfl, Qok_val rfl (Ev_load rfl (Ld_agg Tryd.isAgg74 Tryd.sizeOf74 (len_cu8 hd2) (MemAt.ent 1 rfl (Seg.left (Seg.right 50 0 (by simp [hd1, ht1]) rfl (Seg.whole _))))))⟩, trivial⟩ rfl (Cok_step rfl (Step_store 4 nb5 0 32 (cu8 (zr8 32)) 25 (.agg (cu8 d1).toArray) (cu8 d1) (cu8 d1) rfl rfl rfl (by first | rfl | simp) Tryd.sizeOf25 (len_cu8 hd1) (by first | exact one_u8 | exact one_u32 | exact one_u64 | (simp [cu8, cu32, cu64, Value.oneCell']; done)) (by simp [(zr8_len 32)]) (lay_whole (by simp [(zr8_len 32), hd1])))) ?_
      rintro v1 L1 ⟨rfl, rfl⟩
      refine ⟨[], ?_⟩
      show DP _ _ _ _ _ _ _ _ [⟨nb1, [U64 x, U64 y], 68, (0, 0)⟩, ⟨nb2, [U64 e1] ++ cu8 d1 ++ cu8 t1 ++ [U64 e2] ++ cu8 d2 ++ cu8 t2, 113, (0, 0)⟩, ⟨nb3, [I64 ((a:Int)), I64 ((b:Int))], 95, (0, 0)⟩, ⟨nb4, cu8 (leafT x e1 d1 t1) ++ sp1, 5, (0, 0)⟩, ⟨nb5, cu8 d1, 25, (0, 0)⟩, ⟨nb7, cu8 (zr8 32), 25, (0, 0)⟩]
      refine DP_one ⟨[6, 7, 8], [0, 1, 2, 3, 4, 5], [0, 1, 2], [3, 4, 5], [9]⟩ 9 _ rfl rfl (by decide +kernel) rfl ⟨⟨_, rfl, Qok_val rfl (Ev_indexArr 2 76 49 49 Tryd.underlying113 Tryd.sizeOf76 rfl rfl (by omega) (by omega) (by omega))⟩, ⟨_, rfl, Qok_val rfl (Ev_fieldAddr 1 74 32 Tryd.underlying76 rfl Tryd.sizeOf74 rfl rfl)⟩, ⟨_, rfl, Qok_val rfl (Ev_load rfl (Ld_agg Tryd.isAgg74 Tryd.sizeOf74 (len_cu8 hd2) (MemAt.ent 1 rfl (Seg.left (Seg.right 50 0 (by simp [hd1, ht1]) rfl (Seg.whole _))))))⟩, trivial⟩ rfl (Cok_step rfl (Step_store 5 nb7 0 32 (cu8 (zr8 32)) 25 (.agg (cu8 d2).toArray) (cu8 d2) (cu8 d2) rfl rfl rfl (by first | rfl | simp) Tryd.sizeOf25 (len_cu8 hd2) (by first | exact one_u8 | exact one_u32 | exact one_u64 | (simp [cu8, cu32, cu64, Value.oneCell']; done)) (by simp [(zr8_len 32)]) (lay_whole (by simp [(zr8_len 32), hd2])))) ?_
      rintro v1 L1 ⟨rfl, rfl⟩
      refine ⟨[], ?_⟩
      show DP _ _ _ _ _ _ _ _ [⟨nb1, [U64 x, U64 y], 68, (0, 0)⟩, ⟨nb2, [U64 e1] ++ cu8 d1 ++ cu8 t1 ++ [U64 e2] ++ cu8 d2 ++ cu8 t2, 113, (0, 0)⟩, ⟨nb3, [I64 ((a:Int)), I64 ((b:Int))], 95, (0, 0)⟩, ⟨nb4, cu8 (leafT x e1 d1 t1) ++ sp1, 5, (0, 0)⟩, ⟨nb5, cu8 d1, 25, (0, 0)⟩, ⟨nb7, cu8 d2, 25, (0, 0)⟩]
      refine DP_end ⟨[6, 7, 8, 9], [0, 1, 2, 3, 4, 5], [0, 1, 2, 3, 4, 5], [], []⟩ rfl rfl (by decide +kernel) rfl trivial ?_
      refine K_sub (F' := [(11, Ptr nb5 0), (12, Ptr nb7 0), (5, Ptr nb3 0), (6, .bool false), (7, Slc nb4 0 61 cp1), (8, .nilIface)]) (Sub.cons (by kernel_rfl) (Sub.cons (by kernel_rfl) (Sub.cons (by kernel_rfl) (Sub.cons (by kernel_rfl) (Sub.cons (by kernel_rfl) (Sub.cons (by kernel_rfl) (Sub.nil))))))) ?_
      show JQ _ _ _ [(11, Ptr nb5 0), (12, Ptr nb7 0), (5, Ptr nb3 0), (6, .bool false), (7, Slc nb4 0 61 cp1), (8, .nilIface)] _
      refine K_pick [2, 3, 4, 5] (by decide) ?_
      show JQ _ _ _ _ [⟨nb3, [I64 ((a:Int)), I64 ((b:Int))], 95, (0, 0)⟩, ⟨nb4, cu8 (leafT x e1 d1 t1) ++ sp1, 5, (0, 0)⟩, ⟨nb5, cu8 d1, 25, (0, 0)⟩, ⟨nb7, cu8 d2, 25, (0, 0)⟩]
      refine JQ_cut (nb5, nb7) trivial (Sub.cons rfl (Sub.cons rfl (Sub.cons rfl (Sub.cons rfl (Sub.cons rfl (Sub.cons rfl (Sub.nil))))))) rfl
    ·
      rintro v1 L1 ⟨nb6, hnb6, rfl, rfl⟩
      refine ⟨[], ?_⟩
      show DP _ _ _ _ _ _ _ _ [⟨nb1, [U64 x, U64 y], 68, (0, 0)⟩, ⟨nb2, [U64 e1] ++ cu8 d1 ++ cu8 t1 ++ [U64 e2] ++ cu8 d2 ++ cu8 t2, 113, (0, 0)⟩, ⟨nb3, [I64 ((a:Int)), I64 ((b:Int))], 95, (0, 0)⟩, ⟨nb4, cu8 (leafT x e1 d1 t1) ++ sp1, 5, (0, 0)⟩, ⟨nb6, cu8 (zr8 32), 25, (0, 0)⟩]
      refine DP_one ⟨[7], [0, 1, 2, 3, 4, 5], [], [0, 1, 2, 3, 4, 5], [6]⟩ 6 _ rfl rfl (by decide +kernel) rfl ⟨⟨_, rfl, Qok_val rfl (Ev_indexArr 2 76 49 0 Tryd.underlying113 Tryd.sizeOf76 rfl rfl (by omega) (by omega) (by omega))⟩, ⟨_, rfl, Qok_val rfl (Ev_fieldAddr 1 74 32 Tryd.underlying76 rfl Tryd.sizeOf74 rfl rfl)⟩, ⟨_, rfl, Qok_val rfl (Ev_load rfl (Ld_agg Tryd.isAgg74 Tryd.sizeOf74 (len_cu8 hd1) (MemAt.ent 1 rfl (Seg.left (Seg.left (Seg.left (Seg.left (Seg.right 1 0 rfl rfl (Seg.whole _)))))))))⟩, ⟨_, rfl, Qok_val rfl (Ev_indexArr 2 76 49 49 Tryd.underlying113 Tryd.sizeOf76 rfl rfl (by omega) (by omega) (by omega))⟩, ⟨_, rfl, Qok_val rfl (Ev_fieldAddr 1 74 32 Tryd.underlying76 rfl Tryd.sizeOf74 rfl rfl)⟩, ⟨_, rfl, Qok_val rfl (Ev_load rfl (Ld_agg Tryd.isAgg74 Tryd.sizeOf74 (len_cu8 hd2) (MemAt.ent 1 rfl (Seg.left (Seg.right 50 0 (by simp [hd1, ht1]) rfl (Seg.whole _))))))⟩, trivial⟩ rfl (Cok_step rfl (Step_alloc _ (cu8 (zr8 32)) Tryd.zeroValue25 (by kernel_rfl))) ?_
      rintro v1 L1 ⟨nb8, hnb8, rfl, rfl⟩
      refine ⟨[], ?_⟩
      show DP _ _ _ _ _ _ _ _ [⟨nb1, [U64 x, U64 y], 68, (0, 0)⟩, ⟨nb2, [U64 e1] ++ cu8 d1 ++ cu8 t1 ++ [U64 e2] ++ cu8 d2 ++ cu8 t2, 113, (0, 0)⟩, ⟨nb3, [I64 ((a:Int)), I64 ((b:Int))], 95, (0, 0)⟩, ⟨nb4, cu8 (leafT x e1 d1 t1) ++ sp1, 5, (0, 0)⟩, ⟨nb6, cu8 (zr8 32), 25, (0, 0)⟩, ⟨nb8, cu8 (zr8 32), 25, (0, 0)⟩]
      refine DP_one ⟨[7, 6], [0, 1, 2, 3, 4, 5], [], [0, 1, 2, 3, 4, 5], [8]⟩ 8 _ rfl rfl (by decide +kernel) rfl ⟨⟨_, rfl, Qok_val rfl (Ev_indexArr 2 76 49 0 Tryd.underlying113 Tryd.sizeOf76 rfl rfl (by omega) (by omega) (by omega))⟩, ⟨_, rfl, Qok_val rfl (Ev_fieldAddr 1 74 32 Tryd.underlying76 rfl Tryd.sizeOf74 rfl rfl)⟩, ⟨_, rfl, Qok_val rfl (Ev_load rfl (Ld_agg Tryd.isAgg74 Tryd.sizeOf74 (len_cu8 hd1) (MemAt.ent 1 rfl (Seg.left (Seg.left (Seg.left (Seg.left (Seg.right 1 0 rfl rfl (Seg.whole _)))))))))⟩, ⟨_, rfl, Qok_val rfl (Ev_indexArr 2 76 49 49 Tryd.underlying113 Tryd.sizeOf76 rfl rfl (by omega) (by omega) (by omega))⟩, ⟨_, rfl, Qok_val rfl (Ev_fieldAddr 1 74 32 Tryd.underlying76 rfl Tryd.sizeOf74 rfl rfl)⟩, ⟨_, rfl, Qok_val rfl (Ev_load rfl (Ld_agg Tryd.isAgg74 Tryd.sizeOf74 (len_cu8 hd2) (MemAt.ent 1 rfl (Seg.left (Seg.right 50 0 (by simp [hd1, ht1]) rfl (Seg.whole _))))))⟩, trivial⟩ rfl (Cok_step rfl (Step_store 5 nb8 0 32 (cu8 (zr8 32)) 25 (.agg (cu8 d1).toArray) (cu8 d1) (cu8 d1) rfl rfl rfl (by first | rfl | simp) Tryd.sizeOf25 (len_cu8 hd1) (by first | exact one_u8 | exact one_u32 | exact one_u64 | (simp [cu8, cu32, cu64, Value.oneCell']; done)) (by simp [(zr8_len 32)]) (lay_whole (by simp [(zr8_len 32), hd1])))) ?_
      rintro v1 L1 ⟨rfl, rfl⟩
      refine ⟨[], ?_⟩
      show DP _ _ _ _ _ _ _ _ [⟨nb1, [U64 x, U64 y], 68, (0, 0)⟩, ⟨nb2, [U64 e1] ++ cu8 d1 ++ cu8 t1 ++ [U64 e2] ++ cu8 d2 ++ cu8 t2, 113, (0, 0)⟩, ⟨nb3, [I64 ((a:Int)), I64 ((b:Int))], 95, (0, 0)⟩, ⟨nb4, cu8 (leafT x e1 d1 t1) ++ sp1, 5, (0, 0)⟩, ⟨nb6, cu8 (zr8 32), 25, (0, 0)⟩, ⟨nb8, cu8 d1, 25, (0, 0)⟩]
      refine DP_one ⟨[7, 6, 8], [0, 1, 2, 3, 4, 5], [0, 1, 2], [3, 4, 5], [9]⟩ 9 _ rfl rfl (by decide +kernel) rfl ⟨⟨_, rfl, Qok_val rfl (Ev_indexArr 2 76 49 49 Tryd.underlying113 Tryd.sizeOf76 rfl rfl (by omega) (by omega) (by omega))⟩, ⟨_, rfl, Qok_val rfl (Ev_fieldAddr 1 74 32 Tryd.underlying76 rfl Tryd.sizeOf74 rfl rfl)⟩, ⟨_, rfl, Qok_val rfl (Ev_load rfl (Ld_agg Tryd.isAgg74 Tryd.sizeOf74 (len_cu8 hd2) (MemAt.ent 1 rfl (Seg.left (Seg.right 50 0 (by simp [hd1, ht1]) rfl (Seg.whole _))))))⟩, trivial⟩ rfl (Cok_step rfl (Step_store 4 nb6 0 32 (cu8 (zr8 32)) 25 (.agg (cu8 d2).toArray) (cu8 d2) (cu8 d2) rfl rfl rfl (by first | rfl | simp) Tryd.sizeOf25 (len_cu8 hd2) (by first | exact one_u8 | exact one_u32 | exact one_u64 | (simp [cu8, cu32, cu64, Value.oneCell']; done)) (by simp [(zr8_len 32)]) (lay_whole (by simp [(zr8_len 32), hd2])))) ?_
      rintro v1 L1 ⟨rfl, rfl⟩
      refine ⟨[], ?_⟩
      show DP _ _ _ _ _ _ _ _ [⟨nb1, [U64 x, U64 y], 68, (0, 0)⟩, ⟨nb2, [U64 e1] ++ cu8 d1 ++ cu8 t1 ++ [U64 e2] ++ cu8 d2 ++ cu8 t2, 113, (0, 0)⟩, ⟨nb3, [I64 ((a:Int)), I64 ((b:Int))], 95, (0, 0)⟩, ⟨nb4, cu8 (leafT x e1 d1 t1) ++ sp1, 5, (0, 0)⟩, ⟨nb6, cu8 d2, 25, (0, 0)⟩, ⟨nb8, cu8 d1, 25, (0, 0)⟩]
      refine DP_end ⟨[7, 6, 8, 9], [0, 1, 2, 3, 4, 5], [0, 1, 2, 3, 4, 5], [], []⟩ rfl rfl (by decide +kernel) rfl trivial ?_
      refine K_sub (F' := [(11, Ptr nb8 0), (12, Ptr nb6 0), (5, Ptr nb3 0), (6, .bool false), (7, Slc nb4 0 61 cp1), (8, .nilIface)]) (Sub.cons (by kernel_rfl) (Sub.cons (by kernel_rfl) (Sub.cons (by kernel_rfl) (Sub.cons (by kernel_rfl) (Sub.cons (by kernel_rfl) (Sub.cons (by kernel_rfl) (Sub.nil))))))) ?_
      show JQ _ _ _ [(11, Ptr nb8 0), (12, Ptr nb6 0), (5, Ptr nb3 0), (6, .bool false), (7, Slc nb4 0 61 cp1), (8, .nilIface)] _
      refine K_pick [2, 3, 5, 4] (by decide) ?_
      show JQ _ _ _ _ [⟨nb3, [I64 ((a:Int)), I64 ((b:Int))], 95, (0, 0)⟩, ⟨nb4, cu8 (leafT x e1 d1 t1) ++ sp1, 5, (0, 0)⟩, ⟨nb8, cu8 d1, 25, (0, 0)⟩, ⟨nb6, cu8 d2, 25, (0, 0)⟩]
      refine JQ_cut (nb8, nb6) trivial (Sub.cons rfl (Sub.cons rfl (Sub.cons rfl (Sub.cons rfl (Sub.cons rfl (Sub.cons rfl (Sub.nil))))))) rfl
  ·
    rintro ⟨ynb0, ynb1⟩ _
    show JQ _ _ _ [(5, Ptr nb3 0), (6, .bool false), (7, Slc nb4 0 61 cp1), (8, .nilIface), (11, Ptr ynb0 0), (12, Ptr ynb1 0)] [⟨nb3, [I64 ((a:Int)), I64 ((b:Int))], 95, (0, 0)⟩, ⟨nb4, cu8 (leafT x e1 d1 t1) ++ sp1, 5, (0, 0)⟩, ⟨ynb0, cu8 d1, 25, (0, 0)⟩, ⟨ynb1, cu8 d2, 25, (0, 0)⟩]
    refine JQ_then ?_
    refine JC_seq ?_
    refine JC_region ?_
    refine JL_val (Ptr nb3 0) (Ev_indexArr 2 3 1 0 Tryd.underlying95 Tryd.sizeOf3 rfl rfl (by omega) (by omega) (by omega)) rfl ?_
    refine JL_val (I64 ((a:Int))) (Ev_load rfl (Ld_one Tryd.isAgg3 (MemAt.ent 0 rfl (Seg.head)))) rfl ?_
    refine JL_val (.agg (cu8 d1).toArray) (Ev_load rfl (Ld_agg Tryd.isAgg25 Tryd.sizeOf25 (len_cu8 hd1) (MemAt.ent 2 rfl (Seg.whole _)))) rfl ?_
    refine JL_val (.agg (cu8 d2).toArray) (Ev_load rfl (Ld_agg Tryd.isAgg25 Tryd.sizeOf25 (len_cu8 hd2) (MemAt.ent 3 rfl (Seg.whole _)))) rfl ?_
    refine JL_step (Step_callN 71 [I64 ((a:Int)), .agg (cu8 d1).toArray, .agg (cu8 d2).toArray] _ (Cl_func [I64 ((a:Int)), .agg (cu8 d1).toArray, .agg (cu8 d2).toArray] Tryd.call71 rfl) (fun w1 hw1 => joinText_c a d1 d2 w1 hd1 hd2 (by omega) (by omega))) rfl ?_
    rintro v1 L1 ⟨_, ⟨nb9, sp2, cp2, rfl, rfl, hc4, hc5, hc6⟩, rfl⟩
    show JL _ _ _ _ ((72, .tuple #[Slc nb9 0 66 cp2, .nilIface]) :: _) [⟨nb3, [I64 ((a:Int)), I64 ((b:Int))], 95, (0, 0)⟩, ⟨nb4, cu8 (leafT x e1 d1 t1) ++ sp1, 5, (0, 0)⟩, ⟨ynb0, cu8 d1, 25, (0, 0)⟩, ⟨ynb1, cu8 d2, 25, (0, 0)⟩, ⟨nb9, cu8 (joinT a d1 d2) ++ sp2, 5, (0, 0)⟩]
    refine JL_val _ (Ev_move rfl) rfl ?_
    refine JL_val _ (Ev_extract rfl rfl) rfl ?_
    refine JL_val _ (Ev_extract rfl rfl) rfl ?_
    refine JL_val _ (Ev_assign rfl) rfl ?_
    refine JL_val _ (Ev_assign rfl) rfl ?_
    refine JL_nil ?_
    refine JQ_then ?_
    refine JC_seq ?_
    refine JC_region ?_
    refine JL_val (Ptr nb3 1) (Ev_indexArr 2 3 1 1 Tryd.underlying95 Tryd.sizeOf3 rfl rfl (by omega) (by omega) (by omega)) rfl ?_
    refine JL_val (I64 ((b:Int))) (Ev_load rfl (Ld_one Tryd.isAgg3 (MemAt.ent 0 rfl (Seg.tail (Seg.head))))) rfl ?_
    refine JL_val (.agg (cu8 d2).toArray) (Ev_load rfl (Ld_agg Tryd.isAgg25 Tryd.sizeOf25 (len_cu8 hd2) (MemAt.ent 3 rfl (Seg.whole _)))) rfl ?_
    refine JL_val (.agg (cu8 d1).toArray) (Ev_load rfl (Ld_agg Tryd.isAgg25 Tryd.sizeOf25 (len_cu8 hd1) (MemAt.ent 2 rfl (Seg.whole _)))) rfl ?_
    refine JL_step (Step_callN 71 [I64 ((b:Int)), .agg (cu8 d2).toArray, .agg (cu8 d1).toArray] _ (Cl_func [I64 ((b:Int)), .agg (cu8 d2).toArray, .agg (cu8 d1).toArray] Tryd.call71 rfl) (fun w1 hw1 => joinText_c b d2 d1 w1 hd2 hd1 (by omega) (by omega))) rfl ?_
    rintro v1 L1 ⟨_, ⟨nb10, sp3, cp3, rfl, rfl, hc7, hc8, hc9⟩, rfl⟩
    show JL _ _ _ _ ((80, .tuple #[Slc nb10 0 66 cp3, .nilIface]) :: _) [⟨nb3, [I64 ((a:Int)), I64 ((b:Int))], 95, (0, 0)⟩, ⟨nb4, cu8 (leafT x e1 d1 t1) ++ sp1, 5, (0, 0)⟩, ⟨ynb0, cu8 d1, 25, (0, 0)⟩, ⟨ynb1, cu8 d2, 25, (0, 0)⟩, ⟨nb9, cu8 (joinT a d1 d2) ++ sp2, 5, (0, 0)⟩, ⟨nb10, cu8 (joinT b d2 d1) ++ sp3, 5, (0, 0)⟩]
    refine JL_val _ (Ev_move rfl) rfl ?_
    refine JL_val _ (Ev_extract rfl rfl) rfl ?_
    refine JL_val _ (Ev_extract rfl rfl) rfl ?_
    refine JL_val _ (Ev_assign rfl) rfl ?_
    refine JL_val _ (Ev_assign rfl) rfl ?_
    refine JL_nil ?_
    refine JQ_then ?_
    refine JC_seq ?_
    refine JC_seq ?_
    refine JC_cut (ι := Bool) (fun yb0 => [(6, .bool false), (7, Slc nb4 0 61 cp1), (8, .nilIface), (13, Slc nb9 0 66 cp2), (14, .nilIface), (106, .bool yb0)]) (fun yb0 => [⟨nb4, cu8 (leafT x e1 d1 t1) ++ sp1, 5, (0, 0)⟩, ⟨nb9, cu8 (joinT a d1 d2) ++ sp2, 5, (0, 0)⟩]) (fun yb0 => yb0 = false) ?_ ?_
    ·
      rcases Bool.eq_false_or_eq_true (decide (((a:Int)) = ((b:Int)))) with hb1 | hb1
      ·
        have hp1 : ((a:Int)) = ((b:Int)) := of_decide_eq_true hb1
        refine JC_draw 127 1 [(0, .nilIface), (1, .bool true), (2, .bool true), (3, .nilIface), (4, .bool true), (5, .bool true), (6, .bool true), (7, Slc nb9 0 66 cp2), (8, .string (⟨(joinT a d1 d2).toArray⟩ : ByteArray)), (9, Slc nb10 0 66 cp3), (10, .string (⟨(joinT b d2 d1).toArray⟩ : ByteArray)), (11, .bool (decide ((joinT a d1 d2) = (joinT b d2 d1)))), (12, Ptr nb3 0), (13, I64 ((a:Int))), (14, Ptr nb3 1), (15, I64 ((b:Int))), (16, .bool (decide (((a:Int)) = ((b:Int))))), (17, .bool (decide (((a:Int)) = ((b:Int))))), (18, .agg (cu8 d1).toArray), (19, .agg (cu8 d2).toArray), (20, .bool (decide (d1 = d2))), (21, .bool (decide (d1 = d2))), (22, .bool (!((decide ((joinT a d1 d2) = (joinT b d2 d1))) == (decide (d1 = d2))))), (23, .bool (!((decide ((joinT a d1 d2) = (joinT b d2 d1))) == (decide (d1 = d2)))))] Tryd.mixed rfl (by decide +kernel) ?_
        refine DP_end ⟨[], [0, 1, 2, 3, 4, 5, 6, 7, 8, 9, 10, 11, 12, 13, 14, 15, 16, 17, 18, 19, 20, 21, 22, 23], [], [0, 1, 2, 3, 4, 5, 6, 7, 8, 9, 10, 11, 12, 13, 14, 15, 16, 17, 18, 19, 20, 21, 22, 23], []⟩ rfl rfl (by decide +kernel) rfl ⟨⟨_, rfl, Qok_val rfl (Ev_move rfl)⟩, ⟨_, rfl, Qok_val rfl (Ev_bin _ _ _ rfl rfl (fun _ => eqGuard_nn ..) fun _ => eql_if_nil_nil Tryd.underlying39)⟩, ⟨_, rfl, Qok_val rfl (Ev_move rfl)⟩, ⟨_, rfl, Qok_gval 2 85 true _ rfl rfl rfl rfl (Ev_move rfl)⟩, ⟨_, rfl, Qok_gval 2 85 true _ rfl rfl rfl rfl (Ev_bin _ _ _ rfl rfl (fun _ => eqGuard_nn ..) fun _ => eql_if_nil_nil Tryd.underlying39)⟩, ⟨_, rfl, Qok_val rfl (Ev_pickT _ rfl rfl rfl)⟩, ⟨_, rfl, Qok_val rfl (Ev_move rfl)⟩, ⟨_, rfl, Qok_gval 6 89 true _ rfl rfl rfl rfl (Ev_move rfl)⟩, ⟨_, rfl, Qok_gval 6 89 true _ rfl rfl rfl rfl (Ev_toStr 5 (some ⟨nb9, 0, none⟩) 66 cp2 (joinT a d1 d2) Tryd.underlying22 Tryd.underlying5 Tryd.underlying9 rfl (by simp [(show (joinT a d1 d2).length = 66 from (joinT_len hd1 hd2))]; try omega) (SrcAt.mem (MemAt.ent 4 rfl (Seg.left (Seg.whole _)))))⟩, ⟨_, rfl, Qok_gval 6 89 true _ rfl rfl rfl rfl (Ev_move rfl)⟩, ⟨_, rfl, Qok_gval 6 89 true _ rfl rfl rfl rfl (Ev_toStr 5 (some ⟨nb10, 0, none⟩) 66 cp3 (joinT b d2 d1) Tryd.underlying22 Tryd.underlying5 Tryd.underlying9 rfl (by simp [(show (joinT b d2 d1).length = 66 from (joinT_len hd2 hd1))]; try omega) (SrcAt.mem (MemAt.ent 5 rfl (Seg.left (Seg.whole _)))))⟩, ⟨_, rfl, Qok_gval 6 89 true _ rfl rfl rfl rfl (Ev_bin _ _ _ rfl rfl (fun _ => eqGuard_str ..) fun _ => eql_str)⟩, ⟨_, rfl, Qok_gval 6 89 true _ rfl rfl rfl rfl (Ev_indexArr 2 3 1 0 Tryd.underlying95 Tryd.sizeOf3 rfl rfl (by omega) (by omega) (by omega))⟩, ⟨_, rfl, Qok_gval 6 89 true _ rfl rfl rfl rfl (Ev_load rfl (Ld_one Tryd.isAgg3 (MemAt.ent 0 rfl (Seg.head))))⟩, ⟨_, rfl, Qok_gval 6 89 true _ rfl rfl rfl rfl (Ev_indexArr 2 3 1 1 Tryd.underlying95 Tryd.sizeOf3 rfl rfl (by omega) (by omega) (by omega))⟩, ⟨_, rfl, Qok_gval 6 89 true _ rfl rfl rfl rfl (Ev_load rfl (Ld_one Tryd.isAgg3 (MemAt.ent 0 rfl (Seg.tail (Seg.head)))))⟩, ⟨_, rfl, Qok_gval 6 89 true _ rfl rfl rfl rfl (Ev_bini rfl rfl fun _ => bin_eql_i _ _)⟩, ⟨_, rfl, Qok_gval 6 89 true _ rfl rfl rfl rfl (Ev_move rfl)⟩, ⟨_, rfl, Qok_gval 17 100 true _ rfl rfl rfl hb1 (Ev_load rfl (Ld_agg Tryd.isAgg25 Tryd.sizeOf25 (len_cu8 hd1) (MemAt.ent 2 rfl (Seg.whole _))))⟩, ⟨_, rfl, Qok_gval 17 100 true _ rfl rfl rfl hb1 (Ev_load rfl (Ld_agg Tryd.isAgg25 Tryd.sizeOf25 (len_cu8 hd2) (MemAt.ent 3 rfl (Seg.whole _))))⟩, ⟨_, rfl, Qok_gval 17 100 true _ rfl rfl rfl hb1 (Ev_bin _ _ _ rfl rfl (fun _ => eqGuard_agg _ _ _ _ _ _ (by kernel_rfl)) fun _ => eql_arr8 Tryd.underlying25 Tryd.underlying5 Tryd.isAgg5 Tryd.cells5 Tryd.has5 (by simp [hd1]) (by simp [hd2]))⟩, ⟨_, rfl, Qok_gval 6 89 true _ rfl rfl rfl rfl (Ev_pickT _ rfl hb1 rfl)⟩, ⟨_, rfl, Qok_gval 6 89 true _ rfl rfl rfl rfl (Ev_bin _ _ _ rfl rfl (fun _ => eqGuard_bool ..) fun _ => neq_bool Tryd.underlying4)⟩, ⟨_, rfl, Qok_val rfl (Ev_pickT _ rfl rfl rfl)⟩, trivial⟩ ?_
        refine K_sub (F' := [(106, .bool (!((decide ((joinT a d1 d2) = (joinT b d2 d1))) == (decide (d1 = d2))))), (6, .bool false), (7, Slc nb4 0 61 cp1), (8, .nilIface), (13, Slc nb9 0 66 cp2), (14, .nilIface)]) (Sub.cons (by kernel_rfl) (Sub.cons (by kernel_rfl) (Sub.cons (by kernel_rfl) (Sub.cons (by kernel_rfl) (Sub.cons (by kernel_rfl) (Sub.cons (by kernel_rfl) (Sub.nil))))))) ?_
        show JQ _ _ _ [(106, .bool (!((decide ((joinT a d1 d2) = (joinT b d2 d1))) == (decide (d1 = d2))))), (6, .bool false), (7, Slc nb4 0 61 cp1), (8, .nilIface), (13, Slc nb9 0 66 cp2), (14, .nilIface)] _
        refine K_pick [1, 4] (by decide) ?_
        show JQ _ _ _ _ [⟨nb4, cu8 (leafT x e1 d1 t1) ++ sp1, 5, (0, 0)⟩, ⟨nb9, cu8 (joinT a d1 d2) ++ sp2, 5, (0, 0)⟩]
        refine JQ_cut (!((decide ((joinT a d1 d2) = (joinT b d2 d1))) == (decide (d1 = d2)))) (by rw [show ((decide ((joinT a d1 d2) = (joinT b d2 d1))) == (decide (d1 = d2))) = true from (by have hab : a = b := (by have := of_decide_eq_true hb1; omega); subst hab; rw [joinT_same (by omega) hd1 hd2]; exact beq_self_eq_true _)] <;> rfl) (Sub.cons rfl (Sub.cons rfl (Sub.cons rfl (Sub.cons rfl (Sub.cons rfl (Sub.cons rfl (Sub.nil))))))) rfl
      ·
        have hp1 : ¬ (((a:Int)) = ((b:Int))) := of_decide_eq_false hb1
        refine JC_draw 127 1 [(0, .nilIface), (1, .bool true), (2, .bool true), (3, .nilIface), (4, .bool true), (5, .bool true), (6, .bool true), (7, Slc nb9 0 66 cp2), (8, .string (⟨(joinT a d1 d2).toArray⟩ : ByteArray)), (9, Slc nb10 0 66 cp3), (10, .string (⟨(joinT b d2 d1).toArray⟩ : ByteArray)), (11, .bool (decide ((joinT a d1 d2) = (joinT b d2 d1)))), (12, Ptr nb3 0), (13, I64 ((a:Int))), (14, Ptr nb3 1), (15, I64 ((b:Int))), (16, .bool (decide (((a:Int)) = ((b:Int))))), (17, .bool (decide (((a:Int)) = ((b:Int))))), (18, undef), (19, undef), (20, undef), (21, .bool false), (22, .bool (!((decide ((joinT a d1 d2) = (joinT b d2 d1))) == false))), (23, .bool (!((decide ((joinT a d1 d2) = (joinT b d2 d1))) == false)))] Tryd.mixed rfl (by decide +kernel) ?_
        refine DP_end ⟨[], [0, 1, 2, 3, 4, 5, 6, 7, 8, 9, 10, 11, 12, 13, 14, 15, 16, 17, 18, 19, 20, 21, 22, 23], [], [0, 1, 2, 3, 4, 5, 6, 7, 8, 9, 10, 11, 12, 13, 14, 15, 16, 17, 18, 19, 20, 21, 22, 23], []⟩ rfl rfl (by decide +kernel) rfl ⟨⟨_, rfl, Qok_val rfl (Ev_move rfl)⟩, ⟨_, rfl, Qok_val rfl (Ev_bin _ _ _ rfl rfl (fun _ => eqGuard_nn ..) fun _ => eql_if_nil_nil Tryd.underlying39)⟩, ⟨_, rfl, Qok_val rfl (Ev_move rfl)⟩, ⟨_, rfl, Qok_gval 2 85 true _ rfl rfl rfl rfl (Ev_move rfl)⟩, ⟨_, rfl, Qok_gval 2 85 true _ rfl rfl rfl rfl (Ev_bin _ _ _ rfl rfl (fun _ => eqGuard_nn ..) fun _ => eql_if_nil_nil Tryd.underlying39)⟩, ⟨_, rfl, Qok_val rfl (Ev_pickT _ rfl rfl rfl)⟩, ⟨_, rfl, Qok_val rfl (Ev_move rfl)⟩, ⟨_, rfl, Qok_gval 6 89 true _ rfl rfl rfl rfl (Ev_move rfl)⟩, ⟨_, rfl, Qok_gval 6 89 true _ rfl rfl rfl rfl (Ev_toStr 5 (some ⟨nb9, 0, none⟩) 66 cp2 (joinT a d1 d2) Tryd.underlying22 Tryd.underlying5 Tryd.underlying9 rfl (by simp [(show (joinT a d1 d2).length = 66 from (joinT_len hd1 hd2))]; try omega) (SrcAt.mem (MemAt.ent 4 rfl (Seg.left (Seg.whole _)))))⟩, ⟨_, rfl, Qok_gval 6 89 true _ rfl rfl rfl rfl (Ev_move rfl)⟩, ⟨_, rfl, Qok_gval 6 89 true _ rfl rfl rfl rfl (Ev_toStr 5 (some ⟨nb10, 0, none⟩) 66 cp3 (joinT b d2 d1) Tryd.underlying22 Tryd.underlying5 Tryd.underlying9 rfl (by simp [(show (joinT b d2 d1).length = 66 from (joinT_len hd2 hd1))]; try omega) (SrcAt.mem (MemAt.ent 5 rfl (Seg.left (Seg.whole _)))))⟩, ⟨_, rfl, Qok_gval 6 89 true _ rfl rfl rfl rfl (Ev_bin _ _ _ rfl rfl (fun _ => eqGuard_str ..) fun _ => eql_str)⟩, ⟨_, rfl, Qok_gval 6 89 true _ rfl rfl rfl rfl (Ev_indexArr 2 3 1 0 Tryd.underlying95 Tryd.sizeOf3 rfl rfl (by omega) (by omega) (by omega))⟩, ⟨_, rfl, Qok_gval 6 89 true _ rfl rfl rfl rfl (Ev_load rfl (Ld_one Tryd.isAgg3 (MemAt.ent 0 rfl (Seg.head))))⟩, ⟨_, rfl, Qok_gval 6 89 true _ rfl rfl rfl rfl (Ev_indexArr 2 3 1 1 Tryd.underlying95 Tryd.sizeOf3 rfl rfl (by omega) (by omega) (by omega))⟩, ⟨_, rfl, Qok_gval 6 89 true _ rfl rfl rfl rfl (Ev_load rfl (Ld_one Tryd.isAgg3 (MemAt.ent 0 rfl (Seg.tail (Seg.head)))))⟩, ⟨_, rfl, Qok_gval 6 89 true _ rfl rfl rfl rfl (Ev_bini rfl rfl fun _ => bin_eql_i _ _)⟩, ⟨_, rfl, Qok_gval 6 89 true _ rfl rfl rfl rfl (Ev_move rfl)⟩, ⟨_, rfl, Qok_gskip 17 100 true _ rfl rfl rfl hb1⟩, ⟨_, rfl, Qok_gskip 17 100 true _ rfl rfl rfl hb1⟩, ⟨_, rfl, Qok_gskip 17 100 true _ rfl rfl rfl hb1⟩, ⟨_, rfl, Qok_gval 6 89 true _ rfl rfl rfl rfl (Ev_pickF _ rfl hb1 rfl)⟩, ⟨_, rfl, Qok_gval 6 89 true _ rfl rfl rfl rfl (Ev_bin _ _ _ rfl rfl (fun _ => eqGuard_bool ..) fun _ => neq_bool Tryd.underlying4)⟩, ⟨_, rfl, Qok_val rfl (Ev_pickT _ rfl rfl rfl)⟩, trivial⟩ ?_
        refine K_sub (F' := [(106, .bool (!((decide ((joinT a d1 d2) = (joinT b d2 d1))) == false))), (6, .bool false), (7, Slc nb4 0 61 cp1), (8, .nilIface), (13, Slc nb9 0 66 cp2), (14, .nilIface)]) (Sub.cons (by kernel_rfl) (Sub.cons (by kernel_rfl) (Sub.cons (by kernel_rfl) (Sub.cons (by kernel_rfl) (Sub.cons (by kernel_rfl) (Sub.cons (by kernel_rfl) (Sub.nil))))))) ?_
        show JQ _ _ _ [(106, .bool (!((decide ((joinT a d1 d2) = (joinT b d2 d1))) == false))), (6, .bool false), (7, Slc nb4 0 61 cp1), (8, .nilIface), (13, Slc nb9 0 66 cp2), (14, .nilIface)] _
        refine K_pick [1, 4] (by decide) ?_
        show JQ _ _ _ _ [⟨nb4, cu8 (leafT x e1 d1 t1) ++ sp1, 5, (0, 0)⟩, ⟨nb9, cu8 (joinT a d1 d2) ++ sp2, 5, (0, 0)⟩]
        refine JQ_cut (!((decide ((joinT a d1 d2) = (joinT b d2 d1))) == false)) (by rw [show ((decide ((joinT a d1 d2) = (joinT b d2 d1))) == false) = true from (by rw [decide_eq_false (fun h => of_decide_eq_false hb1 (by have := (joinT_inj (by omega) (by omega) hd1 hd2 h).1; omega))]; rfl)] <;> rfl) (Sub.cons rfl (Sub.cons rfl (Sub.cons rfl (Sub.cons rfl (Sub.cons rfl (Sub.cons rfl (Sub.nil))))))) rfl
    ·
      rintro yb0 hy1
      show JQ _ _ _ [(6, .bool false), (7, Slc nb4 0 61 cp1), (8, .nilIface), (13, Slc nb9 0 66 cp2), (14, .nilIface), (106, .bool yb0)] [⟨nb4, cu8 (leafT x e1 d1 t1) ++ sp1, 5, (0, 0)⟩, ⟨nb9, cu8 (joinT a d1 d2) ++ sp2, 5, (0, 0)⟩]
      refine JQ_then ?_
      refine JC_condF _ rfl hy1 ?_
      refine JC_skip ?_
      refine JQ_then ?_
      refine JC_seq ?_
      refine JC_region ?_
      refine JL_val _ (Ev_move rfl) rfl ?_
      refine JL_val (.bool false) (Ev_bin _ _ _ rfl rfl (fun _ => eqGuard_nn ..) fun _ => neq_if_nil_nil Tryd.underlying39) rfl ?_
      refine JL_val _ (Ev_move rfl) rfl ?_
      refine JL_gval 2 109 false _ _ rfl rfl rfl (Ev_move rfl) rfl ?_
      refine JL_gval 2 109 false _ (.bool false) rfl rfl rfl (Ev_bin _ _ _ rfl rfl (fun _ => eqGuard_nn ..) fun _ => neq_if_nil_nil Tryd.underlying39) rfl ?_
      refine JL_val _ (Ev_pickF _ rfl rfl rfl) rfl ?_
      refine JL_val _ (Ev_move rfl) rfl ?_
      refine JL_gval 6 113 false _ _ rfl rfl rfl (Ev_move rfl) rfl ?_
      refine JL_gval 6 113 false _ (.string (⟨(leafT x e1 d1 t1).toArray⟩ : ByteArray)) rfl rfl rfl (Ev_toStr 5 (some ⟨nb4, 0, none⟩) 61 cp1 (leafT x e1 d1 t1) Tryd.underlying22 Tryd.underlying5 Tryd.underlying9 rfl (by simp [(show (leafT x e1 d1 t1).length = 61 from (leafT_len hd1 ht1))]; try omega) (SrcAt.mem (MemAt.ent 0 rfl (Seg.left (Seg.whole _))))) rfl ?_
      refine JL_gval 6 113 false _ _ rfl rfl rfl (Ev_move rfl) rfl ?_
      refine JL_gval 6 113 false _ (.string (⟨(joinT a d1 d2).toArray⟩ : ByteArray)) rfl rfl rfl (Ev_toStr 5 (some ⟨nb9, 0, none⟩) 66 cp2 (joinT a d1 d2) Tryd.underlying22 Tryd.underlying5 Tryd.underlying9 rfl (by simp [(show (joinT a d1 d2).length = 66 from (joinT_len hd1 hd2))]; try omega) (SrcAt.mem (MemAt.ent 1 rfl (Seg.left (Seg.whole _))))) rfl ?_
      refine JL_gval 6 113 false _ (.bool (decide ((leafT x e1 d1 t1) ≠ (joinT a d1 d2)))) rfl rfl rfl (Ev_bin _ _ _ rfl rfl (fun _ => eqGuard_str ..) fun _ => neq_str) rfl ?_
      refine JL_gval 6 113 false _ _ rfl rfl rfl (Ev_move rfl) rfl ?_
      refine JL_gval 12 119 true _ _ rfl rfl (decide_eq_true (leaf_join hd1 ht1 hd1 hd2)) (Ev_move rfl) rfl ?_
      refine JL_gstep 12 119 true _ rfl rfl (decide_eq_true (leaf_join hd1 ht1 hd1 hd2)) (Step_callP 76 [Slc nb4 0 61 cp1] (I64 ((kindN (leafT x e1 d1 t1):Int))) (Cl_func [Slc nb4 0 61 cp1] Tryd.call76 rfl) (fun w1 hw1 => kind_c (some ⟨nb4, 0, none⟩) 61 cp1 (leafT x e1 d1 t1) w1 (show (leafT x e1 d1 t1).length = 61 from (leafT_len hd1 ht1)) (RdB.of hw1 (MemAt.ent 0 rfl (Seg.left (Seg.whole _))) (by simp)))) rfl ?_
      rintro v1 L1 ⟨rfl, rfl⟩
      show JL _ _ _ _ ((121, I64 ((kindN (leafT x e1 d1 t1):Int))) :: _) [⟨nb4, cu8 (leafT x e1 d1 t1) ++ sp1, 5, (0, 0)⟩, ⟨nb9, cu8 (joinT a d1 d2) ++ sp2, 5, (0, 0)⟩]
      refine JL_gval 12 119 true _ _ rfl rfl (decide_eq_true (leaf_join hd1 ht1 hd1 hd2)) (Ev_move rfl) rfl ?_
      refine JL_gstep 12 119 true _ rfl rfl (decide_eq_true (leaf_join hd1 ht1 hd1 hd2)) (Step_callP 76 [Slc nb9 0 66 cp2] (I64 ((kindN (joinT a d1 d2):Int))) (Cl_func [Slc nb9 0 66 cp2] Tryd.call76 rfl) (fun w1 hw1 => kind_c (some ⟨nb9, 0, none⟩) 66 cp2 (joinT a d1 d2) w1 (show (joinT a d1 d2).length = 66 from (joinT_len hd1 hd2)) (RdB.of hw1 (MemAt.ent 1 rfl (Seg.left (Seg.whole _))) (by simp)))) rfl ?_
      rintro v1 L1 ⟨rfl, rfl⟩
      show JL _ _ _ _ ((123, I64 ((kindN (joinT a d1 d2):Int))) :: _) [⟨nb4, cu8 (leafT x e1 d1 t1) ++ sp1, 5, (0, 0)⟩, ⟨nb9, cu8 (joinT a d1 d2) ++ sp2, 5, (0, 0)⟩]
      refine JL_gval 12 119 true _ (.bool (decide (((kindN (leafT x e1 d1 t1):Int)) ≠ ((kindN (joinT a d1 d2):Int))))) rfl rfl (decide_eq_true (leaf_join hd1 ht1 hd1 hd2)) (Ev_bini rfl rfl fun _ => bin_neq_i _ _) rfl ?_
      refine JL_gval 6 113 false _ _ rfl rfl rfl (Ev_pickT _ rfl (decide_eq_true (leaf_join hd1 ht1 hd1 hd2)) rfl) rfl ?_
      refine JL_val _ (Ev_pickF _ rfl rfl rfl) rfl ?_
      refine JL_val _ (Ev_assign rfl) rfl ?_
      refine JL_nil ?_
      refine JQ_then ?_
      refine JC_ret ?_
      refine JQ_ret (.bool (decide (((kindN (leafT x e1 d1 t1):Int)) ≠ ((kindN (joinT a d1 d2):Int))))) (res1 Tryd.results20 (RV_tmp rfl)) fun w1 hw1 => ?_
      exact ⟨_, [], rfl, ⟨by rw [show (decide (((kindN (leafT x e1 d1 t1):Int)) ≠ ((kindN (joinT a d1 d2):Int)))) = true from (decide_eq_true (by rw [kind_leaf hd1 ht1, kind_join hd1 hd2 ha.1 ha.2]; decide))], rfl⟩, hw1.sub (by simp) (by simp)⟩

theorem nodeAp14_c (x y e1 : UInt64) (d1 t1 : List UInt8) (e2 : UInt64) (d2 t2 : List UInt8) (a : Nat) (b : Nat)  (w : World) (hd1 : d1.length = 32) (ht1 : t1.length = 16) (hd2 : d2.length = 32) (ht2 : t2.length = 16) (hG : GLs w) (hx : (4294967295:UInt64) < x) (hy : ¬ (4294967295:UInt64) < y) (ha : 1 ≤ a ∧ a ≤ 32) (hb : 1 ≤ b ∧ b ≤ 32)  : Calls Tryd.prog 20 #[.agg (List.toArray (α := Value) ([U64 x, U64 y])), .agg (List.toArray (α := Value) ([U64 e1] ++ cu8 d1 ++ cu8 t1 ++ [U64 e2] ++ cu8 d2 ++ cu8 t2)), .agg (List.toArray (α := Value) ([I64 ((a:Int)), I64 ((b:Int))]))] w (Post w [] (fun v L => v = .bool true ∧ L = [])) := by
  have hmx : maxLen = 9223372036854775807 := rfl
  refine enter (P := Tryd.prog) (f := 20) (fn := Tryd.f20) w [] 127 [] [.agg (List.toArray (α := Value) ([U64 x, U64 y])), .agg (List.toArray (α := Value) ([U64 e1] ++ cu8 d1 ++ cu8 t1 ++ [U64 e2] ++ cu8 d2 ++ cu8 t2)), .agg (List.toArray (α := Value) ([I64 ((a:Int)), I64 ((b:Int))]))] Tryd.func20 rfl rfl (by simp) (Hp.start (by simp) (by simp) (by simp)) ?_
  show JC _ _ _ [(0, .agg (List.toArray (α := Value) ([U64 x, U64 y]))), (1, .agg (List.toArray (α := Value) ([U64 e1] ++ cu8 d1 ++ cu8 t1 ++ [U64 e2] ++ cu8 d2 ++ cu8 t2))), (2, .agg (List.toArray (α := Value) ([I64 ((a:Int)), I64 ((b:Int))])))] _
  refine JC_seq ?_
  refine JC_region ?_
  refine JL_step (Step_box (.agg (List.toArray (α := Value) ([U64 x, U64 y]))) ([U64 x, U64 y]) rfl (by first | rfl | simp)) rfl ?_
  rintro v1 L1 ⟨nb1, hnb1, rfl, rfl⟩
  show JL _ _ _ _ ((3, Ptr nb1 0) :: _) [⟨nb1, [U64 x, U64 y], 68, (0, 0)⟩]
  refine JL_step (Step_box (.agg (List.toArray (α := Value) ([U64 e1] ++ cu8 d1 ++ cu8 t1 ++ [U64 e2] ++ cu8 d2 ++ cu8 t2))) ([U64 e1] ++ cu8 d1 ++ cu8 t1 ++ [U64 e2] ++ cu8 d2 ++ cu8 t2) rfl (by first | rfl | simp)) rfl ?_
  rintro v1 L1 ⟨nb2, hnb2, rfl, rfl⟩
  show JL _ _ _ _ ((4, Ptr nb2 0) :: _) [⟨nb1, [U64 x, U64 y], 68, (0, 0)⟩, ⟨nb2, [U64 e1] ++ cu8 d1 ++ cu8 t1 ++ [U64 e2] ++ cu8 d2 ++ cu8 t2, 113, (0, 0)⟩]
  refine JL_step (Step_box (.agg (List.toArray (α := Value) ([I64 ((a:Int)), I64 ((b:Int))]))) ([I64 ((a:Int)), I64 ((b:Int))]) rfl (by first | rfl | simp)) rfl ?_
  rintro v1 L1 ⟨nb3, hnb3, rfl, rfl⟩
  show JL _ _ _ _ ((5, Ptr nb3 0) :: _) [⟨nb1, [U64 x, U64 y], 68, (0, 0)⟩, ⟨nb2, [U64 e1] ++ cu8 d1 ++ cu8 t1 ++ [U64 e2] ++ cu8 d2 ++ cu8 t2, 113, (0, 0)⟩, ⟨nb3, [I64 ((a:Int)), I64 ((b:Int))], 95, (0, 0)⟩]
  refine JL_val _ (Ev_assign rfl) rfl ?_
  refine JL_nil ?_
  refine JQ_then ?_
  refine JC_seq ?_
  refine JC_seq ?_
  refine JC_region ?_
  refine JL_step (Step_callP 69 [] (.bool true) (Cl_func [] Tryd.call69 rfl) (fun w1 hw1 => alive8_c  w1 (hG.at hw1))) rfl ?_
  rintro v1 L1 ⟨rfl, rfl⟩
  show JL _ _ _ _ ((17, .bool true) :: _) [⟨nb1, [U64 x, U64 y], 68, (0, 0)⟩, ⟨nb2, [U64 e1] ++ cu8 d1 ++ cu8 t1 ++ [U64 e2] ++ cu8 d2 ++ cu8 t2, 113, (0, 0)⟩, ⟨nb3, [I64 ((a:Int)), I64 ((b:Int))], 95, (0, 0)⟩]
  refine JL_val (.bool (!true)) (Ev_not rfl) rfl ?_
  refine JL_nil ?_
  refine JQ_then ?_
  refine JC_condF _ rfl rfl ?_
  refine JC_skip ?_
  refine JQ_then ?_
  refine JC_seq ?_
  refine JC_region ?_
  refine JL_val (Ptr nb1 0) (Ev_indexArr 2 58 1 0 Tryd.underlying68 Tryd.sizeOf58 rfl rfl (by omega) (by omega) (by omega)) rfl ?_
  refine JL_val (U64 x) (Ev_load rfl (Ld_one Tryd.isAgg58 (MemAt.ent 0 rfl (Seg.head)))) rfl ?_
  refine JL_val (Ptr nb2 0) (Ev_indexArr 2 76 49 0 Tryd.underlying113 Tryd.sizeOf76 rfl rfl (by omega) (by omega) (by omega)) rfl ?_
  refine JL_val (.agg (List.toArray (α := Value) ([U64 e1] ++ cu8 d1 ++ cu8 t1))) (Ev_load rfl (Ld_agg Tryd.isAgg76 Tryd.sizeOf76 (by simp [hd1, ht1]) (MemAt.ent 1 rfl (Seg.split (p := []) (q := [U64 e2] ++ cu8 d2 ++ cu8 t2) (vs := [U64 e1] ++ cu8 d1 ++ cu8 t1) (by first | rfl | (simp only [List.append_assoc, List.nil_append, List.append_nil, List.cons_append]; done)) rfl)))) rfl ?_
  refine JL_step (Step_callP 79 [U64 x, .agg (List.toArray (α := Value) ([U64 e1] ++ cu8 d1 ++ cu8 t1))] (.tuple #[.slice none 0 0, .iface 43 (I64 (1:Int))]) (Cl_func [U64 x, .agg (List.toArray (α := Value) ([U64 e1] ++ cu8 d1 ++ cu8 t1))] Tryd.call79 rfl) (fun w1 hw1 => leafTextB_c x e1 d1 t1 w1 hd1 ht1 (shr4n hx))) rfl ?_
  rintro v1 L1 ⟨rfl, rfl⟩
  show JL _ _ _ _ ((24, .tuple #[.slice none 0 0, .iface 43 (I64 (1:Int))]) :: _) [⟨nb1, [U64 x, U64 y], 68, (0, 0)⟩, ⟨nb2, [U64 e1] ++ cu8 d1 ++ cu8 t1 ++ [U64 e2] ++ cu8 d2 ++ cu8 t2, 113, (0, 0)⟩, ⟨nb3, [I64 ((a:Int)), I64 ((b:Int))], 95, (0, 0)⟩]
  refine JL_val _ (Ev_move rfl) rfl ?_
  refine JL_val _ (Ev_extract rfl rfl) rfl ?_
  refine JL_val _ (Ev_extract rfl rfl) rfl ?_
  refine JL_val _ (Ev_assign rfl) rfl ?_
  refine JL_val _ (Ev_assign rfl) rfl ?_
  refine JL_nil ?_
  refine JQ_then ?_
  refine JC_seq ?_
  refine JC_region ?_
  refine JL_val (Ptr nb1 1) (Ev_indexArr 2 58 1 1 Tryd.underlying68 Tryd.sizeOf58 rfl rfl (by omega) (by omega) (by omega)) rfl ?_
  refine JL_val (U64 y) (Ev_load rfl (Ld_one Tryd.isAgg58 (MemAt.ent 0 rfl (Seg.tail (Seg.head))))) rfl ?_
  refine JL_val (Ptr nb2 49) (Ev_indexArr 2 76 49 49 Tryd.underlying113 Tryd.sizeOf76 rfl rfl (by omega) (by omega) (by omega)) rfl ?_
  refine JL_val (.agg (List.toArray (α := Value) ([U64 e2] ++ cu8 d2 ++ cu8 t2))) (Ev_load rfl (Ld_agg Tryd.isAgg76 Tryd.sizeOf76 (by simp [hd2, ht2]) (MemAt.ent 1 rfl (Seg.split (p := [U64 e1] ++ cu8 d1 ++ cu8 t1) (q := []) (vs := [U64 e2] ++ cu8 d2 ++ cu8 t2) (by first | rfl | (simp only [List.append_assoc, List.nil_append, List.append_nil, List.cons_append]; done)) (by simp [hd1, ht1]))))) rfl ?_
  refine JL_step (Step_callN 79 [U64 y, .agg (List.toArray (α := Value) ([U64 e2] ++ cu8 d2 ++ cu8 t2))] _ (Cl_func [U64 y, .agg (List.toArray (α := Value) ([U64 e2] ++ cu8 d2 ++ cu8 t2))] Tryd.call79 rfl) (fun w1 hw1 => leafText_c y e2 d2 t2 w1 hd2 ht2 (shr4z hy))) rfl ?_
  rintro v1 L1 ⟨_, ⟨nb4, sp1, cp1, rfl, rfl, hc1, hc2, hc3⟩, rfl⟩
  show JL _ _ _ _ ((32, .tuple #[Slc nb4 0 61 cp1, .nilIface]) :: _) [⟨nb1, [U64 x, U64 y], 68, (0, 0)⟩, ⟨nb2, [U64 e1] ++ cu8 d1 ++ cu8 t1 ++ [U64 e2] ++ cu8 d2 ++ cu8 t2, 113, (0, 0)⟩, ⟨nb3, [I64 ((a:Int)), I64 ((b:Int))], 95, (0, 0)⟩, ⟨nb4, cu8 (leafT y e2 d2 t2) ++ sp1, 5, (0, 0)⟩]
  refine JL_val _ (Ev_move rfl) rfl ?_
  refine JL_val _ (Ev_extract rfl rfl) rfl ?_
  refine JL_val _ (Ev_extract rfl rfl) rfl ?_
  refine JL_val _ (Ev_assign rfl) rfl ?_
  refine JL_val _ (Ev_assign rfl) rfl ?_
  refine JL_nil ?_
  refine JQ_then ?_
  refine JC_seq ?_
  refine JC_seq ?_
  refine JC_draw 127 1 [(0, .iface 43 (I64 (1:Int))), (1, .bool false), (2, .bool false), (3, undef), (4, undef), (5, .bool false), (6, .bool false), (7, undef), (8, undef), (9, undef), (10, undef), (11, undef), (12, undef), (13, undef), (14, undef), (15, undef), (16, undef), (17, undef), (18, undef), (19, undef), (20, undef), (21, undef), (22, undef), (23, undef), (24, undef), (25, .bool false)] Tryd.mixed rfl (by decide +kernel) ?_
  refine DP_end ⟨[], [0, 1, 2, 3, 4, 5, 6, 7, 8, 9, 10, 11, 12, 13, 14, 15, 16, 17, 18, 19, 20, 21, 22, 23, 24, 25], [], [0, 1, 2, 3, 4, 5, 6, 7, 8, 9, 10, 11, 12, 13, 14, 15, 16, 17, 18, 19, 20, 21, 22, 23, 24, 25], []⟩ rfl rfl (by decide +kernel) rfl ⟨⟨_, rfl, Qok_val rfl (Ev_move rfl)⟩, ⟨_, rfl, Qok_val rfl (Ev_bin _ _ _ rfl rfl (fun _ => eqGuard_if ..) fun _ => eql_if_nil Tryd.underlying39)⟩, ⟨_, rfl, Qok_val rfl (Ev_move rfl)⟩, ⟨_, rfl, Qok_gskip 2 37 true _ rfl rfl rfl rfl⟩, ⟨_, rfl, Qok_gskip 2 37 true _ rfl rfl rfl rfl⟩, ⟨_, rfl, Qok_val rfl (Ev_pickF _ rfl rfl rfl)⟩, ⟨_, rfl, Qok_val rfl (Ev_move rfl)⟩, ⟨_, rfl, Qok_gskip 6 41 true _ rfl rfl rfl rfl⟩, ⟨_, rfl, Qok_gskip 6 41 true _ rfl rfl rfl rfl⟩, ⟨_, rfl, Qok_gskip 6 41 true _ rfl rfl rfl rfl⟩, ⟨_, rfl, Qok_gskip 6 41 true _ rfl rfl rfl rfl⟩, ⟨_, rfl, Qok_gskip 6 41 true _ rfl rfl rfl rfl⟩, ⟨_, rfl, Qok_gskip 6 41 true _ rfl rfl rfl rfl⟩, ⟨_, rfl, Qok_gskip 6 41 true _ rfl rfl rfl rfl⟩, ⟨_, rfl, Qok_gskip 6 41 true _ rfl rfl rfl rfl⟩, ⟨_, rfl, Qok_gskip 6 41 true _ rfl rfl rfl rfl⟩, ⟨_, rfl, Qok_gskip 6 41 true _ rfl rfl rfl rfl⟩, ⟨_, rfl, Qok_gskip 6 41 true _ rfl rfl rfl rfl⟩, ⟨_, rfl, Qok_gskipU 17 52 true rfl rfl rfl⟩, ⟨_, rfl, Qok_gskipU 17 52 true rfl rfl rfl⟩, ⟨_, rfl, Qok_gskipU 17 52 true rfl rfl rfl⟩, ⟨_, rfl, Qok_gskipU 17 52 true rfl rfl rfl⟩, ⟨_, rfl, Qok_gskipU 17 52 true rfl rfl rfl⟩, ⟨_, rfl, Qok_gskip 6 41 true _ rfl rfl rfl rfl⟩, ⟨_, rfl, Qok_gskip 6 41 true _ rfl rfl rfl rfl⟩, ⟨_, rfl, Qok_val rfl (Ev_pickF _ rfl rfl rfl)⟩, trivial⟩ ?_
  refine K_sub (F' := [(60, .bool false), (4, Ptr nb2 0), (5, Ptr nb3 0), (6, .bool false), (7, .slice none 0 0), (8, .iface 43 (I64 (1:Int)))]) (Sub.cons (by kernel_rfl) (Sub.cons (by kernel_rfl) (Sub.cons (by kernel_rfl) (Sub.cons (by kernel_rfl) (Sub.cons (by kernel_rfl) (Sub.cons (by kernel_rfl) (Sub.nil))))))) ?_
  show JQ _ _ _ [(60, .bool false), (4, Ptr nb2 0), (5, Ptr nb3 0), (6, .bool false), (7, .slice none 0 0), (8, .iface 43 (I64 (1:Int)))] _
  refine JQ_then ?_
  refine JC_condF _ rfl rfl ?_
  refine JC_skip ?_
  refine JQ_then ?_
  refine JC_seq ?_
  refine JC_cut (ι := Nat × Nat) (fun ⟨ynb0, ynb1⟩ => [(5, Ptr nb3 0), (6, .bool false), (7, .slice none 0 0), (8, .iface 43 (I64 (1:Int))), (11, Ptr ynb0 0), (12, Ptr ynb1 0)]) (fun ⟨ynb0, ynb1⟩ => [⟨nb3, [I64 ((a:Int)), I64 ((b:Int))], 95, (0, 0)⟩, ⟨ynb0, cu8 d1, 25, (0, 0)⟩, ⟨ynb1, cu8 d2, 25, (0, 0)⟩]) (fun ⟨ynb0, ynb1⟩ => True) ?_ ?_
  ·
    refine JC_draw 127 5 [(0, Ptr nb2 0), (1, Ptr nb2 1), (2, .agg (cu8 d1).toArray), (3, Ptr nb2 49), (4, Ptr nb2 50), (5, .agg (cu8 d2).toArray)] Tryd.mixed rfl (by decide +kernel) ?_
    refine DP_two ⟨[], [0, 1, 2, 3, 4, 5], [], [0, 1, 2, 3, 4, 5], [6, 7]⟩ 6 7 _ _ rfl rfl (by decide +kernel) rfl ⟨⟨_, rfl, Qok_val rfl (Ev_indexArr 2 76 49 0 Tryd.underlying113 Tryd.sizeOf76 rfl rfl (by omega) (by omega) (by omega))⟩, ⟨_, rfl, Qok_val rfl (Ev_fieldAddr 1 74 32 Tryd.underlying76 rfl Tryd.sizeOf74 rfl rfl)⟩, ⟨_, rfl, Qok_val rfl (Ev_load rfl (Ld_agg Tryd.isAgg74 Tryd.sizeOf74 (len_cu8 hd1) (MemAt.ent 1 rfl (Seg.left (Seg.left (Seg.left (Seg.left (Seg.right 1 0 rfl rfl (Seg.whole _)))))))))⟩, ⟨_, rfl, Qok_val rfl (Ev_indexArr 2 76 49 49 Tryd.underlying113 Tryd.sizeOf76 rfl rfl (by omega) (by omega) (by omega))⟩, ⟨_, rfl, Qok_val rfl (Ev_fieldAddr 1 74 32 Tryd.underlying76 rfl Tryd.sizeOf74 rfl rfl)⟩, ⟨_, rfl, Qok_val rfl (Ev_load rfl (Ld_agg Tryd.isAgg74 Tryd.sizeOf74 (len_cu8 hd2) (MemAt.ent 1 rfl (Seg.left (Seg.right 50 0 (by simp [hd1, ht1]) rfl (Seg.whole _))))))⟩, trivial⟩ rfl rfl (Cok_step rfl (Step_alloc _ (cu8 (zr8 32)) Tryd.zeroValue25 (by kernel_rfl))) (Cok_step rfl (Step_alloc _ (cu8 (zr8 32)) Tryd.zeroValue25 (by kernel_rfl))) ?_ ?_
    ·
      rintro v1 L1 ⟨nb5, hnb5, rfl, rfl⟩
      refine ⟨[], ?_⟩
      show DP _ _ _ _ _ _ _ _ [⟨nb1, [U64 x, U64 y], 68, (0, 0)⟩, ⟨nb2, [U64 e1] ++ cu8 d1 ++ cu8 t1 ++ [U64 e2] ++ cu8 d2 ++ cu8 t2, 113, (0, 0)⟩, ⟨nb3, [I64 ((a:Int)), I64 ((b:Int))], 95, (0, 0)⟩, ⟨nb4, cu8 (leafT y e2 d2 t2) ++ sp1, 5, (0, 0)⟩, ⟨nb5, cu8 (zr8 32), 25, (0, 0)⟩]
      refine DP_one ⟨[6], [0, 1, 2, 3, 4, 5], [], [0, 1, 2, 3, 4, 5], [7]⟩ 7 _ rfl rfl (by decide +kernel) rfl ⟨⟨_, rfl, Qok_val rfl (Ev_indexArr 2 76 49 0 Tryd.underlying113 Tryd.sizeOf76 rfl rfl (by omega) (by omega) (by omega))⟩, ⟨_, rfl, Qok_val rfl (Ev_fieldAddr 1 74 32 Tryd.underlying76 rfl Tryd.sizeOf74 rfl rfl)⟩, ⟨_, rfl, Qok_val rfl (Ev_load rfl (Ld_agg Tryd.isAgg74 Tryd.sizeOf74 (len_cu8 hd1) (MemAt.ent 1 rfl (Seg.left (Seg.left (Seg.left (Seg.left (Seg.right 1 0 rfl rfl (Seg.whole _)))))))))⟩, ⟨_, rfl, Qok_val rfl (Ev_indexArr 2 76 49 49 Tryd.underlying113 Tryd.sizeOf76 rfl rfl (by omega) (by omega) (by omega))⟩, ⟨_, rfl, Qok_val rfl (Ev_fieldAddr 1 74 32 Tryd.underlying76 rfl Tryd.sizeOf74 rfl rfl)⟩, ⟨_, rfl, Qok_val rfl (Ev_load rfl (Ld_agg Tryd.isAgg74 Tryd.sizeOf74 (len_cu8 hd2) (MemAt.ent 1 rfl (Seg.left (Seg.right 50 0 (by simp [hd1, ht1]) rfl (Seg.whole _))))))⟩, trivial⟩ rfl (Cok_step rfl (Step_alloc _ (cu8 (zr8 32)) Tryd.zeroValue25 (by kernel_rfl))) ?_
      rintro v1 L1 ⟨nb7, hnb7, rfl, rfl⟩
      refine ⟨[], ?_⟩
      show DP _ _ _ _ _ _ _ _ [⟨nb1, [U64 x, U64 y], 68, (0, 0)⟩, ⟨nb2, [U64 e1] ++ cu8 d1 ++ cu8 t1 ++ [U64 e2] ++ cu8 d2 ++ cu8 t2, 113, (0, 0)⟩, ⟨nb3, [I64 ((a:Int)), I64 ((b:Int))], 95, (0, 0)⟩, ⟨nb4, cu8 (leafT y e2 d2 t2) ++ sp1, 5, (0, 0)⟩, ⟨nb5, cu8 (zr8 32), 25, (0, 0)⟩, ⟨nb7, cu8 (zr8 32), 25, (0, 0)⟩]
      refine DP_one ⟨[6, 7], [0, 1, 2, 3, 4, 5], [], [0, 1, 2, 3, 4, 5], [8]⟩ 8 _ rfl rfl (by decide +kernel) rfl ⟨⟨_, rfl, Qok_val rfl (Ev_indexArr 2 76 49 0 Tryd.underlying113 Tryd.sizeOf76 rfl rfl (by omega) (by omega) (by omega))⟩, ⟨_, rfl, Qok_val rfl (Ev_fieldAddr 1 74 32 Tryd.underlying76 rfl Tryd.sizeOf74 rfl rfl)⟩, ⟨_, rfl, Qok_val rfl (Ev_load rfl (Ld_agg Tryd.isAgg74 Tryd.sizeOf74 (len_cu8 hd1) (MemAt.ent 1 rfl (Seg.left (Seg.left (Seg.left (Seg.left (Seg.right 1 0 rfl rfl (Seg.whole _)))))))))⟩, ⟨_, rfl, Qok_val rfl (Ev_indexArr 2 76 49 49 Tryd.underlying113 Tryd.sizeOf76 rfl rfl (by omega) (by omega) (by omega))⟩, ⟨_, rfl, Qok_val rfl (Ev_fieldAddr 1 74 32 Tryd.underlying76 rfl Tryd.sizeOf74 rfl rfl)⟩, ⟨_, rfl, Qok_val rfl (Ev_load rfl (Ld_agg Tryd.isAgg74 Tryd.sizeOf74 (len_cu8 hd2) (MemAt.ent 1 rfl (Seg.left (Seg.right 50 0 (by simp [hd1, ht1]) rfl (Seg.whole _))))))⟩, trivial⟩ rfl (Cok_step rfl (Step_store 4 nb5 0 32 (cu8 (zr8 32)) 25 (.agg (cu8 d1).toArray) (cu8 d1) (cu8 d1) rfl rfl rfl (by first | rfl | simp) Tryd.sizeOf25 (len_cu8 hd1) (by first | exact one_u8 | exact one_u32 | exact one_u64 | (simp [cu8, cu32, cu64, Value.oneCell']; done)) (by simp [(zr8_len 32)]) (lay_whole (by simp [(zr8_len 32), hd1])))) ?_
      rintro v1 L1 ⟨rfl, rfl⟩
      refine ⟨[], ?_⟩
      show DP _ _ _ _ _ _ _ _ [⟨nb1, [U64 x, U64 y], 68, (0, 0)⟩, ⟨nb2, [U64 e1] ++ cu8 d1 ++ cu8 t1 ++ [U64 e2] ++ cu8 d2 ++ cu8 t2, 113, (0, 0)⟩, ⟨nb3, [I64 ((a:Int)), I64 ((b:Int))], 95, (0, 0)⟩, ⟨nb4, cu8 (leafT y e2 d2 t2) ++ sp1, 5, (0, 0)⟩, ⟨nb5, cu8 d1, 25, (0, 0)⟩, ⟨nb7, cu8 (zr8 32), 25, (0, 0)⟩]
      refine DP_one ⟨[6, 7, 8], [0, 1, 2, 3, 4, 5], [0, 1, 2], [3, 4, 5], [9]⟩ 9 _ rfl rfl (by decide +kernel) rfl ⟨⟨_, rfl, Qok_val rfl (Ev_indexArr 2 76 49 49 Tryd.underlying113 Tryd.sizeOf76 rfl rfl (by omega) (by omega) (by omega))⟩, ⟨_, rfl, Qok_val rfl (Ev_fieldAddr 1 74 32 Tryd.underlying76 rfl Tryd.sizeOf74 rfl rfl)⟩, ⟨_, rfl, Qok_val rfl (Ev_load rfl (Ld_agg Tryd.isAgg74 Tryd.sizeOf74 (len_cu8 hd2) (MemAt.ent 1 rfl (Seg.left (Seg.right 50 0 (by simp [hd1, ht1]) rfl (Seg.whole _))))))⟩, trivial⟩ rfl (Cok_step rfl (Step_store 5 nb7 0 32 (cu8 (zr8 32)) 25 (.agg (cu8 d2).toArray) (cu8 d2) (cu8 d2) rfl rfl rfl (by first | rfl | simp) Tryd.sizeOf25 (len_cu8 hd2) (by first | exact one_u8 | exact one_u32 | exact one_u64 | (simp [cu8, cu32, cu64, Value.oneCell']; done)) (by simp [(zr8_len 32)]) (lay_whole (by simp [(zr8_len 32), hd2])))) ?_
      rintro v1 L1 ⟨rfl, rfl⟩
      refine ⟨[], ?_⟩
      show DP _ _ _ _ _ _ _ _ [⟨nb1, [U64 x, U64 y], 68, (0, 0)⟩, ⟨nb2, [U64 e1] ++ cu8 d1 ++ cu8 t1 ++ [U64 e2] ++ cu8 d2 ++ cu8 t2, 113, (0, 0)⟩, ⟨nb3, [I64 ((a:Int)), I64 ((b:Int))], 95, (0, 0)⟩, ⟨nb4, cu8 (leafT y e2 d2 t2) ++ sp1, 5, (0, 0)⟩, ⟨nb5, cu8 d1, 25, (0, 0)⟩, ⟨nb7, cu8 d2, 25, (0, 0)⟩]
      refine DP_end ⟨[6, 7, 8, 9], [0, 1, 2, 3, 4, 5], [0, 1, 2, 3, 4, 5], [], []⟩ rfl rfl (by decide +kernel) rfl trivial ?_
      refine K_sub (F' := [(11, Ptr nb5 0), (12, Ptr nb7 0), (5, Ptr nb3 0), (6, .bool false), (7, .slice none 0 0), (8, .iface 43 (I64 (1:Int)))]) (Sub.cons (by kernel_rfl) (Sub.cons (by kernel_rfl) (Sub.cons (by kernel_rfl) (Sub.cons (by kernel_rfl) (Sub.cons (by kernel_rfl) (Sub.cons (by kernel_rfl) (Sub.nil))))))) ?_
      show JQ _ _ _ [(11, Ptr nb5 0), (12, Ptr nb7 0), (5, Ptr nb3 0), (6, .bool false), (7, .slice none 0 0), (8, .iface 43 (I64 (1:Int)))] _
      refine K_pick [2, 4, 5] (by decide) ?_
      show JQ _ _ _ _ [⟨nb3, [I64 ((a:Int)), I64 ((b:Int))], 95, (0, 0)⟩, ⟨nb5, cu8 d1, 25, (0, 0)⟩, ⟨nb7, cu8 d2, 25, (0, 0)⟩]
      refine JQ_cut (nb5, nb7) trivial (Sub.cons rfl (Sub.cons rfl (Sub.cons rfl (Sub.cons rfl (Sub.cons rfl (Sub.cons rfl (Sub.nil))))))) rfl
    ·
      rintro v1 L1 ⟨nb6, hnb6, rfl, rfl⟩
      refine ⟨[], ?_⟩
      show DP _ _ _ _ _ _ _ _ [⟨nb1, [U64 x, U64 y], 68, (0, 0)⟩, ⟨nb2, [U64 e1] ++ cu8 d1 ++ cu8 t1 ++ [U64 e2] ++ cu8 d2 ++ cu8 t2, 113, (0, 0)⟩, ⟨nb3, [I64 ((a:Int)), I64 ((b:Int))], 95, (0, 0)⟩, ⟨nb4, cu8 (leafT y e2 d2 t2) ++ sp1, 5, (0, 0)⟩, ⟨nb6, cu8 (zr8 32), 25, (0, 0)⟩]
      refine DP_one ⟨[7], [0, 1, 2, 3, 4, 5], [], [0, 1, 2, 3, 4, 5], [6]⟩ 6 _ rfl rfl (by decide +kernel) rfl ⟨⟨_, rfl, Qok_val rfl (Ev_indexArr 2 76 49 0 Tryd.underlying113 Tryd.sizeOf76 rfl rfl (by omega) (by omega) (by omega))⟩, ⟨_, rfl, Qok_val rfl (Ev_fieldAddr 1 74 32 Tryd.underlying76 rfl Tryd.sizeOf74 rfl rfl)⟩, ⟨_, rfl, Qok_val rfl (Ev_load rfl (Ld_agg Tryd.isAgg74 Tryd.sizeOf74 (len_cu8 hd1) (MemAt.ent 1 rfl (Seg.left (Seg.left (Seg.left (Seg.left (Seg.right 1 0 rfl rfl (Seg.whole _)))))))))⟩, ⟨_, rfl, Qok_val rfl (Ev_indexArr 2 76 49 49 Tryd.underlying113 Tryd.sizeOf76 rfl rfl (by omega) (by omega) (by omega))⟩, ⟨_, rfl, Qok_val rfl (Ev_fieldAddr 1 74 32 Tryd.underlying76 rfl Tryd.sizeOf74 rfl rfl)⟩, ⟨_, rfl, Qok_val rfl (Ev_load rfl (Ld_agg Tryd.isAgg74 Tryd.sizeOf74 (len_cu8 hd2) (MemAt.ent 1 rfl (Seg.left (Seg.right 50 0 (by simp [hd1, ht1]) rfl (Seg.whole _))))))⟩, trivial⟩ rfl (Cok_step rfl (Step_alloc _ (cu8 (zr8 32)) Tryd.zeroValue25 (by kernel_rfl))) ?_
      rintro v1 L1 ⟨nb8, hnb8, rfl, rfl⟩
      refine ⟨[], ?_⟩
      show DP _ _ _ _ _ _ _ _ [⟨nb1, [U64 x, U64 y], 68, (0, 0)⟩, ⟨nb2, [U64 e1] ++ cu8 d1 ++ cu8 t1 ++ [U64 e2] ++ cu8 d2 ++ cu8 t2, 113, (0, 0)⟩, ⟨nb3, [I64 ((a:Int)), I64 ((b:Int))], 95, (0, 0)⟩, ⟨nb4, cu8 (leafT y e2 d2 t2) ++ sp1, 5, (0, 0)⟩, ⟨nb6, cu8 (zr8 32), 25, (0, 0)⟩, ⟨nb8, cu8 (zr8 32), 25, (0, 0)⟩]
      refine DP_one ⟨[7, 6], [0, 1, 2, 3, 4, 5], [], [0, 1, 2, 3, 4, 5], [8]⟩ 8 _ rfl rfl (by decide +kernel) rfl ⟨⟨_, rfl, Qok_val rfl (Ev_indexArr 2 76 49 0 Tryd.underlying113 Tryd.sizeOf76 rfl rfl (by omega) (by omega) (by omega))⟩, ⟨_, rfl, Qok_val rfl (Ev_fieldAddr 1 74 32 Tryd.underlying76 rfl Tryd.sizeOf74 rfl rfl)⟩, ⟨_, rfl, Qok_val rfl (Ev_load rfl (Ld_agg Tryd.isAgg74 Tryd.sizeOf74 (len_cu8 hd1) (MemAt.ent 1 rfl (Seg.left (Seg.left (Seg.left (Seg.left (Seg.right 1 0 rfl rfl (Seg.whole _)))))))))⟩, ⟨_, rfl, Qok_val rfl (Ev_indexArr 2 76 49 49 Tryd.underlying113 Tryd.sizeOf76 rfl rfl (by omega) (by omega) (by omega))⟩, ⟨_, rfl, Qok_val rfl (Ev_fieldAddr 1 74 32 Tryd.underlying76 rfl Tryd.sizeOf74 rfl rfl)⟩, ⟨_, rfl, Qok_val rfl (Ev_load rfl (Ld_agg Tryd.isAgg74 Tryd.sizeOf74 (len_cu8 hd2) (MemAt.ent 1 rfl (Seg.left (Seg.right 50 0 (by simp [hd1, ht1]) rfl (Seg.whole _))))))⟩, trivial⟩ rfl (Cok_step rfl (Step_store 5 nb8 0 32 (cu8 (zr8 32)) 25 (.agg (cu8 d1).toArray) (cu8 d1) (cu8 d1) rfl rfl rfl (by first | rfl | simp) Tryd.sizeOf25 (len_cu8 hd1) (by first | exact one_u8 | exact one_u32 | exact one_u64 | (simp [cu8, cu32, cu64, Value.oneCell']; done)) (by simp [(zr8_len 32)]) (lay_whole (by simp [(zr8_len 32), hd1])))) ?_
      rintro v1 L1 ⟨rfl, rfl⟩
      refine ⟨[], ?_⟩
      show DP _ _ _ _ _ _ _ _ [⟨nb1, [U64 x, U64 y], 68, (0, 0)⟩, ⟨nb2, [U64 e1] ++ cu8 d1 ++ cu8 t1 ++ [U64 e2] ++ cu8 d2 ++ cu8 t2, 113, (0, 0)⟩, ⟨nb3, [I64 ((a:Int)), I64 ((b:Int))], 95, (0, 0)⟩, ⟨nb4, cu8 (leafT y e2 d2 t2) ++ sp1, 5, (0, 0)⟩, ⟨nb6, cu8 (zr8 32), 25, (0, 0)⟩, ⟨nb8, cu8 d1, 25, (0, 0)⟩]
      refine DP_one ⟨[7, 6, 8], [0, 1, 2, 3, 4, 5], [0, 1, 2], [3, 4, 5], [9]⟩ 9 _ rfl rfl (by decide +kernel) rfl ⟨⟨_, rfl, Qok_val rfl (Ev_indexArr 2 76 49 49 Tryd.underlying113 Tryd.sizeOf76 rfl rfl (by omega) (by omega) (by omega))⟩, ⟨_, rfl, Qok_val rfl (Ev_fieldAddr 1 74 32 Tryd.underlying76 rfl Tryd.sizeOf74 rfl rfl)⟩, ⟨_, rfl, Qok_val rfl (Ev_load rfl (Ld_agg Tryd.isAgg74 Tryd.sizeOf74 (len_cu8 hd2) (MemAt.ent 1 rfl (Seg.left (Seg.right 50 0 (by simp [hd1, ht1]) rfl (Seg.whole _))))))⟩, trivial⟩ rfl (Cok_step rfl (Step_store 4 nb6 0 32 (cu8 (zr8 32)) 25 (.agg (cu8 d2).toArray) (cu8 d2) (cu8 d2) rfl rfl rfl (by first | rfl | simp) Tryd.sizeOf25 (len_cu8 hd2) (by first | exact one_u8 | exact one_u32 | exact one_u64 | (simp [cu8, cu32, cu64, Value.oneCell']; done)) (by simp [(zr8_len 32)]) (lay_whole (by simp [(zr8_len 32), hd2])))) ?_
      rintro v1 L1 ⟨rfl, rfl⟩
      refine ⟨[], ?_⟩
      show DP _ _ _ _ _ _ _ _ [⟨nb1, [U64 x, U64 y], 68, (0, 0)⟩, ⟨nb2, [U64 e1] ++ cu8 d1 ++ cu8 t1 ++ [U64 e2] ++ cu8 d2 ++ cu8 t2, 113, (0, 0)⟩, ⟨nb3, [I64 ((a:Int)), I64 ((b:Int))], 95, (0, 0)⟩, ⟨nb4, cu8 (leafT y e2 d2 t2) ++ sp1, 5, (0, 0)⟩, ⟨nb6, cu8 d2, 25, (0, 0)⟩, ⟨nb8, cu8 d1, 25, (0, 0)⟩]
      refine DP_end ⟨[7, 6, 8, 9], [0, 1, 2, 3, 4, 5], [0, 1, 2, 3, 4, 5], [], []⟩ rfl rfl (by decide +kernel) rfl trivial ?_
      refine K_sub (F' := [(11, Ptr nb8 0), (12, Ptr nb6 0), (5, Ptr nb3 0), (6, .bool false), (7, .slice none 0 0), (8, .iface 43 (I64 (1:Int)))]) (Sub.cons (by kernel_rfl) (Sub.cons (by kernel_rfl) (Sub.cons (by kernel_rfl) (Sub.cons (by kernel_rfl) (Sub.cons (by kernel_rfl) (Sub.cons (by kernel_rfl) (Sub.nil))))))) ?_
      show JQ _ _ _ [(11, Ptr nb8 0), (12, Ptr nb6 0), (5, Ptr nb3 0), (6, .bool false), (7, .slice none 0 0), (8, .iface 43 (I64 (1:Int)))] _
      refine K_pick [2, 5, 4] (by decide) ?_
      show JQ _ _ _ _ [⟨nb3, [I64 ((a:Int)), I64 ((b:Int))], 95, (0, 0)⟩, ⟨nb8, cu8 d1, 25, (0, 0)⟩, ⟨nb6, cu8 d2, 25, (0, 0)⟩]
      refine JQ_cut (nb8, nb6) trivial (Sub.cons rfl (Sub.cons rfl (Sub.cons rfl (Sub.cons rfl (Sub.cons rfl (Sub.cons rfl (Sub.nil))))))) rfl
  ·
    rintro ⟨ynb0, ynb1⟩ _
    show JQ _ _ _ [(5, Ptr nb3 0), (6, .bool false), (7, .slice none 0 0), (8, .iface 43 (I64 (1:Int))), (11, Ptr ynb0 0), (12, Ptr ynb1 0)] [⟨nb3, [I64 ((a:Int)), I64 ((b:Int))], 95, (0, 0)⟩, ⟨ynb0, cu8 d1, 25, (0, 0)⟩, ⟨ynb1, cu8 d2, 25, (0, 0)⟩]
    refine JQ_then ?_
    refine JC_seq ?_
    refine JC_region ?_
    refine JL_val (Ptr nb3 0) (Ev_indexArr 2 3 1 0 Tryd.underlying95 Tryd.sizeOf3 rfl rfl (by omega) (by omega) (by omega)) rfl ?_
    refine JL_val (I64 ((a:Int))) (Ev_load rfl (Ld_one Tryd.isAgg3 (MemAt.ent 0 rfl (Seg.head)))) rfl ?_
    refine JL_val (.agg (cu8 d1).toArray) (Ev_load rfl (Ld_agg Tryd.isAgg25 Tryd.sizeOf25 (len_cu8 hd1) (MemAt.ent 1 rfl (Seg.whole _)))) rfl ?_
    refine JL_val (.agg (cu8 d2).toArray) (Ev_load rfl (Ld_agg Tryd.isAgg25 Tryd.sizeOf25 (len_cu8 hd2) (MemAt.ent 2 rfl (Seg.whole _)))) rfl ?_
    refine JL_step (Step_callN 71 [I64 ((a:Int)), .agg (cu8 d1).toArray, .agg (cu8 d2).toArray] _ (Cl_func [I64 ((a:Int)), .agg (cu8 d1).toArray, .agg (cu8 d2).toArray] Tryd.call71 rfl) (fun w1 hw1 => joinText_c a d1 d2 w1 hd1 hd2 (by omega) (by omega))) rfl ?_
    rintro v1 L1 ⟨_, ⟨nb9, sp2, cp2, rfl, rfl, hc4, hc5, hc6⟩, rfl⟩
    show JL _ _ _ _ ((72, .tuple #[Slc nb9 0 66 cp2, .nilIface]) :: _) [⟨nb3, [I64 ((a:Int)), I64 ((b:Int))], 95, (0, 0)⟩, ⟨ynb0, cu8 d1, 25, (0, 0)⟩, ⟨ynb1, cu8 d2, 25, (0, 0)⟩, ⟨nb9, cu8 (joinT a d1 d2) ++ sp2, 5, (0, 0)⟩]
    refine JL_val _ (Ev_move rfl) rfl ?_
    refine JL_val _ (Ev_extract rfl rfl) rfl ?_
    refine JL_val _ (Ev_extract rfl rfl) rfl ?_
    refine JL_val _ (Ev_assign rfl) rfl ?_
    refine JL_val _ (Ev_assign rfl) rfl ?_
    refine JL_nil ?_
    refine JQ_then ?_
    refine JC_seq ?_
    refine JC_region ?_
    refine JL_val (Ptr nb3 1) (Ev_indexArr 2 3 1 1 Tryd.underlying95 Tryd.sizeOf3 rfl rfl (by omega) (by omega) (by omega)) rfl ?_
    refine JL_val (I64 ((b:Int))) (Ev_load rfl (Ld_one Tryd.isAgg3 (MemAt.ent 0 rfl (Seg.tail (Seg.head))))) rfl ?_
    refine JL_val (.agg (cu8 d2).toArray) (Ev_load rfl (Ld_agg Tryd.isAgg25 Tryd.sizeOf25 (len_cu8 hd2) (MemAt.ent 2 rfl (Seg.whole _)))) rfl ?_
    refine JL_val (.agg (cu8 d1).toArray) (Ev_load rfl (Ld_agg Tryd.isAgg25 Tryd.sizeOf25 (len_cu8 hd1) (MemAt.ent 1 rfl (Seg.whole _)))) rfl ?_
    refine JL_step (Step_callN 71 [I64 ((b:Int)), .agg (cu8 d2).toArray, .agg (cu8 d1).toArray] _ (Cl_func [I64 ((b:Int)), .agg (cu8 d2).toArray, .agg (cu8 d1).toArray] Tryd.call71 rfl) (fun w1 hw1 => joinText_c b d2 d1 w1 hd2 hd1 (by omega) (by omega))) rfl ?_
    rintro v1 L1 ⟨_, ⟨nb10, sp3, cp3, rfl, rfl, hc7, hc8, hc9⟩, rfl⟩
    show JL _ _ _ _ ((80, .tuple #[Slc nb10 0 66 cp3, .nilIface]) :: _) [⟨nb3, [I64 ((a:Int)), I64 ((b:Int))], 95, (0, 0)⟩, ⟨ynb0, cu8 d1, 25, (0, 0)⟩, ⟨ynb1, cu8 d2, 25, (0, 0)⟩, ⟨nb9, cu8 (joinT a d1 d2) ++ sp2, 5, (0, 0)⟩, ⟨nb10, cu8 (joinT b d2 d1) ++ sp3, 5, (0, 0)⟩]
    refine JL_val _ (Ev_move rfl) rfl ?_
    refine JL_val _ (Ev_extract rfl rfl) rfl ?_
    refine JL_val _ (Ev_extract rfl rfl) rfl ?_
    refine JL_val _ (Ev_assign rfl) rfl ?_
    refine JL_val _ (Ev_assign rfl) rfl ?_
    refine JL_nil ?_
    refine JQ_then ?_
    refine JC_seq ?_
    refine JC_seq ?_
    refine JC_cut (ι := Bool) (fun yb0 => [(6, .bool false), (7, .slice none 0 0), (8, .iface 43 (I64 (1:Int))), (13, Slc nb9 0 66 cp2), (14, .nilIface), (106, .bool yb0)]) (fun yb0 => [⟨nb9, cu8 (joinT a d1 d2) ++ sp2, 5, (0, 0)⟩]) (fun yb0 => yb0 = false) ?_ ?_
    ·
      rcases Bool.eq_false_or_eq_true (decide (((a:Int)) = ((b:Int)))) with hb1 | hb1
      ·
        have hp1 : ((a:Int)) = ((b:Int)) := of_decide_eq_true hb1
        refine JC_draw 127 1 [(0, .nilIface), (1, .bool true), (2, .bool true), (3, .nilIface), (4, .bool true), (5, .bool true), (6, .bool true), (7, Slc nb9 0 66 cp2), (8, .string (⟨(joinT a d1 d2).toArray⟩ : ByteArray)), (9, Slc nb10 0 66 cp3), (10, .string (⟨(joinT b d2 d1).toArray⟩ : ByteArray)), (11, .bool (decide ((joinT a d1 d2) = (joinT b d2 d1)))), (12, Ptr nb3 0), (13, I64 ((a:Int))), (14, Ptr nb3 1), (15, I64 ((b:Int))), (16, .bool (decide (((a:Int)) = ((b:Int))))), (17, .bool (decide (((a:Int)) = ((b:Int))))), (18, .agg (cu8 d1).toArray), (19, .agg (cu8 d2).toArray), (20, .bool (decide (d1 = d2))), (21, .bool (decide (d1 = d2))), (22, .bool (!((decide ((joinT a d1 d2) = (joinT b d2 d1))) == (decide (d1 = d2))))), (23, .bool (!((decide ((joinT a d1 d2) = (joinT b d2 d1))) == (decide (d1 = d2)))))] Tryd.mixed rfl (by decide +kernel) ?_
        refine DP_end ⟨[], [0, 1, 2, 3, 4, 5, 6, 7, 8, 9, 10, 11, 12, 13, 14, 15, 16, 17, 18, 19, 20, 21, 22, 23], [], [0, 1, 2, 3, 4, 5, 6, 7, 8, 9, 10, 11, 12, 13, 14, 15, 16, 17, 18, 19, 20, 21, 22, 23], []⟩ rfl rfl (by decide +kernel) rfl ⟨⟨_, rfl, Qok_val rfl (Ev_move rfl)⟩, ⟨_, rfl, Qok_val rfl (Ev_bin _ _ _ rfl rfl (fun _ => eqGuard_nn ..) fun _ => eql_if_nil_nil Tryd.underlying39)⟩, ⟨_, rfl, Qok_val rfl (Ev_move rfl)⟩, ⟨_, rfl, Qok_gval 2 85 true _ rfl rfl rfl rfl (Ev_move rfl)⟩, ⟨_, rfl, Qok_gval 2 85 true _ rfl rfl rfl rfl (Ev_bin _ _ _ rfl rfl (fun _ => eqGuard_nn ..) fun _ => eql_if_nil_nil Tryd.underlying39)⟩, ⟨_, rfl, Qok_val rfl (Ev_pickT _ rfl rfl rfl)⟩, ⟨_, rfl, Qok_val rfl (Ev_move rfl)⟩, ⟨_, rfl, Qok_gval 6 89 true _ rfl rfl rfl rfl (Ev_move rfl)⟩, ⟨_, rfl, Qok_gval 6 89 true _ rfl rfl rfl rfl (Ev_toStr 5 (some ⟨nb9, 0, none⟩) 66 cp2 (joinT a d1 d2) Tryd.underlying22 Tryd.underlying5 Tryd.underlying9 rfl (by simp [(show (joinT a d1 d2).length = 66 from (joinT_len hd1 hd2))]; try omega) (SrcAt.mem (MemAt.ent 3 rfl (Seg.left (Seg.whole _)))))⟩, ⟨_, rfl, Qok_gval 6 89 true _ rfl rfl rfl rfl (Ev_move rfl)⟩, ⟨_, rfl, Qok_gval 6 89 true _ rfl rfl rfl rfl (Ev_toStr 5 (some ⟨nb10, 0, none⟩) 66 cp3 (joinT b d2 d1) Tryd.underlying22 Tryd.underlying5 Tryd.underlying9 rfl (by simp [(show (joinT b d2 d1).length = 66 from (joinT_len hd2 hd1))]; try omega) (SrcAt.mem (MemAt.ent 4 rfl (Seg.left (Seg.whole _)))))⟩, ⟨_, rfl, Qok_gval 6 89 true _ rfl rfl rfl rfl (Ev_bin _ _ _ rfl rfl (fun _ => eqGuard_str ..) fun _ => eql_str)⟩, ⟨_, rfl, Qok_gval 6 89 true _ rfl rfl rfl rfl (Ev_indexArr 2 3 1 0 Tryd.underlying95 Tryd.sizeOf3 rfl rfl (by omega) (by omega) (by omega))⟩, ⟨_, rfl, Qok_gval 6 89 true _ rfl rfl rfl rfl (Ev_load rfl (Ld_one Tryd.isAgg3 (MemAt.ent 0 rfl (Seg.head))))⟩, ⟨_, rfl, Qok_gval 6 89 true _ rfl rfl rfl rfl (Ev_indexArr 2 3 1 1 Tryd.underlying95 Tryd.sizeOf3 rfl rfl (by omega) (by omega) (by omega))⟩, ⟨_, rfl, Qok_gval 6 89 true _ rfl rfl rfl rfl (Ev_load rfl (Ld_one Tryd.isAgg3 (MemAt.ent 0 rfl (Seg.tail (Seg.head)))))⟩, ⟨_, rfl, Qok_gval 6 89 true _ rfl rfl rfl rfl (Ev_bini rfl rfl fun _ => bin_eql_i _ _)⟩, ⟨_, rfl, Qok_gval 6 89 true _ rfl rfl rfl rfl (Ev_move rfl)⟩, ⟨_, rfl, Qok_gval 17 100 true _ rfl rfl rfl hb1 (Ev_load rfl (Ld_agg Tryd.isAgg25 Tryd.sizeOf25 (len_cu8 hd1) (MemAt.ent 1 rfl (Seg.whole _))))⟩, ⟨_, rfl, Qok_gval 17 100 true _ rfl rfl rfl hb1 (Ev_load rfl (Ld_agg Tryd.isAgg25 Tryd.sizeOf25 (len_cu8 hd2) (MemAt.ent 2 rfl (Seg.whole _))))⟩, ⟨_, rfl, Qok_gval 17 100 true _ rfl rfl rfl hb1 (Ev_bin _ _ _ rfl rfl (fun _ => eqGuard_agg _ _ _ _ _ _ (by kernel_rfl)) fun _ => eql_arr8 Tryd.underlying25 Tryd.underlying5 Tryd.isAgg5 Tryd.cells5 Tryd.has5 (by simp [hd1]) (by simp [hd2]))⟩, ⟨_, rfl, Qok_gval 6 89 true _ rfl rfl rfl rfl (Ev_pickT _ rfl hb1 rfl)⟩, ⟨_, rfl, Qok_gval 6 89 true _ rfl rfl rfl rfl (Ev_bin _ _ _ rfl rfl (fun _ => eqGuard_bool ..) fun _ => neq_bool Tryd.underlying4)⟩, ⟨_, rfl, Qok_val rfl (Ev_pickT _ rfl rfl rfl)⟩, trivial⟩ ?_
        refine K_sub (F' := [(106, .bool (!((decide ((joinT a d1 d2) = (joinT b d2 d1))) == (decide (d1 = d2))))), (6, .bool false), (7, .slice none 0 0), (8, .iface 43 (I64 (1:Int))), (13, Slc nb9 0 66 cp2), (14, .nilIface)]) (Sub.cons (by kernel_rfl) (Sub.cons (by kernel_rfl) (Sub.cons (by kernel_rfl) (Sub.cons (by kernel_rfl) (Sub.cons (by kernel_rfl) (Sub.cons (by kernel_rfl) (Sub.nil))))))) ?_
        show JQ _ _ _ [(106, .bool (!((decide ((joinT a d1 d2) = (joinT b d2 d1))) == (decide (d1 = d2))))), (6, .bool false), (7, .slice none 0 0), (8, .iface 43 (I64 (1:Int))), (13, Slc nb9 0 66 cp2), (14, .nilIface)] _
        refine K_pick [3] (by decide) ?_
        show JQ _ _ _ _ [⟨nb9, cu8 (joinT a d1 d2) ++ sp2, 5, (0, 0)⟩]
        refine JQ_cut (!((decide ((joinT a d1 d2) = (joinT b d2 d1))) == (decide (d1 = d2)))) (by rw [show ((decide ((joinT a d1 d2) = (joinT b d2 d1))) == (decide (d1 = d2))) = true from (by have hab : a = b := (by have := of_decide_eq_true hb1; omega); subst hab; rw [joinT_same (by omega) hd1 hd2]; exact beq_self_eq_true _)] <;> rfl) (Sub.cons rfl (Sub.cons rfl (Sub.cons rfl (Sub.cons rfl (Sub.cons rfl (Sub.cons rfl (Sub.nil))))))) rfl
      ·
        have hp1 : ¬ (((a:Int)) = ((b:Int))) := of_decide_eq_false hb1
        refine JC_draw 127 1 [(0, .nilIface), (1, .bool true), (2, .bool true), (3, .nilIface), (4, .bool true), (5, .bool true), (6, .bool true), (7, Slc nb9 0 66 cp2), (8, .string (⟨(joinT a d1 d2).toArray⟩ : ByteArray)), (9, Slc nb10 0 66 cp3), (10, .string (⟨(joinT b d2 d1).toArray⟩ : ByteArray)), (11, .bool (decide ((joinT a d1 d2) = (joinT b d2 d1)))), (12, Ptr nb3 0), (13, I64 ((a:Int))), (14, Ptr nb3 1), (15, I64 ((b:Int))), (16, .bool (decide (((a:Int)) = ((b:Int))))), (17, .bool (decide (((a:Int)) = ((b:Int))))), (18, undef), (19, undef), (20, undef), (21, .bool false), (22, .bool (!((decide ((joinT a d1 d2) = (joinT b d2 d1))) == false))), (23, .bool (!((decide ((joinT a d1 d2) = (joinT b d2 d1))) == false)))] Tryd.mixed rfl (by decide +kernel) ?_
        refine DP_end ⟨[], [0, 1, 2, 3, 4, 5, 6, 7, 8, 9, 10, 11, 12, 13, 14, 15, 16, 17, 18, 19, 20, 21, 22, 23], [], [0, 1, 2, 3, 4, 5, 6, 7, 8, 9, 10, 11, 12, 13, 14, 15, 16, 17, 18, 19, 20, 21, 22, 23], []⟩ rfl rfl (by decide +kernel) rfl ⟨⟨_, rfl, Qok_val rfl (Ev_move rfl)⟩, ⟨_, rfl, Qok_val rfl (Ev_bin _ _ _ rfl rfl (fun _ => eqGuard_nn ..) fun _ => eql_if_nil_nil Tryd.underlying39)⟩, ⟨_, rfl, Qok_val rfl (Ev_move rfl)⟩, ⟨_, rfl, Qok_gval 2 85 true _ rfl rfl rfl rfl (Ev_move rfl)⟩, ⟨_, rfl, Qok_gval 2 85 true _ rfl rfl rfl rfl (Ev_bin _ _ _ rfl rfl (fun _ => eqGuard_nn ..) fun _ => eql_if_nil_nil Tryd.underlying39)⟩, ⟨_, rfl, Qok_val rfl (Ev_pickT _ rfl rfl rfl)⟩, ⟨_, rfl, Qok_val rfl (Ev_move rfl)⟩, ⟨_, rfl, Qok_gval 6 89 true _ rfl rfl rfl rfl (Ev_move rfl)⟩, ⟨_, rfl, Qok_gval 6 89 true _ rfl rfl rfl rfl (Ev_toStr 5 (some ⟨nb9, 0, none⟩) 66 cp2 (joinT a d1 d2) Tryd.underlying22 Tryd.underlying5 Tryd.underlying9 rfl (by simp [(show (joinT a d1 d2).length = 66 from (joinT_len hd1 hd2))]; try omega) (SrcAt.mem (MemAt.ent 3 rfl (Seg.left (Seg.whole _)))))⟩, ⟨_, rfl, Qok_gval 6 89 true _ rfl rfl rfl rfl (Ev_move rfl)⟩, ⟨_, rfl, Qok_gval 6 89 true _ rfl rfl rfl rfl (Ev_toStr 5 (some ⟨nb10, 0, none⟩) 66 cp3 (joinT b d2 d1) Tryd.underlying22 Tryd.underlying5 Tryd.underlying9 rfl (by simp [(show (joinT b d2 d1).length = 66 from (joinT_len hd2 hd1))]; try omega) (SrcAt.mem (MemAt.ent 4 rfl (Seg.left (Seg.whole _)))))⟩, ⟨_, rfl, Qok_gval 6 89 true _ rfl rfl rfl rfl (Ev_bin _ _ _ rfl rfl (fun _ => eqGuard_str ..) fun _ => eql_str)⟩, ⟨_, rfl, Qok_gval 6 89 true _ rfl rfl rfl rfl (Ev_indexArr 2 3 1 0 Tryd.underlying95 Tryd.sizeOf3 rfl rfl (by omega) (by omega) (by omega))⟩, ⟨_, rfl, Qok_gval 6 89 true _ rfl rfl rfl rfl (Ev_load rfl (Ld_one Tryd.isAgg3 (MemAt.ent 0 rfl (Seg.head))))⟩, ⟨_, rfl, Qok_gval 6 89 true _ rfl rfl rfl rfl (Ev_indexArr 2 3 1 1 Tryd.underlying95 Tryd.sizeOf3 rfl rfl (by omega) (by omega) (by omega))⟩, ⟨_, rfl, Qok_gval 6 89 true _ rfl rfl rfl rfl (Ev_load rfl (Ld_one Tryd.isAgg3 (MemAt.ent 0 rfl (Seg.tail (Seg.head)))))⟩, ⟨_, rfl, Qok_gval 6 89 true _ rfl rfl rfl rfl (Ev_bini rfl rfl fun _ => bin_eql_i _ _)⟩, ⟨_, rfl, Qok_gval 6 89 true _ rfl rfl rfl rfl (Ev_move rfl)⟩, ⟨_, rfl, Qok_gskip 17 100 true _ rfl rfl rfl hb1⟩, ⟨_, rfl, Qok_gskip 17 100 true _ rfl rfl rfl hb1⟩, ⟨_, rfl, Qok_gskip 17 100 true _ rfl rfl rfl hb1⟩, ⟨_, rfl, Qok_gval 6 89 true _ rfl rfl rfl rfl (Ev_pickF _ rfl hb1 rfl)⟩, ⟨_, rfl, Qok_gval 6 89 true _ rfl rfl rfl rfl (Ev_bin _ _ _ rfl rfl (fun _ => eqGuard_bool ..) fun _ => neq_bool Tryd.underlying4)⟩, ⟨_, rfl, Qok_val rfl (Ev_pickT _ rfl rfl rfl)⟩, trivial⟩ ?_
        refine K_sub (F' := [(106, .bool (!((decide ((joinT a d1 d2) = (joinT b d2 d1))) == false))), (6, .bool false), (7, .slice none 0 0), (8, .iface 43 (I64 (1:Int))), (13, Slc nb9 0 66 cp2), (14, .nilIface)]) (Sub.cons (by kernel_rfl) (Sub.cons (by kernel_rfl) (Sub.cons (by kernel_rfl) (Sub.cons (by kernel_rfl) (Sub.cons (by kernel_rfl) (Sub.cons (by kernel_rfl) (Sub.nil))))))) ?_
        show JQ _ _ _ [(106, .bool (!((decide ((joinT a d1 d2) = (joinT b d2 d1))) == false))), (6, .bool false), (7, .slice none 0 0), (8, .iface 43 (I64 (1:Int))), (13, Slc nb9 0 66 cp2), (14, .nilIface)] _
        refine K_pick [3] (by decide) ?_
        show JQ _ _ _ _ [⟨nb9, cu8 (joinT a d1 d2) ++ sp2, 5, (0, 0)⟩]
        refine JQ_cut (!((decide ((joinT a d1 d2) = (joinT b d2 d1))) == false)) (by rw [show ((decide ((joinT a d1 d2) = (joinT b d2 d1))) == false) = true from (by rw [decide_eq_false (fun h => of_decide_eq_false hb1 (by have := (joinT_inj (by omega) (by omega) hd1 hd2 h).1; omega))]; rfl)] <;> rfl) (Sub.cons rfl (Sub.cons rfl (Sub.cons rfl (Sub.cons rfl (Sub.cons rfl (Sub.cons rfl (Sub.nil))))))) rfl
    ·
      rintro yb0 hy1
      show JQ _ _ _ [(6, .bool false), (7, .slice none 0 0), (8, .iface 43 (I64 (1:Int))), (13, Slc nb9 0 66 cp2), (14, .nilIface), (106, .bool yb0)] [⟨nb9, cu8 (joinT a d1 d2) ++ sp2, 5, (0, 0)⟩]
      refine JQ_then ?_
      refine JC_condF _ rfl hy1 ?_
      refine JC_skip ?_
      refine JQ_then ?_
      refine JC_seq ?_
      refine JC_region ?_
      refine JL_val _ (Ev_move rfl) rfl ?_
      refine JL_val (.bool true) (Ev_bin _ _ _ rfl rfl (fun _ => eqGuard_if ..) fun _ => neq_if_nil Tryd.underlying39) rfl ?_
      refine JL_val _ (Ev_move rfl) rfl ?_
      refine JL_gskip 2 109 false _ rfl rfl rfl rfl ?_
      refine JL_gskip 2 109 false _ rfl rfl rfl rfl ?_
      refine JL_val _ (Ev_pickT _ rfl rfl rfl) rfl ?_
      refine JL_val _ (Ev_move rfl) rfl ?_
      refine JL_gskip 6 113 false _ rfl rfl rfl rfl ?_
      refine JL_gskip 6 113 false _ rfl rfl rfl rfl ?_
      refine JL_gskip 6 113 false _ rfl rfl rfl rfl ?_
      refine JL_gskip 6 113 false _ rfl rfl rfl rfl ?_
      refine JL_gskip 6 113 false _ rfl rfl rfl rfl ?_
      refine JL_gskip 6 113 false _ rfl rfl rfl rfl ?_
      refine JL_gskipU 12 119 true rfl rfl rfl ?_
      refine JL_gskipU 12 119 true rfl rfl rfl ?_
      refine JL_gskipU 12 119 true rfl rfl rfl ?_
      refine JL_gskipU 12 119 true rfl rfl rfl ?_
      refine JL_gskipU 12 119 true rfl rfl rfl ?_
      refine JL_gskip 6 113 false _ rfl rfl rfl rfl ?_
      refine JL_val _ (Ev_pickT _ rfl rfl rfl) rfl ?_
      refine JL_val _ (Ev_assign rfl) rfl ?_
      refine JL_nil ?_
      refine JQ_then ?_
      refine JC_ret ?_
      refine JQ_ret (.bool true) (res1 Tryd.results20 (RV_tmp rfl)) fun w1 hw1 => ?_
      exact ⟨_, [], rfl, ⟨by rw [show (true) = true from rfl], rfl⟩, hw1.sub (by simp) (by simp)⟩

theorem nodeApart_w (x y e1 : UInt64) (d1 t1 : List UInt8) (e2 : UInt64) (d2 t2 : List UInt8) (a b : Int) (w : World) (hd1 : d1.length = 32) (ht1 : t1.length = 16) (hd2 : d2.length = 32) (ht2 : t2.length = 16) (ha0 : -9223372036854775808 ≤ a ∧ a ≤ 9223372036854775807) (hb0 : -9223372036854775808 ≤ b ∧ b ≤ 9223372036854775807) (hG : GLs w) : Calls Tryd.prog 20 #[.agg #[U64 x, U64 y], .agg (List.toArray (α := Value) ([U64 e1] ++ cu8 d1 ++ cu8 t1 ++ [U64 e2] ++ cu8 d2 ++ cu8 t2)), .agg (List.toArray (α := Value) [I64 a, I64 b])] w (Post w [] (fun v L => v = .bool true ∧ L = [])) := by
  by_cases hx : (4294967295:UInt64) < x <;> by_cases hy : (4294967295:UInt64) < y <;> by_cases ha : 1 ≤ a ∧ a ≤ 32 <;> by_cases hb : 1 ≤ b ∧ b ≤ 32
  · obtain ⟨a, rfl⟩ : ∃ k : Nat, a = k := ⟨a.toNat, by omega⟩
    obtain ⟨b, rfl⟩ : ∃ k : Nat, b = k := ⟨b.toNat, by omega⟩
    exact nodeAp12_c x y e1 d1 t1 e2 d2 t2 a b w hd1 ht1 hd2 ht2 hG hx hy (by omega) (by omega)
  · obtain ⟨a, rfl⟩ : ∃ k : Nat, a = k := ⟨a.toNat, by omega⟩
    exact nodeAp4_c x y e1 d1 t1 e2 d2 t2 a b w hd1 ht1 hd2 ht2 hG hx hy (by omega) (by omega)
  · obtain ⟨b, rfl⟩ : ∃ k : Nat, b = k := ⟨b.toNat, by omega⟩
    exact nodeAp8_c x y e1 d1 t1 e2 d2 t2 a b w hd1 ht1 hd2 ht2 hG hx hy (by omega) (by omega)
  · exact nodeAp0_c x y e1 d1 t1 e2 d2 t2 a b w hd1 ht1 hd2 ht2 hG hx hy (by omega) (by omega)
  · obtain ⟨a, rfl⟩ : ∃ k : Nat, a = k := ⟨a.toNat, by omega⟩
    obtain ⟨b, rfl⟩ : ∃ k : Nat, b = k := ⟨b.toNat, by omega⟩
    exact nodeAp14_c x y e1 d1 t1 e2 d2 t2 a b w hd1 ht1 hd2 ht2 hG hx hy (by omega) (by omega)
  · obtain ⟨a, rfl⟩ : ∃ k : Nat, a = k := ⟨a.toNat, by omega⟩
    exact nodeAp6_c x y e1 d1 t1 e2 d2 t2 a b w hd1 ht1 hd2 ht2 hG hx hy (by omega) (by omega)
  · obtain ⟨b, rfl⟩ : ∃ k : Nat, b = k := ⟨b.toNat, by omega⟩
    exact nodeAp10_c x y e1 d1 t1 e2 d2 t2 a b w hd1 ht1 hd2 ht2 hG hx hy (by omega) (by omega)
  · exact nodeAp2_c x y e1 d1 t1 e2 d2 t2 a b w hd1 ht1 hd2 ht2 hG hx hy (by omega) (by omega)
  · obtain ⟨a, rfl⟩ : ∃ k : Nat, a = k := ⟨a.toNat, by omega⟩
    obtain ⟨b, rfl⟩ : ∃ k : Nat, b = k := ⟨b.toNat, by omega⟩
    exact nodeAp13_c x y e1 d1 t1 e2 d2 t2 a b w hd1 ht1 hd2 ht2 hG hx hy (by omega) (by omega)
  · obtain ⟨a, rfl⟩ : ∃ k : Nat, a = k := ⟨a.toNat, by omega⟩
    exact nodeAp5_c x y e1 d1 t1 e2 d2 t2 a b w hd1 ht1 hd2 ht2 hG hx hy (by omega) (by omega)
  · obtain ⟨b, rfl⟩ : ∃ k : Nat, b = k := ⟨b.toNat, by omega⟩
    exact nodeAp9_c x y e1 d1 t1 e2 d2 t2 a b w hd1 ht1 hd2 ht2 hG hx hy (by omega) (by omega)
  · exact nodeAp1_c x y e1 d1 t1 e2 d2 t2 a b w hd1 ht1 hd2 ht2 hG hx hy (by omega) (by omega)
  · obtain ⟨a, rfl⟩ : ∃ k : Nat, a = k := ⟨a.toNat, by omega⟩
    obtain ⟨b, rfl⟩ : ∃ k : Nat, b = k := ⟨b.toNat, by omega⟩
    exact nodeAp15_c x y e1 d1 t1 e2 d2 t2 a b w hd1 ht1 hd2 ht2 hG hx hy (by omega) (by omega)
  · obtain ⟨a, rfl⟩ : ∃ k : Nat, a = k := ⟨a.toNat, by omega⟩
    exact nodeAp7_c x y e1 d1 t1 e2 d2 t2 a b w hd1 ht1 hd2 ht2 hG hx hy (by omega) (by omega)
  · obtain ⟨b, rfl⟩ : ∃ k : Nat, b = k := ⟨b.toNat, by omega⟩
    exact nodeAp11_c x y e1 d1 t1 e2 d2 t2 a b w hd1 ht1 hd2 ht2 hG hx hy (by omega) (by omega)
  · exact nodeAp3_c x y e1 d1 t1 e2 d2 t2 a b w hd1 ht1 hd2 ht2 hG hx hy (by omega) (by omega)

end Go.Proofs.YtncoifiafklkjaaDoor
namespace Go.Sx
open Go Go.RowKit
open Go.ChangeShapes Go.WideShapes
set_option linter.unusedVariables false
set_option linter.unusedSimpArgs false
section
variable {H : Type} {enc : TypeId × Value → H} {P : Program} {w : World} {base : Nat} {spare : Nat → Bool} {held : Bool} {r : Reach} {b0 : Nat}
theorem open_two_u64 {t e : TypeId} {v : Value} {d : DataW H} {ps : List MemPlace} (ht : P.underlying t = some (.array 2 e)) (he : P.underlying e = some (.int .u64)) (hc : P.cellsOf e = 1) (hT : P.cellsOf t = 2)
    (hval : Value.okWide P w r b0 t v) (hd : DataW.Trod enc P w base spare held t v d ps) : ∃ x y : UInt64, v = .agg #[U64 x, U64 y] := by
  obtain ⟨l, rfl, hl⟩ := open_arr_u64 ht he hc hT hval hd
  match l, hl with
  | [x, y], _ => exact ⟨x, y, rfl⟩
end
end Go.Sx
namespace Go.Sx
open Go Go.RowKit
open Go.ChangeShapes Go.WideShapes
set_option linter.unusedVariables false
set_option linter.unusedSimpArgs false
theorem laidVars_mem {P : Program} {w : World} : ∀ {l : List (String × DataW Unit)} {ps : List MemPlace}, DataW.LaidVars P w l ps → ∀ {n : String} {d : DataW Unit}, (n, d) ∈ l →
    ∃ g t cs fuel p, P.globalNamed n = some g ∧ (P.globals[g]?).map (·.type) = some t ∧ w.var? P n = some cs ∧ DataW.trod (fun _ => ()) P w 0 (fun _ => true) false fuel t cs.toList = some (d, p)
  | (n', d') :: r, ps, h, n, d, hm => by
    obtain ⟨g, t, cs, fuel, p, q, h1, h2, h3, h4, h5, _⟩ := h
    rcases List.mem_cons.1 hm with hm | hm
    · cases hm; exact ⟨g, t, cs, fuel, p, h1, h2, h3, h4⟩
    · exact laidVars_mem h5 hm
theorem laid_rd {P : Program} {W : World} {laid : List (String × DataW Unit)} (h : laidMetH P laid W) (hp : (laid.all fun x => x.2.handleName?.isNone) = true) {name : String} {d : DataW Unit} (hm : (name, d) ∈ laid) (l : List UInt32)
    (hd : d = Lib.tabData .u32 (l.map fun u => (u.toNat : Int))) {g t e n : Nat}
    (hg : P.globalNamed name = some g) (hty : (P.globals[g]?).map (·.type) = some t) (ht : P.underlying t = some (.array n e)) (he : P.underlying e = some (.int .u32)) (hce : P.cellsOf e = 1) (hct : P.cellsOf t = n) (hl : 0 < l.length) : RdA W g 0 (cu32 l) := by
  rw [MakeChecks.laidMetH_plain _ _ _ hp] at h
  obtain ⟨ps, hv, _, _⟩ := h
  obtain ⟨g', t', cs, fuel, p, hg', ht', hvar, htr⟩ := laidVars_mem hv hm
  obtain rfl := Option.some.inj (hg.symm.trans hg')
  obtain rfl := Option.some.inj (hty.symm.trans ht')
  subst hd
  have hcs := Lib.cells_of_tab ht he hce hct htr
  have key : ∀ j v, (cu32 l)[j]? = some v → W.cell? ⟨g, 0 + j, none⟩ = some v := fun j v hj => by
    have := World.var?_cell hg hvar j
    rw [Nat.zero_add, this, ← Array.getElem?_toList, hcs]
    simpa [cu32] using hj
  have h0 : (cu32 l)[0]? = some (U32 (l[0]'hl)) := by simp [cu32, hl]
  exact ⟨lt_of_cell (key 0 _ h0), key⟩
end Go.Sx
