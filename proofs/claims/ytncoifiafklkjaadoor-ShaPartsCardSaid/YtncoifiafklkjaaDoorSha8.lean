import Derived.Test.YtncoifiafklkjaaDoorSha7
namespace Go.Proofs.YtncoifiafklkjaaDoor
open Go Go.Sx
set_option linter.unusedVariables false
set_option linter.unusedSimpArgs false
set_option maxRecDepth 100000
attribute [local irreducible] mid zr8 zr32 rotr wordL spreadL comprL cpN adN spN wrdN constL initL padL stN outN routN hashL sumG
theorem shaPartsBig_c (a1 a2 a3 : Option Addr) (n1 n2 n3 c1 c2 c3 : Nat) (x y z : List UInt8) (w : World) (hb1 : x.length = n1) (hn1 : a1 = none → c1 = 0) (hc1 : n1 ≤ c1 ∧ c1 ≤ maxLen) (hr1 : RdB w [] a1 x) (hz1 : n1 ≤ 140737488351232) (hb2 : y.length = n2) (hn2 : a2 = none → c2 = 0) (hc2 : n2 ≤ c2 ∧ c2 ≤ maxLen) (hr2 : RdB w [] a2 y) (hz2 : n2 ≤ 140737488351232) (hb3 : z.length = n3) (hn3 : a3 = none → c3 = 0) (hc3 : n3 ≤ c3 ∧ c3 ≤ maxLen) (hr3 : RdB w [] a3 z) (hz3 : n3 ≤ 140737488351232) (hG : GLs w) (hGr : GLr w) (hGi : GLi w) (hn : 3000 < n1 + n2 + n3) : Calls Tryd.prog 5 #[.slice a1 n1 c1, .slice a2 n2 c2, .slice a3 n3 c3] w (Post w [] (fun v L => v = .bool true ∧ L = [])) := by
  have hm1 := hc1.2
  have hm2 := hc2.2
  have hm3 := hc3.2
  have hmx : maxLen ≤ 9223372036854775807 := by unfold maxLen; omega
  refine enter w [] 47 [] [.slice a1 n1 c1, .slice a2 n2 c2, .slice a3 n3 c3] Tryd.func5 rfl rfl (by simp) (Hp.start (by simp) (by simp) (by simp)) ?_
  show JC _ _ _ [(0, .slice a1 n1 c1), (1, .slice a2 n2 c2), (2, .slice a3 n3 c3)] _
  refine JC_seq ?_
  refine JC_region ?_
  refine JL_val _ (Ev_assign rfl) rfl ?_
  refine JL_nil ?_
  refine JQ_then ?_
  refine JC_seq ?_
  refine JC_seq ?_
  refine JC_region ?_
  refine JL_step (Step_callP 22 [] (.bool true) (Cl_func [] Tryd.call22 rfl) (fun w1 hw1 => alive2_c  w1 (hG.at hw1))) rfl ?_
  rintro v1 L1 ⟨rfl, rfl⟩
  show JL _ _ _ _ ((8, .bool true) :: _) []
  refine JL_val (.bool (!true)) (Ev_not rfl) rfl ?_
  refine JL_nil ?_
  refine JQ_then ?_
  refine JC_condF _ rfl rfl ?_
  refine JC_skip ?_
  refine JQ_then ?_
  refine JC_seq ?_
  refine JC_seq ?_
  refine JC_region ?_
  refine JL_val _ (Ev_move rfl) rfl ?_
  refine JL_val (I64 ((n1:Int))) (Ev_len Tryd.underlying22 rfl) rfl ?_
  refine JL_val _ (Ev_move rfl) rfl ?_
  refine JL_val (I64 ((n2:Int))) (Ev_len Tryd.underlying22 rfl) rfl ?_
  refine JL_val (I64 ((n1:Int) + (n2:Int))) (Ev_bini rfl rfl fun _ => bin_add_i _ _ ((n1:Int) + (n2:Int)) (by omega) (by omega)) rfl ?_
  refine JL_val _ (Ev_move rfl) rfl ?_
  refine JL_val (I64 ((n3:Int))) (Ev_len Tryd.underlying22 rfl) rfl ?_
  refine JL_val (I64 ((n1:Int) + (n2:Int) + (n3:Int))) (Ev_bini rfl rfl fun _ => bin_add_i _ _ ((n1:Int) + (n2:Int) + (n3:Int)) (by omega) (by omega)) rfl ?_
  refine JL_val (.bool (decide ((3000:Int) < ((n1:Int) + (n2:Int) + (n3:Int))))) (Ev_bini rfl rfl fun _ => bin_gtr_i _ _) rfl ?_
  refine JL_nil ?_
  refine JQ_then ?_
  refine JC_condT _ rfl (decide_eq_true (by omega)) ?_
  refine JC_seq ?_
  refine JC_region ?_
  refine JL_val _ (Ev_assign rfl) rfl ?_
  refine JL_nil ?_
  refine JQ_then ?_
  refine JC_ret ?_
  refine JQ_then_ret ?_
  refine JQ_ret (.bool true) (res1 Tryd.results5 (RV_tmp rfl)) fun w1 hw1 => ?_
  exact ⟨_, [], rfl, ⟨by rw [show (true) = true from rfl], rfl⟩, hw1.sub (by simp) (by simp)⟩

theorem shaPartsIn_c (a1 a2 a3 : Option Addr) (n1 n2 n3 c1 c2 c3 : Nat) (x y z : List UInt8) (w : World) (hb1 : x.length = n1) (hn1 : a1 = none → c1 = 0) (hc1 : n1 ≤ c1 ∧ c1 ≤ maxLen) (hr1 : RdB w [] a1 x) (hz1 : n1 ≤ 140737488351232) (hb2 : y.length = n2) (hn2 : a2 = none → c2 = 0) (hc2 : n2 ≤ c2 ∧ c2 ≤ maxLen) (hr2 : RdB w [] a2 y) (hz2 : n2 ≤ 140737488351232) (hb3 : z.length = n3) (hn3 : a3 = none → c3 = 0) (hc3 : n3 ≤ c3 ∧ c3 ≤ maxLen) (hr3 : RdB w [] a3 z) (hz3 : n3 ≤ 140737488351232) (hG : GLs w) (hGr : GLr w) (hGi : GLi w) (hn : n1 + n2 + n3 ≤ 3000) : Calls Tryd.prog 5 #[.slice a1 n1 c1, .slice a2 n2 c2, .slice a3 n3 c3] w (Post w [] (fun v L => v = .bool true ∧ L = [])) := by
  have hm1 := hc1.2
  have hm2 := hc2.2
  have hm3 := hc3.2
  have hmx : maxLen ≤ 9223372036854775807 := by unfold maxLen; omega
  refine enter w [] 47 [] [.slice a1 n1 c1, .slice a2 n2 c2, .slice a3 n3 c3] Tryd.func5 rfl rfl (by simp) (Hp.start (by simp) (by simp) (by simp)) ?_
  show JC _ _ _ [(0, .slice a1 n1 c1), (1, .slice a2 n2 c2), (2, .slice a3 n3 c3)] _
  refine JC_seq ?_
  refine JC_region ?_
  refine JL_val _ (Ev_assign rfl) rfl ?_
  refine JL_nil ?_
  refine JQ_then ?_
  refine JC_seq ?_
  refine JC_seq ?_
  refine JC_region ?_
  refine JL_step (Step_callP 22 [] (.bool true) (Cl_func [] Tryd.call22 rfl) (fun w1 hw1 => alive2_c  w1 (hG.at hw1))) rfl ?_
  rintro v1 L1 ⟨rfl, rfl⟩
  show JL _ _ _ _ ((8, .bool true) :: _) []
  refine JL_val (.bool (!true)) (Ev_not rfl) rfl ?_
  refine JL_nil ?_
  refine JQ_then ?_
  refine JC_condF _ rfl rfl ?_
  refine JC_skip ?_
  refine JQ_then ?_
  refine JC_seq ?_
  refine JC_seq ?_
  refine JC_region ?_
  refine JL_val _ (Ev_move rfl) rfl ?_
  refine JL_val (I64 ((n1:Int))) (Ev_len Tryd.underlying22 rfl) rfl ?_
  refine JL_val _ (Ev_move rfl) rfl ?_
  refine JL_val (I64 ((n2:Int))) (Ev_len Tryd.underlying22 rfl) rfl ?_
  refine JL_val (I64 ((n1:Int) + (n2:Int))) (Ev_bini rfl rfl fun _ => bin_add_i _ _ ((n1:Int) + (n2:Int)) (by omega) (by omega)) rfl ?_
  refine JL_val _ (Ev_move rfl) rfl ?_
  refine JL_val (I64 ((n3:Int))) (Ev_len Tryd.underlying22 rfl) rfl ?_
  refine JL_val (I64 ((n1:Int) + (n2:Int) + (n3:Int))) (Ev_bini rfl rfl fun _ => bin_add_i _ _ ((n1:Int) + (n2:Int) + (n3:Int)) (by omega) (by omega)) rfl ?_
  refine JL_val (.bool (decide ((3000:Int) < ((n1:Int) + (n2:Int) + (n3:Int))))) (Ev_bini rfl rfl fun _ => bin_gtr_i _ _) rfl ?_
  refine JL_nil ?_
  refine JQ_then ?_
  refine JC_condF _ rfl (decide_eq_false (by omega)) ?_
  refine JC_skip ?_
  refine JQ_then ?_
  refine JC_seq ?_
  refine JC_region ?_
  refine JL_step (Step_buildSlice0 5 1 Tryd.underlying22 Tryd.sizeOf5) rfl ?_
  rintro v1 L1 ⟨nb1, hnb1, rfl, rfl⟩
  show JL _ _ _ _ ((19, Slc nb1 0 0 0) :: _) [⟨nb1, [], 5, (0, 0)⟩]
  refine JL_val _ (Ev_move rfl) rfl ?_
  refine JL_step (Step_appM8 22 5 [true] (Slc nb1 0 0 0) 0 ([] : List UInt8) x a1 n1 c1 n1 Tryd.underlying22 Tryd.info5 rfl (.inr ⟨nb1, [], 0, rfl, (by simp [take?, cu8, cu32, cu64]), rfl, (by simp), (by omega), (by unfold maxLen; omega)⟩) rfl (by simp [hb1]; try omega) (hr1.src) (by omega) (by unfold maxLen; omega) (by omega)) rfl ?_
  rintro v1 L1 ⟨nb2, sp1, cp1, hg1, rfl, rfl, ha1, ha2, ha3, ha4⟩
  show JL _ _ _ _ ((21, Slc nb2 0 n1 cp1) :: _) [⟨nb2, cu8 (([] : List UInt8) ++ x) ++ sp1, 5, (0, 0)⟩]
  refine JL_val _ (Ev_move rfl) rfl ?_
  refine JL_step (Step_appM8 22 5 [true] (Slc nb2 0 n1 cp1) n1 (([] : List UInt8) ++ x) y a2 n2 c2 (n1 + n2) Tryd.underlying22 Tryd.info5 rfl (.inr ⟨nb2, sp1, cp1, rfl, rfl, (by first | exact ha1 | simp [ha1]), ha2, (by omega), (by omega)⟩) rfl (by simp [hb2]; try omega) (hr2.src) (by omega) (by unfold maxLen; omega) (by omega)) rfl ?_
  rintro v1 L1 ⟨nb3, sp2, cp2, hg2, rfl, rfl, ha5, ha6, ha7, ha8⟩
  show JL _ _ _ _ ((23, Slc nb3 0 (n1 + n2) cp2) :: _) [⟨nb3, cu8 ((([] : List UInt8) ++ x) ++ y) ++ sp2, 5, (0, 0)⟩]
  refine JL_val _ (Ev_move rfl) rfl ?_
  refine JL_step (Step_appM8 22 5 [true] (Slc nb3 0 (n1 + n2) cp2) (n1 + n2) ((([] : List UInt8) ++ x) ++ y) z a3 n3 c3 (n1 + n2 + n3) Tryd.underlying22 Tryd.info5 rfl (.inr ⟨nb3, sp2, cp2, rfl, rfl, (by first | exact ha5 | simp [ha5]), ha6, (by omega), (by omega)⟩) rfl (by simp [hb3]; try omega) (hr3.src) (by omega) (by unfold maxLen; omega) (by omega)) rfl ?_
  rintro v1 L1 ⟨nb4, sp3, cp3, hg3, rfl, rfl, ha9, ha10, ha11, ha12⟩
  show JL _ _ _ _ ((25, Slc nb4 0 (n1 + n2 + n3) cp3) :: _) [⟨nb4, cu8 (((([] : List UInt8) ++ x) ++ y) ++ z) ++ sp3, 5, (0, 0)⟩]
  refine JL_val _ (Ev_assign rfl) rfl ?_
  refine JL_nil ?_
  refine JQ_then ?_
  refine JC_seq ?_
  refine JC_region ?_
  refine JL_val _ (Ev_move rfl) rfl ?_
  refine JL_val _ (Ev_move rfl) rfl ?_
  refine JL_val _ (Ev_move rfl) rfl ?_
  refine JL_step (Step_buildSlice 22 1 _ [(0, .slice a1 n1 c1), (1, .slice a2 n2 c2), (2, .slice a3 n3 c3)] ([.slice a1 n1 c1, .slice a2 n2 c2, .slice a3 n3 c3]) Tryd.underlying125 Tryd.sizeOf22 Tryd.zeroValue22 rfl rfl rfl (by kernel_rfl)) rfl ?_
  rintro v1 L1 ⟨nb5, hnb5, rfl, rfl⟩
  show JL _ _ _ _ ((29, Slc nb5 0 3 3) :: _) [⟨nb4, cu8 (((([] : List UInt8) ++ x) ++ y) ++ z) ++ sp3, 5, (0, 0)⟩, ⟨nb5, [.slice a1 n1 c1, .slice a2 n2 c2, .slice a3 n3 c3], 22, (0, 0)⟩]
  refine JL_step (Step_callP 30 [Slc nb5 0 3 3] (.agg (cu8 (sumG constL initL ([x, y, z].flatten))).toArray) (Cl_func [Slc nb5 0 3 3] Tryd.call30 rfl) (fun w1 hw1 => of_c nb5 3 [.slice a1 n1 c1, .slice a2 n2 c2, .slice a3 n3 c3] [x, y, z] w1 (by simp) (by simp) (by simp) ⟨RdA.of hw1 (MemAt.ent 1 rfl (Seg.whole _)) (by simp), ⟨⟨a1, c1, congrArg (fun n => Value.slice a1 n c1) (hb1).symm, (hr1.at (M' := []) hw1 (by simp))⟩, ⟨⟨a2, c2, congrArg (fun n => Value.slice a2 n c2) (hb2).symm, (hr2.at (M' := []) hw1 (by simp))⟩, ⟨⟨a3, c3, congrArg (fun n => Value.slice a3 n c3) (hb3).symm, (hr3.at (M' := []) hw1 (by simp))⟩, trivial⟩⟩⟩⟩ (by simp [hb1, hb2, hb3]; try omega) (hG.at hw1))) rfl ?_
  rintro v1 L1 ⟨rfl, rfl⟩
  show JL _ _ _ _ ((30, .agg (cu8 (sumG constL initL ([x, y, z].flatten))).toArray) :: _) [⟨nb4, cu8 (((([] : List UInt8) ++ x) ++ y) ++ z) ++ sp3, 5, (0, 0)⟩, ⟨nb5, [.slice a1 n1 c1, .slice a2 n2 c2, .slice a3 n3 c3], 22, (0, 0)⟩]
  refine JL_val _ (Ev_move rfl) rfl ?_
  refine JL_step (Step_callP 24 [Slc nb4 0 (n1 + n2 + n3) cp3] (.agg (cu8 (sumG constL initL (((([] : List UInt8) ++ x) ++ y) ++ z))).toArray) (Cl_func [Slc nb4 0 (n1 + n2 + n3) cp3] Tryd.call24 rfl) (fun w1 hw1 => rsum_c (some ⟨nb4, 0, none⟩) (n1 + n2 + n3) cp3 (((([] : List UInt8) ++ x) ++ y) ++ z) w1 ha9 (by omega) (RdB.of hw1 (MemAt.ent 0 rfl (Seg.left (Seg.whole _))) (by simp)) (GLr.at hw1 hGr) (GLi.at hw1 hGi))) rfl ?_
  rintro v1 L1 ⟨rfl, rfl⟩
  show JL _ _ _ _ ((32, .agg (cu8 (sumG constL initL (((([] : List UInt8) ++ x) ++ y) ++ z))).toArray) :: _) [⟨nb4, cu8 (((([] : List UInt8) ++ x) ++ y) ++ z) ++ sp3, 5, (0, 0)⟩, ⟨nb5, [.slice a1 n1 c1, .slice a2 n2 c2, .slice a3 n3 c3], 22, (0, 0)⟩]
  refine JL_val (.bool (decide ((sumG constL initL ([x, y, z].flatten)) = (sumG constL initL (((([] : List UInt8) ++ x) ++ y) ++ z))))) (Ev_bin _ _ _ rfl rfl (fun _ => eqGuard_agg _ _ _ _ _ _ (by kernel_rfl)) fun _ => eql_arr8 Tryd.underlying25 Tryd.underlying5 Tryd.isAgg5 Tryd.cells5 Tryd.has5 (by simp [(sumG_len _ _ _)]) (by simp [(sumG_len _ _ _)])) rfl ?_
  refine JL_val _ (Ev_move rfl) rfl ?_
  refine JL_gval 8 34 true _ _ rfl rfl (decide_eq_true ((by simp))) (Ev_move rfl) rfl ?_
  refine JL_gstep 8 34 true _ rfl rfl (decide_eq_true ((by simp))) (Step_buildSlice 22 1 _ [(0, Slc nb4 0 (n1 + n2 + n3) cp3)] ([Slc nb4 0 (n1 + n2 + n3) cp3]) Tryd.underlying125 Tryd.sizeOf22 Tryd.zeroValue22 rfl rfl rfl (by kernel_rfl)) rfl ?_
  rintro v1 L1 ⟨nb6, hnb6, rfl, rfl⟩
  show JL _ _ _ _ ((36, Slc nb6 0 1 1) :: _) [⟨nb4, cu8 (((([] : List UInt8) ++ x) ++ y) ++ z) ++ sp3, 5, (0, 0)⟩, ⟨nb5, [.slice a1 n1 c1, .slice a2 n2 c2, .slice a3 n3 c3], 22, (0, 0)⟩, ⟨nb6, [Slc nb4 0 (n1 + n2 + n3) cp3], 22, (0, 0)⟩]
  refine JL_gstep 8 34 true _ rfl rfl (decide_eq_true ((by simp))) (Step_callP 30 [Slc nb6 0 1 1] (.agg (cu8 (sumG constL initL ([((([] : List UInt8) ++ x) ++ y) ++ z].flatten))).toArray) (Cl_func [Slc nb6 0 1 1] Tryd.call30 rfl) (fun w1 hw1 => of_c nb6 1 [Slc nb4 0 (n1 + n2 + n3) cp3] [((([] : List UInt8) ++ x) ++ y) ++ z] w1 (by simp) (by simp) (by simp) ⟨RdA.of hw1 (MemAt.ent 2 rfl (Seg.head)) (by simp), ⟨⟨(some ⟨nb4, 0, none⟩), cp3, congrArg (fun n => Value.slice (some ⟨nb4, 0, none⟩) n cp3) (ha9).symm, (RdB.of hw1 (MemAt.ent 0 rfl (Seg.left (Seg.whole _))) (by simp))⟩, trivial⟩⟩ (by simp [ha9]; try omega) (hG.at hw1))) rfl ?_
  rintro v1 L1 ⟨rfl, rfl⟩
  show JL _ _ _ _ ((37, .agg (cu8 (sumG constL initL ([((([] : List UInt8) ++ x) ++ y) ++ z].flatten))).toArray) :: _) [⟨nb4, cu8 (((([] : List UInt8) ++ x) ++ y) ++ z) ++ sp3, 5, (0, 0)⟩, ⟨nb5, [.slice a1 n1 c1, .slice a2 n2 c2, .slice a3 n3 c3], 22, (0, 0)⟩, ⟨nb6, [Slc nb4 0 (n1 + n2 + n3) cp3], 22, (0, 0)⟩]
  refine JL_gval 8 34 true _ _ rfl rfl (decide_eq_true ((by simp))) (Ev_move rfl) rfl ?_
  refine JL_gstep 8 34 true _ rfl rfl (decide_eq_true ((by simp))) (Step_callP 23 [Slc nb4 0 (n1 + n2 + n3) cp3] (.agg (cu8 (sumG constL initL (((([] : List UInt8) ++ x) ++ y) ++ z))).toArray) (Cl_func [Slc nb4 0 (n1 + n2 + n3) cp3] Tryd.call23 rfl) (fun w1 hw1 => sum_c (some ⟨nb4, 0, none⟩) (n1 + n2 + n3) cp3 (((([] : List UInt8) ++ x) ++ y) ++ z) w1 ha9 (fun h => by cases h) (by omega) (RdB.of hw1 (MemAt.ent 0 rfl (Seg.left (Seg.whole _))) (by simp)) (hG.at hw1))) rfl ?_
  rintro v1 L1 ⟨rfl, rfl⟩
  show JL _ _ _ _ ((39, .agg (cu8 (sumG constL initL (((([] : List UInt8) ++ x) ++ y) ++ z))).toArray) :: _) [⟨nb4, cu8 (((([] : List UInt8) ++ x) ++ y) ++ z) ++ sp3, 5, (0, 0)⟩, ⟨nb5, [.slice a1 n1 c1, .slice a2 n2 c2, .slice a3 n3 c3], 22, (0, 0)⟩, ⟨nb6, [Slc nb4 0 (n1 + n2 + n3) cp3], 22, (0, 0)⟩]
  refine JL_gval 8 34 true _ (.bool (decide ((sumG constL initL ([((([] : List UInt8) ++ x) ++ y) ++ z].flatten)) = (sumG constL initL (((([] : List UInt8) ++ x) ++ y) ++ z))))) rfl rfl (decide_eq_true ((by simp))) (Ev_bin _ _ _ rfl rfl (fun _ => eqGuard_agg _ _ _ _ _ _ (by kernel_rfl)) fun _ => eql_arr8 Tryd.underlying25 Tryd.underlying5 Tryd.isAgg5 Tryd.cells5 Tryd.has5 (by simp [(sumG_len _ _ _)]) (by simp [(sumG_len _ _ _)])) rfl ?_
  refine JL_val _ (Ev_pickT _ rfl (decide_eq_true ((by simp))) rfl) rfl ?_
  refine JL_val _ (Ev_move rfl) rfl ?_
  refine JL_gstep 16 42 true _ rfl rfl (decide_eq_true ((by simp))) (Step_callP 30 [.slice none 0 0] (.agg (cu8 (sumG constL initL ([] : List UInt8))).toArray) (Cl_func [.slice none 0 0] Tryd.call30 rfl) (fun w1 hw1 => of0_c w1 (hG.at hw1))) rfl ?_
  rintro v1 L1 ⟨rfl, rfl⟩
  show JL _ _ _ _ ((43, .agg (cu8 (sumG constL initL ([] : List UInt8))).toArray) :: _) [⟨nb4, cu8 (((([] : List UInt8) ++ x) ++ y) ++ z) ++ sp3, 5, (0, 0)⟩, ⟨nb5, [.slice a1 n1 c1, .slice a2 n2 c2, .slice a3 n3 c3], 22, (0, 0)⟩, ⟨nb6, [Slc nb4 0 (n1 + n2 + n3) cp3], 22, (0, 0)⟩]
  refine JL_gstep 16 42 true _ rfl rfl (decide_eq_true ((by simp))) (Step_callP 23 [.slice none 0 0] (.agg (cu8 (sumG constL initL ([] : List UInt8))).toArray) (Cl_func [.slice none 0 0] Tryd.call23 rfl) (fun w1 hw1 => sum_c none 0 0 ([] : List UInt8) w1 rfl (fun _ => rfl) (by omega) RdB.nil (hG.at hw1))) rfl ?_
  rintro v1 L1 ⟨rfl, rfl⟩
  show JL _ _ _ _ ((44, .agg (cu8 (sumG constL initL ([] : List UInt8))).toArray) :: _) [⟨nb4, cu8 (((([] : List UInt8) ++ x) ++ y) ++ z) ++ sp3, 5, (0, 0)⟩, ⟨nb5, [.slice a1 n1 c1, .slice a2 n2 c2, .slice a3 n3 c3], 22, (0, 0)⟩, ⟨nb6, [Slc nb4 0 (n1 + n2 + n3) cp3], 22, (0, 0)⟩]
  refine JL_gval 16 42 true _ (.bool (decide ((sumG constL initL ([] : List UInt8)) = (sumG constL initL ([] : List UInt8))))) rfl rfl (decide_eq_true ((by simp))) (Ev_bin _ _ _ rfl rfl (fun _ => eqGuard_agg _ _ _ _ _ _ (by kernel_rfl)) fun _ => eql_arr8 Tryd.underlying25 Tryd.underlying5 Tryd.isAgg5 Tryd.cells5 Tryd.has5 (by simp [(sumG_len _ _ _)]) (by simp [(sumG_len _ _ _)])) rfl ?_
  refine JL_val _ (Ev_pickT _ rfl (decide_eq_true ((by simp))) rfl) rfl ?_
  refine JL_val _ (Ev_assign rfl) rfl ?_
  refine JL_nil ?_
  refine JQ_then ?_
  refine JC_ret ?_
  refine JQ_ret (.bool (decide ((sumG constL initL ([] : List UInt8)) = (sumG constL initL ([] : List UInt8))))) (res1 Tryd.results5 (RV_tmp rfl)) fun w1 hw1 => ?_
  exact ⟨_, [], rfl, ⟨by rw [show (decide ((sumG constL initL ([] : List UInt8)) = (sumG constL initL ([] : List UInt8)))) = true from (decide_eq_true rfl)], rfl⟩, hw1.sub (by simp) (by simp)⟩

theorem shaParts_w (a1 : Option Addr) (n1 c1 : Nat) (x : List UInt8) (a2 : Option Addr) (n2 c2 : Nat) (y : List UInt8) (a3 : Option Addr) (n3 c3 : Nat) (z : List UInt8) (w : World) (hb1 : x.length = n1) (hn1 : a1 = none → c1 = 0) (hc1 : n1 ≤ c1 ∧ c1 ≤ maxLen) (hr1 : RdB w [] a1 x) (hz1 : n1 ≤ 140737488351232) (hb2 : y.length = n2) (hn2 : a2 = none → c2 = 0) (hc2 : n2 ≤ c2 ∧ c2 ≤ maxLen) (hr2 : RdB w [] a2 y) (hz2 : n2 ≤ 140737488351232) (hb3 : z.length = n3) (hn3 : a3 = none → c3 = 0) (hc3 : n3 ≤ c3 ∧ c3 ≤ maxLen) (hr3 : RdB w [] a3 z) (hz3 : n3 ≤ 140737488351232) (hG : GLs w) (hGr : GLr w) (hGi : GLi w) : Calls Tryd.prog 5 #[.slice a1 n1 c1, .slice a2 n2 c2, .slice a3 n3 c3] w (Post w [] (fun v L => v = .bool true ∧ L = [])) := by
  by_cases hn : n1 + n2 + n3 ≤ 3000
  · exact shaPartsIn_c a1 a2 a3 n1 n2 n3 c1 c2 c3 x y z w hb1 hn1 hc1 hr1 hz1 hb2 hn2 hc2 hr2 hz2 hb3 hn3 hc3 hr3 hz3 hG hGr hGi hn
  · exact shaPartsBig_c a1 a2 a3 n1 n2 n3 c1 c2 c3 x y z w hb1 hn1 hc1 hr1 hz1 hb2 hn2 hc2 hr2 hz2 hb3 hn3 hc3 hr3 hz3 hG hGr hGi (by omega)

end Go.Proofs.YtncoifiafklkjaaDoor
