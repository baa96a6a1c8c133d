import Derived.Test.YtncoifiafklkjaaDoorSha5
namespace Go.Proofs.YtncoifiafklkjaaDoor
open Go Go.Sx
set_option linter.unusedVariables false
set_option linter.unusedSimpArgs false
set_option maxRecDepth 100000
attribute [local irreducible] mid zr8 zr32 rotr wordL spreadL comprL cpN adN spN wrdN constL initL padL stN outN routN hashL sumG
theorem shaBlocks_c (s : List UInt32) (k : List UInt8) (w : World) (hs : s.length = 8) (hk : k.length = 64) (hG : GLs w) (hGr : GLr w) : Calls Tryd.prog 4 #[.agg (cu32 s).toArray, .agg (cu8 k).toArray] w (Post w [] (fun v L => v = .bool true ∧ L = [])) := by
  refine enter w [] 14 [] [.agg (cu32 s).toArray, .agg (cu8 k).toArray] Tryd.func4 rfl rfl (by simp) (Hp.start (by simp) (by simp) (by simp)) ?_
  show JC _ _ _ [(0, .agg (cu32 s).toArray), (1, .agg (cu8 k).toArray)] _
  refine JC_seq ?_
  refine JC_region ?_
  refine JL_step (Step_box (.agg (cu32 s).toArray) (cu32 s) rfl (by first | rfl | simp)) rfl ?_
  rintro v1 L1 ⟨nb1, hnb1, rfl, rfl⟩
  show JL _ _ _ _ ((2, Ptr nb1 0) :: _) [⟨nb1, cu32 s, 31, (0, 0)⟩]
  refine JL_step (Step_box (.agg (cu8 k).toArray) (cu8 k) rfl (by first | rfl | simp)) rfl ?_
  rintro v1 L1 ⟨nb2, hnb2, rfl, rfl⟩
  show JL _ _ _ _ ((3, Ptr nb2 0) :: _) [⟨nb1, cu32 s, 31, (0, 0)⟩, ⟨nb2, cu8 k, 32, (0, 0)⟩]
  refine JL_val _ (Ev_assign rfl) rfl ?_
  refine JL_nil ?_
  refine JQ_then ?_
  refine JC_seq ?_
  refine JC_seq ?_
  refine JC_region ?_
  refine JL_step (Step_callP 22 [] (.bool true) (Cl_func [] Tryd.call22 rfl) (fun w1 hw1 => alive2_c  w1 (hG.at hw1))) rfl ?_
  rintro v1 L1 ⟨rfl, rfl⟩
  show JL _ _ _ _ ((5, .bool true) :: _) [⟨nb1, cu32 s, 31, (0, 0)⟩, ⟨nb2, cu8 k, 32, (0, 0)⟩]
  refine JL_val (.bool (!true)) (Ev_not rfl) rfl ?_
  refine JL_nil ?_
  refine JQ_then ?_
  refine JC_condF _ rfl rfl ?_
  refine JC_skip ?_
  refine JQ_then ?_
  refine JC_seq ?_
  refine JC_draw 14 3 [(0, .agg (cu32 s).toArray), (1, .agg (cu8 k).toArray), (3, .agg (cu32 s).toArray), (4, Slc nb2 0 64 64)] Tryd.mixed rfl (by decide +kernel) ?_
  refine DP_one ⟨[], [0, 1, 3, 4], [], [0, 1, 3, 4], [2]⟩ 2 _ rfl rfl (by decide +kernel) rfl ⟨⟨_, rfl, Qok_val rfl (Ev_load rfl (Ld_agg Tryd.isAgg31 Tryd.sizeOf31 (len_cu32 hs) (MemAt.ent 0 rfl (Seg.whole _))))⟩, ⟨_, rfl, Qok_val rfl (Ev_load rfl (Ld_agg Tryd.isAgg32 Tryd.sizeOf32 (len_cu8 hk) (MemAt.ent 1 rfl (Seg.whole _))))⟩, ⟨_, rfl, Qok_val rfl (Ev_load rfl (Ld_agg Tryd.isAgg31 Tryd.sizeOf31 (len_cu32 hs) (MemAt.ent 0 rfl (Seg.whole _))))⟩, ⟨_, rfl, Qok_val rfl (Ev_sliceA 64 5 1 0 64 0 64 Tryd.underlying32 Tryd.sizeOf5 rfl rfl rfl (by omega) (by omega) (by omega) (by omega) (by omega) 64 (by omega))⟩, trivial⟩ rfl (Cok_step rfl (Step_callP 28 [.agg (cu32 s).toArray, .agg (cu8 k).toArray] (.agg (cu32 (comprL constL s k)).toArray) (Cl_func [.agg (cu32 s).toArray, .agg (cu8 k).toArray] Tryd.call28 rfl) (fun w1 hw1 => compress_c s k w1 hs hk (hG.at hw1)))) ?_
  rintro v1 L1 ⟨rfl, rfl⟩
  refine ⟨[], ?_⟩
  show DP _ _ _ _ _ _ _ _ [⟨nb1, cu32 s, 31, (0, 0)⟩, ⟨nb2, cu8 k, 32, (0, 0)⟩]
  refine DP_one ⟨[2], [0, 1, 3, 4], [0, 1], [3, 4], [5]⟩ 5 _ rfl rfl (by decide +kernel) rfl ⟨⟨_, rfl, Qok_val rfl (Ev_load rfl (Ld_agg Tryd.isAgg31 Tryd.sizeOf31 (len_cu32 hs) (MemAt.ent 0 rfl (Seg.whole _))))⟩, ⟨_, rfl, Qok_val rfl (Ev_sliceA 64 5 1 0 64 0 64 Tryd.underlying32 Tryd.sizeOf5 rfl rfl rfl (by omega) (by omega) (by omega) (by omega) (by omega) 64 (by omega))⟩, trivial⟩ rfl (Cok_step rfl (Step_callP 29 [.agg (cu32 s).toArray, Slc nb2 0 64 64] (.agg (cu32 (comprL constL s k)).toArray) (Cl_func [.agg (cu32 s).toArray, Slc nb2 0 64 64] Tryd.call29 rfl) (fun w1 hw1 => rcompress_c s (some ⟨nb2, 0, none⟩) 64 k w1 hs hk (RdB.of hw1 (MemAt.ent 1 rfl (Seg.whole _)) (by simp)) (GLr.at hw1 hGr)))) ?_
  rintro v1 L1 ⟨rfl, rfl⟩
  refine ⟨[(6, .bool (decide ((comprL constL s k) = (comprL constL s k)))), (7, .bool (decide ((comprL constL s k) = (comprL constL s k))))], ?_⟩
  show DP _ _ _ _ _ _ _ _ [⟨nb1, cu32 s, 31, (0, 0)⟩, ⟨nb2, cu8 k, 32, (0, 0)⟩]
  refine DP_end ⟨[2, 5], [0, 1, 3, 4, 6, 7], [0, 1, 3, 4], [6, 7], []⟩ rfl rfl (by decide +kernel) rfl ⟨⟨_, rfl, Qok_val rfl (Ev_bin _ _ _ rfl rfl (fun _ => eqGuard_agg _ _ _ _ _ _ (by kernel_rfl)) fun _ => eql_arr32 Tryd.underlying31 Tryd.underlying30 Tryd.isAgg30 Tryd.cells30 Tryd.has30 (by simp [(comprL_len hs)]) (by simp [(comprL_len hs)]))⟩, ⟨_, rfl, Qok_val rfl (Ev_assign rfl)⟩, trivial⟩ ?_
  refine K_sub (F' := [(4, .bool (decide ((comprL constL s k) = (comprL constL s k))))]) (Sub.cons (by kernel_rfl) (Sub.nil)) ?_
  show JQ _ _ _ [(4, .bool (decide ((comprL constL s k) = (comprL constL s k))))] _
  refine JQ_then ?_
  refine JC_ret ?_
  refine JQ_ret (.bool (decide ((comprL constL s k) = (comprL constL s k)))) (res1 Tryd.results4 (RV_tmp rfl)) fun w1 hw1 => ?_
  exact ⟨_, [], rfl, ⟨by rw [show (decide ((comprL constL s k) = (comprL constL s k))) = true from (decide_eq_true rfl)], rfl⟩, hw1.sub (by simp) (by simp)⟩

theorem shaSumsBig_c (ao : Option Addr) (n cb : Nat) (b : List UInt8) (w : World) (hb : b.length = n) (hcb : ao = none → cb = 0) (hc : n ≤ cb ∧ cb ≤ maxLen) (hr : RdB w [] ao b) (hG : GLs w) (hGr : GLr w) (hGi : GLi w) (hn : 3000 < n) : Calls Tryd.prog 3 #[.slice ao n cb] w (Post w [] (fun v L => v = .bool true ∧ L = [])) := by
  refine enter w [] 29 [] [.slice ao n cb] Tryd.func3 rfl rfl (by simp) (Hp.start (by simp) (by simp) (by simp)) ?_
  show JC _ _ _ [(0, .slice ao n cb)] _
  refine JC_seq ?_
  refine JC_region ?_
  refine JL_val _ (Ev_assign rfl) rfl ?_
  refine JL_nil ?_
  refine JQ_then ?_
  refine JC_seq ?_
  refine JC_seq ?_
  refine JC_region ?_
  refine JL_step (Step_callP 22 [] (.bool true) (Cl_func [] Tryd.call22 rfl) (fun w1 hw1 => alive2_c  w1 (hG.at hw1))) rfl ?_
  rintro v1 L1 ⟨rfl, rfl⟩
  show JL _ _ _ _ ((4, .bool true) :: _) []
  refine JL_val (.bool (!true)) (Ev_not rfl) rfl ?_
  refine JL_nil ?_
  refine JQ_then ?_
  refine JC_condF _ rfl rfl ?_
  refine JC_skip ?_
  refine JQ_then ?_
  refine JC_seq ?_
  refine JC_seq ?_
  refine JC_region ?_
  refine JL_val _ (Ev_move rfl) rfl ?_
  refine JL_val (I64 ((n:Int))) (Ev_len Tryd.underlying22 rfl) rfl ?_
  refine JL_val (.bool (decide ((3000:Int) < ((n:Int))))) (Ev_bini rfl rfl fun _ => bin_gtr_i _ _) rfl ?_
  refine JL_nil ?_
  refine JQ_then ?_
  refine JC_condT _ rfl (decide_eq_true (by omega)) ?_
  refine JC_seq ?_
  refine JC_region ?_
  refine JL_val _ (Ev_assign rfl) rfl ?_
  refine JL_nil ?_
  refine JQ_then ?_
  refine JC_ret ?_
  refine JQ_then_ret ?_
  refine JQ_ret (.bool true) (res1 Tryd.results3 (RV_tmp rfl)) fun w1 hw1 => ?_
  exact ⟨_, [], rfl, ⟨by rw [show (true) = true from rfl], rfl⟩, hw1.sub (by simp) (by simp)⟩

theorem shaSumsIn_c (ao : Option Addr) (n cb : Nat) (b : List UInt8) (w : World) (hb : b.length = n) (hcb : ao = none → cb = 0) (hc : n ≤ cb ∧ cb ≤ maxLen) (hr : RdB w [] ao b) (hG : GLs w) (hGr : GLr w) (hGi : GLi w) (hn : n ≤ 3000) : Calls Tryd.prog 3 #[.slice ao n cb] w (Post w [] (fun v L => v = .bool true ∧ L = [])) := by
  have hm := hc.2
  have hm2 : maxLen ≤ 9223372036854775807 := by unfold maxLen; omega
  refine enter w [] 29 [] [.slice ao n cb] Tryd.func3 rfl rfl (by simp) (Hp.start (by simp) (by simp) (by simp)) ?_
  show JC _ _ _ [(0, .slice ao n cb)] _
  refine JC_seq ?_
  refine JC_region ?_
  refine JL_val _ (Ev_assign rfl) rfl ?_
  refine JL_nil ?_
  refine JQ_then ?_
  refine JC_seq ?_
  refine JC_seq ?_
  refine JC_region ?_
  refine JL_step (Step_callP 22 [] (.bool true) (Cl_func [] Tryd.call22 rfl) (fun w1 hw1 => alive2_c  w1 (hG.at hw1))) rfl ?_
  rintro v1 L1 ⟨rfl, rfl⟩
  show JL _ _ _ _ ((4, .bool true) :: _) []
  refine JL_val (.bool (!true)) (Ev_not rfl) rfl ?_
  refine JL_nil ?_
  refine JQ_then ?_
  refine JC_condF _ rfl rfl ?_
  refine JC_skip ?_
  refine JQ_then ?_
  refine JC_seq ?_
  refine JC_seq ?_
  refine JC_region ?_
  refine JL_val _ (Ev_move rfl) rfl ?_
  refine JL_val (I64 ((n:Int))) (Ev_len Tryd.underlying22 rfl) rfl ?_
  refine JL_val (.bool (decide ((3000:Int) < ((n:Int))))) (Ev_bini rfl rfl fun _ => bin_gtr_i _ _) rfl ?_
  refine JL_nil ?_
  refine JQ_then ?_
  refine JC_condF _ rfl (decide_eq_false (by omega)) ?_
  refine JC_skip ?_
  refine JQ_then ?_
  refine JC_seq ?_
  refine JC_region ?_
  refine JL_step (Step_buildSlice0 5 1 Tryd.underlying22 Tryd.sizeOf5) rfl ?_
  rintro v1 L1 ⟨nb1, hnb1, rfl, rfl⟩
  show JL _ _ _ _ ((9, Slc nb1 0 0 0) :: _) [⟨nb1, [], 5, (0, 0)⟩]
  refine JL_val _ (Ev_move rfl) rfl ?_
  refine JL_step (Step_appM8 22 5 [true] (Slc nb1 0 0 0) 0 ([] : List UInt8) b ao n cb n Tryd.underlying22 Tryd.info5 rfl (.inr ⟨nb1, [], 0, rfl, (by simp [take?, cu8, cu32, cu64]), rfl, (by simp), (by omega), (by unfold maxLen; omega)⟩) rfl (by simp [hb]; try omega) (hr.src) (by omega) (by unfold maxLen; omega) (by omega)) rfl ?_
  rintro v1 L1 ⟨nb2, sp1, cp1, hg1, rfl, rfl, ha1, ha2, ha3, ha4⟩
  show JL _ _ _ _ ((11, Slc nb2 0 n cp1) :: _) [⟨nb2, cu8 (([] : List UInt8) ++ b) ++ sp1, 5, (0, 0)⟩]
  refine JL_val _ (Ev_assign rfl) rfl ?_
  refine JL_nil ?_
  refine JQ_then ?_
  refine JC_seq ?_
  refine JC_region ?_
  refine JL_val _ (Ev_move rfl) rfl ?_
  refine JL_step (Step_callP 23 [Slc nb2 0 n cp1] (.agg (cu8 (sumG constL initL (([] : List UInt8) ++ b))).toArray) (Cl_func [Slc nb2 0 n cp1] Tryd.call23 rfl) (fun w1 hw1 => sum_c (some ⟨nb2, 0, none⟩) n cp1 (([] : List UInt8) ++ b) w1 ha1 (fun h => by cases h) (by omega) (RdB.of hw1 (MemAt.ent 0 rfl (Seg.left (Seg.whole _))) (by simp)) (hG.at hw1))) rfl ?_
  rintro v1 L1 ⟨rfl, rfl⟩
  show JL _ _ _ _ ((13, .agg (cu8 (sumG constL initL (([] : List UInt8) ++ b))).toArray) :: _) [⟨nb2, cu8 (([] : List UInt8) ++ b) ++ sp1, 5, (0, 0)⟩]
  refine JL_val _ (Ev_move rfl) rfl ?_
  refine JL_step (Step_callP 24 [.slice ao n cb] (.agg (cu8 (sumG constL initL b)).toArray) (Cl_func [.slice ao n cb] Tryd.call24 rfl) (fun w1 hw1 => rsum_c ao n cb b w1 hb (by omega) (hr.at (M' := []) hw1 (by simp)) (GLr.at hw1 hGr) (GLi.at hw1 hGi))) rfl ?_
  rintro v1 L1 ⟨rfl, rfl⟩
  show JL _ _ _ _ ((15, .agg (cu8 (sumG constL initL b)).toArray) :: _) [⟨nb2, cu8 (([] : List UInt8) ++ b) ++ sp1, 5, (0, 0)⟩]
  refine JL_val (.bool (decide ((sumG constL initL (([] : List UInt8) ++ b)) = (sumG constL initL b)))) (Ev_bin _ _ _ rfl rfl (fun _ => eqGuard_agg _ _ _ _ _ _ (by kernel_rfl)) fun _ => eql_arr8 Tryd.underlying25 Tryd.underlying5 Tryd.isAgg5 Tryd.cells5 Tryd.has5 (by simp [(sumG_len _ _ _)]) (by simp [(sumG_len _ _ _)])) rfl ?_
  refine JL_val _ (Ev_move rfl) rfl ?_
  refine JL_gval 5 17 true _ _ rfl rfl (decide_eq_true ((by simp))) (Ev_move rfl) rfl ?_
  refine JL_gstep 5 17 true _ rfl rfl (decide_eq_true ((by simp))) (Step_callN 26 [Slc nb2 0 n cp1] _ (Cl_func [Slc nb2 0 n cp1] Tryd.call26 rfl) (fun w1 hw1 => pad_w (some ⟨nb2, 0, none⟩) n cp1 (([] : List UInt8) ++ b) w1 ha1 (fun h => by cases h) (by omega) (RdB.of hw1 (MemAt.ent 0 rfl (Seg.left (Seg.whole _))) (by simp)))) rfl ?_
  rintro v1 L1 ⟨_, ⟨nb3, sp2, cp2, rfl, rfl, hc1, hc2, hc3⟩, rfl⟩
  show JL _ _ _ _ ((19, Slc nb3 0 ((padL (([] : List UInt8) ++ b)).length) cp2) :: _) [⟨nb2, cu8 (([] : List UInt8) ++ b) ++ sp1, 5, (0, 0)⟩, ⟨nb3, cu8 (padL (([] : List UInt8) ++ b)) ++ sp2, 5, (0, 0)⟩]
  refine JL_gval 5 17 true _ _ rfl rfl (decide_eq_true ((by simp))) (Ev_move rfl) rfl ?_
  refine JL_gstep 5 17 true _ rfl rfl (decide_eq_true ((by simp))) (Step_callN 27 [.slice ao n cb] _ (Cl_func [.slice ao n cb] Tryd.call27 rfl) (fun w1 hw1 => rpad_c ao n cb b w1 hb (by omega) (hr.at (M' := []) hw1 (by simp)))) rfl ?_
  rintro v1 L1 ⟨_, ⟨nb4, sp3, cp3, rfl, rfl, hc4, hc5, hc6⟩, rfl⟩
  show JL _ _ _ _ ((21, Slc nb4 0 ((padL b).length) cp3) :: _) [⟨nb2, cu8 (([] : List UInt8) ++ b) ++ sp1, 5, (0, 0)⟩, ⟨nb3, cu8 (padL (([] : List UInt8) ++ b)) ++ sp2, 5, (0, 0)⟩, ⟨nb4, cu8 (padL b) ++ sp3, 5, (0, 0)⟩]
  refine JL_gstep 5 17 true _ rfl rfl (decide_eq_true ((by simp))) (Step_callP 25 [Slc nb3 0 ((padL (([] : List UInt8) ++ b)).length) cp2, Slc nb4 0 ((padL b).length) cp3] (.bool (decide ((padL (([] : List UInt8) ++ b)) = (padL b)))) (Cl_func [Slc nb3 0 ((padL (([] : List UInt8) ++ b)).length) cp2, Slc nb4 0 ((padL b).length) cp3] Tryd.call25 rfl) (fun w1 hw1 => bytes_c (some ⟨nb3, 0, none⟩) (some ⟨nb4, 0, none⟩) ((padL (([] : List UInt8) ++ b)).length) ((padL b).length) cp2 cp3 (padL (([] : List UInt8) ++ b)) (padL b) w1 (rfl : (padL (([] : List UInt8) ++ b)).length = _) (rfl : (padL b).length = _) (RdB.of hw1 (MemAt.ent 1 rfl (Seg.left (Seg.whole _))) (by simp)) (RdB.of hw1 (MemAt.ent 2 rfl (Seg.left (Seg.whole _))) (by simp)))) rfl ?_
  rintro v1 L1 ⟨rfl, rfl⟩
  show JL _ _ _ _ ((22, .bool (decide ((padL (([] : List UInt8) ++ b)) = (padL b)))) :: _) [⟨nb2, cu8 (([] : List UInt8) ++ b) ++ sp1, 5, (0, 0)⟩, ⟨nb3, cu8 (padL (([] : List UInt8) ++ b)) ++ sp2, 5, (0, 0)⟩, ⟨nb4, cu8 (padL b) ++ sp3, 5, (0, 0)⟩]
  refine JL_val _ (Ev_pickT _ rfl (decide_eq_true ((by simp))) rfl) rfl ?_
  refine JL_val _ (Ev_move rfl) rfl ?_
  refine JL_gval 12 24 true _ _ rfl rfl (decide_eq_true ((by simp))) (Ev_move rfl) rfl ?_
  refine JL_gval 12 24 true _ _ rfl rfl (decide_eq_true ((by simp))) (Ev_move rfl) rfl ?_
  refine JL_gstep 12 24 true _ rfl rfl (decide_eq_true ((by simp))) (Step_callP 25 [Slc nb2 0 n cp1, .slice ao n cb] (.bool (decide ((([] : List UInt8) ++ b) = b))) (Cl_func [Slc nb2 0 n cp1, .slice ao n cb] Tryd.call25 rfl) (fun w1 hw1 => bytes_c (some ⟨nb2, 0, none⟩) ao n n cp1 cb (([] : List UInt8) ++ b) b w1 ha1 hb (RdB.of hw1 (MemAt.ent 0 rfl (Seg.left (Seg.whole _))) (by simp)) (hr.at (M' := []) hw1 (by simp)))) rfl ?_
  rintro v1 L1 ⟨rfl, rfl⟩
  show JL _ _ _ _ ((27, .bool (decide ((([] : List UInt8) ++ b) = b))) :: _) [⟨nb2, cu8 (([] : List UInt8) ++ b) ++ sp1, 5, (0, 0)⟩, ⟨nb3, cu8 (padL (([] : List UInt8) ++ b)) ++ sp2, 5, (0, 0)⟩, ⟨nb4, cu8 (padL b) ++ sp3, 5, (0, 0)⟩]
  refine JL_val _ (Ev_pickT _ rfl (decide_eq_true ((by simp))) rfl) rfl ?_
  refine JL_val _ (Ev_assign rfl) rfl ?_
  refine JL_nil ?_
  refine JQ_then ?_
  refine JC_ret ?_
  refine JQ_ret (.bool (decide ((([] : List UInt8) ++ b) = b))) (res1 Tryd.results3 (RV_tmp rfl)) fun w1 hw1 => ?_
  exact ⟨_, [], rfl, ⟨by rw [show (decide ((([] : List UInt8) ++ b) = b)) = true from (decide_eq_true ((by simp)))], rfl⟩, hw1.sub (by simp) (by simp)⟩

theorem shaSums_w (ao : Option Addr) (n cb : Nat) (b : List UInt8) (w : World) (hb : b.length = n) (hcb : ao = none → cb = 0) (hc : n ≤ cb ∧ cb ≤ maxLen) (hr : RdB w [] ao b) (hG : GLs w) (hGr : GLr w) (hGi : GLi w) : Calls Tryd.prog 3 #[.slice ao n cb] w (Post w [] (fun v L => v = .bool true ∧ L = [])) := by
  by_cases hn : n ≤ 3000
  · exact shaSumsIn_c ao n cb b w hb hcb hc hr hG hGr hGi hn
  · exact shaSumsBig_c ao n cb b w hb hcb hc hr hG hGr hGi (by omega)

end Go.Proofs.YtncoifiafklkjaaDoor
