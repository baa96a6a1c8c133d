import Derived.Test.YtncoifiafklkjaaDoorHmacTurnsLaw
namespace Go.Proofs.YtncoifiafklkjaaDoor
open Go Go.Sx
set_option linter.unusedVariables false
set_option linter.unusedSimpArgs false
set_option maxRecDepth 100000
attribute [local irreducible] mid zr8 zr32 rotr wordL spreadL comprL cpN adN spN wrdN constL initL padL stN outN routN hashL sumG blkL xbN raN macL orN
theorem hmacTurnsBig_c (a1 : Option Addr) (n1 c1 : Nat) (x : List UInt8) (a2 : Option Addr) (n2 c2 : Nat) (y : List UInt8) (b : Int) (w : World) (hL1 : x.length = n1) (hn1 : a1 = none → c1 = 0) (hc1 : n1 ≤ c1 ∧ c1 ≤ maxLen) (hr1 : RdB w [] a1 x) (hz1 : n1 ≤ 140737488351232) (hL2 : y.length = n2) (hn2 : a2 = none → c2 = 0) (hc2 : n2 ≤ c2 ∧ c2 ≤ maxLen) (hr2 : RdB w [] a2 y) (hz2 : n2 ≤ 140737488351232) (hb : -9223372036854775808 ≤ b ∧ b ≤ 9223372036854775807) (hG : GLs w) (hn : 3000 < n1 + n2) : Calls Tryd.prog 10 #[.slice a1 n1 c1, .slice a2 n2 c2, I64 (b)] w (Post w [] (fun v L => v = .bool true ∧ L = [])) := by
  have hmx : maxLen = 9223372036854775807 := rfl
  have hbt := bit_lt b
  refine enter w [] 89 [] [.slice a1 n1 c1, .slice a2 n2 c2, I64 (b)] Tryd.func10 rfl rfl (by simp) (Hp.start (by simp) (by simp) (by simp)) ?_
  show JC _ _ _ [(0, .slice a1 n1 c1), (1, .slice a2 n2 c2), (2, I64 (b))] _
  refine JC_seq ?_
  refine JC_region ?_
  refine JL_val _ (Ev_assign rfl) rfl ?_
  refine JL_nil ?_
  refine JQ_then ?_
  refine JC_seq ?_
  refine JC_seq ?_
  refine JC_region ?_
  refine JL_step (Step_callP 35 [] (.bool true) (Cl_func [] Tryd.call35 rfl) (fun w1 hw1 => alive3_c  w1 (hG.at hw1))) rfl ?_
  rintro v1 L1 ⟨rfl, rfl⟩
  show JL _ _ _ _ ((10, .bool true) :: _) []
  refine JL_val (.bool (!true)) (Ev_not rfl) rfl ?_
  refine JL_nil ?_
  refine JQ_then ?_
  refine JC_condF _ rfl rfl ?_
  refine JC_skip ?_
  refine JQ_then ?_
  refine JC_seq ?_
  refine JC_seq ?_
  refine JC_region ?_
  refine JL_val _ (Ev_move rfl) rfl ?_
  refine JL_val (I64 ((n1:Int))) (Ev_len Tryd.underlying22 rfl) rfl ?_
  refine JL_val _ (Ev_move rfl) rfl ?_
  refine JL_val (I64 ((n2:Int))) (Ev_len Tryd.underlying22 rfl) rfl ?_
  refine JL_val (I64 ((n1:Int) + (n2:Int))) (Ev_bini rfl rfl fun _ => bin_add_i _ _ ((n1:Int) + (n2:Int)) (by omega) (by omega)) rfl ?_
  refine JL_val (.bool (decide ((3000:Int) < ((n1:Int) + (n2:Int))))) (Ev_bini rfl rfl fun _ => bin_gtr_i _ _) rfl ?_
  refine JL_nil ?_
  refine JQ_then ?_
  refine JC_condT _ rfl (decide_eq_true (by omega)) ?_
  refine JC_seq ?_
  refine JC_region ?_
  refine JL_val _ (Ev_assign rfl) rfl ?_
  refine JL_nil ?_
  refine JQ_then ?_
  refine JC_ret ?_
  refine JQ_then_ret ?_
  refine JQ_ret (.bool true) (res1 Tryd.results10 (RV_tmp rfl)) fun w1 hw1 => ?_
  exact ⟨_, [], rfl, ⟨by rw [show (true) = true from rfl], rfl⟩, hw1.sub (by simp) (by simp)⟩

theorem hmacTurnsIn_c (a1 : Option Addr) (n1 c1 : Nat) (x : List UInt8) (a2 : Option Addr) (n2 c2 : Nat) (y : List UInt8) (b : Int) (w : World) (hL1 : x.length = n1) (hn1 : a1 = none → c1 = 0) (hc1 : n1 ≤ c1 ∧ c1 ≤ maxLen) (hr1 : RdB w [] a1 x) (hz1 : n1 ≤ 140737488351232) (hL2 : y.length = n2) (hn2 : a2 = none → c2 = 0) (hc2 : n2 ≤ c2 ∧ c2 ≤ maxLen) (hr2 : RdB w [] a2 y) (hz2 : n2 ≤ 140737488351232) (hb : -9223372036854775808 ≤ b ∧ b ≤ 9223372036854775807) (hG : GLs w) (hn : n1 + n2 ≤ 3000) : Calls Tryd.prog 10 #[.slice a1 n1 c1, .slice a2 n2 c2, I64 (b)] w (Post w [] (fun v L => v = .bool true ∧ L = [])) := by
  have hmx : maxLen = 9223372036854775807 := rfl
  have hbt := bit_lt b
  refine enter w [] 89 [] [.slice a1 n1 c1, .slice a2 n2 c2, I64 (b)] Tryd.func10 rfl rfl (by simp) (Hp.start (by simp) (by simp) (by simp)) ?_
  show JC _ _ _ [(0, .slice a1 n1 c1), (1, .slice a2 n2 c2), (2, I64 (b))] _
  refine JC_seq ?_
  refine JC_region ?_
  refine JL_val _ (Ev_assign rfl) rfl ?_
  refine JL_nil ?_
  refine JQ_then ?_
  refine JC_seq ?_
  refine JC_seq ?_
  refine JC_region ?_
  refine JL_step (Step_callP 35 [] (.bool true) (Cl_func [] Tryd.call35 rfl) (fun w1 hw1 => alive3_c  w1 (hG.at hw1))) rfl ?_
  rintro v1 L1 ⟨rfl, rfl⟩
  show JL _ _ _ _ ((10, .bool true) :: _) []
  refine JL_val (.bool (!true)) (Ev_not rfl) rfl ?_
  refine JL_nil ?_
  refine JQ_then ?_
  refine JC_condF _ rfl rfl ?_
  refine JC_skip ?_
  refine JQ_then ?_
  refine JC_seq ?_
  refine JC_seq ?_
  refine JC_region ?_
  refine JL_val _ (Ev_move rfl) rfl ?_
  refine JL_val (I64 ((n1:Int))) (Ev_len Tryd.underlying22 rfl) rfl ?_
  refine JL_val _ (Ev_move rfl) rfl ?_
  refine JL_val (I64 ((n2:Int))) (Ev_len Tryd.underlying22 rfl) rfl ?_
  refine JL_val (I64 ((n1:Int) + (n2:Int))) (Ev_bini rfl rfl fun _ => bin_add_i _ _ ((n1:Int) + (n2:Int)) (by omega) (by omega)) rfl ?_
  refine JL_val (.bool (decide ((3000:Int) < ((n1:Int) + (n2:Int))))) (Ev_bini rfl rfl fun _ => bin_gtr_i _ _) rfl ?_
  refine JL_nil ?_
  refine JQ_then ?_
  refine JC_condF _ rfl (decide_eq_false (by omega)) ?_
  refine JC_skip ?_
  refine JQ_then ?_
  refine JC_seq ?_
  refine JC_region ?_
  refine JL_val _ (Ev_move rfl) rfl ?_
  refine JL_val _ (Ev_move rfl) rfl ?_
  refine JL_step (Step_buildSlice 22 1 _ [(0, .slice a2 n2 c2)] ([.slice a2 n2 c2]) Tryd.underlying125 Tryd.sizeOf22 Tryd.zeroValue22 rfl rfl rfl (by kernel_rfl)) rfl ?_
  rintro v1 L1 ⟨nb1, hnb1, rfl, rfl⟩
  show JL _ _ _ _ ((20, Slc nb1 0 1 1) :: _) [⟨nb1, [.slice a2 n2 c2], 22, (0, 0)⟩]
  refine JL_step (Step_callP 39 [.slice a1 n1 c1, Slc nb1 0 1 1] (.agg (cu8 (macL x ([y].flatten))).toArray) (Cl_func [.slice a1 n1 c1, Slc nb1 0 1 1] Tryd.call39 rfl) (fun w1 hw1 => mac_c a1 n1 c1 x nb1 1 [.slice a2 n2 c2] [y] w1 hL1 (by first | exact hn1 | exact hn2) (by omega) (hr1.at (M' := []) hw1 (by simp)) (by simp) (by simp) (by simp) ⟨RdA.of hw1 (MemAt.ent 0 rfl (Seg.head)) (by simp), ⟨⟨a2, c2, congrArg (fun n => Value.slice a2 n c2) (hL2).symm, (hr2.at (M' := []) hw1 (by simp))⟩, trivial⟩⟩ (by simp only [List.flatten_cons, List.flatten_nil, List.length_append, List.length_nil, hL2]; omega) (hG.at hw1))) rfl ?_
  rintro v1 L1 ⟨rfl, rfl⟩
  show JL _ _ _ _ ((21, .agg (cu8 (macL x ([y].flatten))).toArray) :: _) [⟨nb1, [.slice a2 n2 c2], 22, (0, 0)⟩]
  refine JL_step (Step_alloc _ (cu8 (zr8 32)) Tryd.zeroValue25 (by kernel_rfl)) rfl ?_
  rintro v1 L1 ⟨nb2, hnb2, rfl, rfl⟩
  show JL _ _ _ _ ((7, Ptr nb2 0) :: _) [⟨nb1, [.slice a2 n2 c2], 22, (0, 0)⟩, ⟨nb2, cu8 (zr8 32), 25, (0, 0)⟩]
  refine JL_step (Step_store 1 nb2 0 32 (cu8 (zr8 32)) 25 (.agg (cu8 (macL x ([y].flatten))).toArray) (cu8 (macL x ([y].flatten))) (cu8 (macL x ([y].flatten))) rfl rfl rfl (by first | rfl | simp) Tryd.sizeOf25 (len_cu8 (macL_len _ _)) (by first | exact one_u8 | exact one_u32 | exact one_u64 | (simp [cu8, cu32, cu64, Value.oneCell']; done)) (by simp [(zr8_len 32)]) (lay_whole (by simp [(zr8_len 32), (macL_len _ _)]))) rfl ?_
  rintro v1 L1 ⟨rfl, rfl⟩
  show JL _ _ _ _ _ [⟨nb1, [.slice a2 n2 c2], 22, (0, 0)⟩, ⟨nb2, cu8 (macL x ([y].flatten)), 25, (0, 0)⟩]
  refine JL_nil ?_
  refine JQ_then ?_
  refine JC_seq ?_
  refine JC_region ?_
  refine JL_val _ (Ev_move rfl) rfl ?_
  refine JL_val _ (Ev_move rfl) rfl ?_
  refine JL_step (Step_buildSlice 22 1 _ [(0, .slice a2 n2 c2)] ([.slice a2 n2 c2]) Tryd.underlying125 Tryd.sizeOf22 Tryd.zeroValue22 rfl rfl rfl (by kernel_rfl)) rfl ?_
  rintro v1 L1 ⟨nb3, hnb3, rfl, rfl⟩
  show JL _ _ _ _ ((24, Slc nb3 0 1 1) :: _) [⟨nb1, [.slice a2 n2 c2], 22, (0, 0)⟩, ⟨nb2, cu8 (macL x ([y].flatten)), 25, (0, 0)⟩, ⟨nb3, [.slice a2 n2 c2], 22, (0, 0)⟩]
  refine JL_step (Step_callN 40 [.slice a1 n1 c1, Slc nb3 0 1 1] _ (Cl_func [.slice a1 n1 c1, Slc nb3 0 1 1] Tryd.call40 rfl) (fun w1 hw1 => short_c a1 n1 c1 x nb3 1 [.slice a2 n2 c2] [y] w1 hL1 (by first | exact hn1 | exact hn2) (by omega) (hr1.at (M' := []) hw1 (by simp)) (by simp) (by simp) (by simp) ⟨RdA.of hw1 (MemAt.ent 2 rfl (Seg.head)) (by simp), ⟨⟨a2, c2, congrArg (fun n => Value.slice a2 n c2) (hL2).symm, (hr2.at (M' := []) hw1 (by simp))⟩, trivial⟩⟩ (by simp only [List.flatten_cons, List.flatten_nil, List.length_append, List.length_nil, hL2]; omega) (hG.at hw1))) rfl ?_
  rintro v1 L1 ⟨_, ⟨nb4, sp1, cp1, rfl, rfl, hc1, hc2, hc3⟩, rfl⟩
  show JL _ _ _ _ ((25, Slc nb4 0 16 cp1) :: _) [⟨nb1, [.slice a2 n2 c2], 22, (0, 0)⟩, ⟨nb2, cu8 (macL x ([y].flatten)), 25, (0, 0)⟩, ⟨nb3, [.slice a2 n2 c2], 22, (0, 0)⟩, ⟨nb4, cu8 (mid (macL x ([y].flatten)) 0 16) ++ sp1, 5, (0, 0)⟩]
  refine JL_val _ (Ev_assign rfl) rfl ?_
  refine JL_nil ?_
  refine JQ_then ?_
  refine JC_seq ?_
  refine JC_seq ?_
  refine JC_region ?_
  refine JL_val _ (Ev_move rfl) rfl ?_
  refine JL_val (I64 (16:Int)) (Ev_len Tryd.underlying22 rfl) rfl ?_
  refine JL_val (.bool (decide ((16:Int) ≠ (16:Int)))) (Ev_bini rfl rfl fun _ => bin_neq_i _ _) rfl ?_
  refine JL_val _ (Ev_move rfl) rfl ?_
  refine JL_gval 3 29 false _ (Slc nb2 0 32 32) rfl rfl (by decide) (Ev_sliceA 32 5 1 0 32 0 32 Tryd.underlying25 Tryd.sizeOf5 rfl rfl rfl (by omega) (by omega) (by omega) (by omega) (by omega) 32 (by omega)) rfl ?_
  refine JL_gval 3 29 false _ _ rfl rfl (by decide) (Ev_move rfl) rfl ?_
  refine JL_gval 3 29 false _ _ rfl rfl (by decide) (Ev_move rfl) rfl ?_
  refine JL_gstep 3 29 false _ rfl rfl (by decide) (Step_buildSlice 22 1 _ [(0, .slice a2 n2 c2)] ([.slice a2 n2 c2]) Tryd.underlying125 Tryd.sizeOf22 Tryd.zeroValue22 rfl rfl rfl (by kernel_rfl)) rfl ?_
  rintro v1 L1 ⟨nb5, hnb5, rfl, rfl⟩
  show JL _ _ _ _ ((33, Slc nb5 0 1 1) :: _) [⟨nb1, [.slice a2 n2 c2], 22, (0, 0)⟩, ⟨nb2, cu8 (macL x ([y].flatten)), 25, (0, 0)⟩, ⟨nb3, [.slice a2 n2 c2], 22, (0, 0)⟩, ⟨nb4, cu8 (mid (macL x ([y].flatten)) 0 16) ++ sp1, 5, (0, 0)⟩, ⟨nb5, [.slice a2 n2 c2], 22, (0, 0)⟩]
  refine JL_gstep 3 29 false _ rfl rfl (by decide) (Step_callP 42 [Slc nb2 0 32 32, .slice a1 n1 c1, Slc nb5 0 1 1] (.bool (decide (macL x ([y].flatten) = macL x ([y].flatten)) || decide (macL x ([y].flatten) = mid (macL x ([y].flatten)) 0 16))) (Cl_func [Slc nb2 0 32 32, .slice a1 n1 c1, Slc nb5 0 1 1] Tryd.call42 rfl) (fun w1 hw1 => check_c (some ⟨nb2, 0, none⟩) 32 32 (macL x ([y].flatten)) a1 n1 c1 x nb5 1 [.slice a2 n2 c2] [y] w1 (macL_len _ _) (by omega) (RdB.of hw1 (MemAt.ent 1 rfl (Seg.whole _)) (by simp)) hL1 (by first | exact hn1 | exact hn2) (by omega) (hr1.at (M' := []) hw1 (by simp)) (by simp) (by simp) (by simp) ⟨RdA.of hw1 (MemAt.ent 4 rfl (Seg.head)) (by simp), ⟨⟨a2, c2, congrArg (fun n => Value.slice a2 n c2) (hL2).symm, (hr2.at (M' := []) hw1 (by simp))⟩, trivial⟩⟩ (by simp only [List.flatten_cons, List.flatten_nil, List.length_append, List.length_nil, hL2]; omega) (hG.at hw1))) rfl ?_
  rintro v1 L1 ⟨rfl, rfl⟩
  show JL _ _ _ _ ((34, .bool (decide (macL x ([y].flatten) = macL x ([y].flatten)) || decide (macL x ([y].flatten) = mid (macL x ([y].flatten)) 0 16))) :: _) [⟨nb1, [.slice a2 n2 c2], 22, (0, 0)⟩, ⟨nb2, cu8 (macL x ([y].flatten)), 25, (0, 0)⟩, ⟨nb3, [.slice a2 n2 c2], 22, (0, 0)⟩, ⟨nb4, cu8 (mid (macL x ([y].flatten)) 0 16) ++ sp1, 5, (0, 0)⟩, ⟨nb5, [.slice a2 n2 c2], 22, (0, 0)⟩]
  refine JL_gval 3 29 false _ (.bool (!(decide (macL x ([y].flatten) = macL x ([y].flatten)) || decide (macL x ([y].flatten) = mid (macL x ([y].flatten)) 0 16)))) rfl rfl (by decide) (Ev_not rfl) rfl ?_
  refine JL_val _ (Ev_pickF _ rfl (by decide) rfl) rfl ?_
  refine JL_val _ (Ev_move rfl) rfl ?_
  refine JL_gval 11 37 false _ _ rfl rfl (by rw [show ((decide (macL x ([y].flatten) = macL x ([y].flatten)) || decide (macL x ([y].flatten) = mid (macL x ([y].flatten)) 0 16))) = true from (by simp)]; rfl) (Ev_move rfl) rfl ?_
  refine JL_gval 11 37 false _ _ rfl rfl (by rw [show ((decide (macL x ([y].flatten) = macL x ([y].flatten)) || decide (macL x ([y].flatten) = mid (macL x ([y].flatten)) 0 16))) = true from (by simp)]; rfl) (Ev_move rfl) rfl ?_
  refine JL_gval 11 37 false _ _ rfl rfl (by rw [show ((decide (macL x ([y].flatten) = macL x ([y].flatten)) || decide (macL x ([y].flatten) = mid (macL x ([y].flatten)) 0 16))) = true from (by simp)]; rfl) (Ev_move rfl) rfl ?_
  refine JL_gstep 11 37 false _ rfl rfl (by rw [show ((decide (macL x ([y].flatten) = macL x ([y].flatten)) || decide (macL x ([y].flatten) = mid (macL x ([y].flatten)) 0 16))) = true from (by simp)]; rfl) (Step_buildSlice 22 1 _ [(0, .slice a2 n2 c2)] ([.slice a2 n2 c2]) Tryd.underlying125 Tryd.sizeOf22 Tryd.zeroValue22 rfl rfl rfl (by kernel_rfl)) rfl ?_
  rintro v1 L1 ⟨nb6, hnb6, rfl, rfl⟩
  show JL _ _ _ _ ((41, Slc nb6 0 1 1) :: _) [⟨nb1, [.slice a2 n2 c2], 22, (0, 0)⟩, ⟨nb2, cu8 (macL x ([y].flatten)), 25, (0, 0)⟩, ⟨nb3, [.slice a2 n2 c2], 22, (0, 0)⟩, ⟨nb4, cu8 (mid (macL x ([y].flatten)) 0 16) ++ sp1, 5, (0, 0)⟩, ⟨nb5, [.slice a2 n2 c2], 22, (0, 0)⟩, ⟨nb6, [.slice a2 n2 c2], 22, (0, 0)⟩]
  refine JL_gstep 11 37 false _ rfl rfl (by rw [show ((decide (macL x ([y].flatten) = macL x ([y].flatten)) || decide (macL x ([y].flatten) = mid (macL x ([y].flatten)) 0 16))) = true from (by simp)]; rfl) (Step_callP 42 [Slc nb4 0 16 cp1, .slice a1 n1 c1, Slc nb6 0 1 1] (.bool (decide (mid (macL x ([y].flatten)) 0 16 = macL x ([y].flatten)) || decide (mid (macL x ([y].flatten)) 0 16 = mid (macL x ([y].flatten)) 0 16))) (Cl_func [Slc nb4 0 16 cp1, .slice a1 n1 c1, Slc nb6 0 1 1] Tryd.call42 rfl) (fun w1 hw1 => check_c (some ⟨nb4, 0, none⟩) 16 cp1 (mid (macL x ([y].flatten)) 0 16) a1 n1 c1 x nb6 1 [.slice a2 n2 c2] [y] w1 (show (mid (macL x ([y].flatten)) 0 16).length = 16 from mid_len (by rw [macL_len]; omega)) (by omega) (RdB.of hw1 (MemAt.ent 3 rfl (Seg.left (Seg.whole _))) (by simp)) hL1 (by first | exact hn1 | exact hn2) (by omega) (hr1.at (M' := []) hw1 (by simp)) (by simp) (by simp) (by simp) ⟨RdA.of hw1 (MemAt.ent 5 rfl (Seg.head)) (by simp), ⟨⟨a2, c2, congrArg (fun n => Value.slice a2 n c2) (hL2).symm, (hr2.at (M' := []) hw1 (by simp))⟩, trivial⟩⟩ (by simp only [List.flatten_cons, List.flatten_nil, List.length_append, List.length_nil, hL2]; omega) (hG.at hw1))) rfl ?_
  rintro v1 L1 ⟨rfl, rfl⟩
  show JL _ _ _ _ ((42, .bool (decide (mid (macL x ([y].flatten)) 0 16 = macL x ([y].flatten)) || decide (mid (macL x ([y].flatten)) 0 16 = mid (macL x ([y].flatten)) 0 16))) :: _) [⟨nb1, [.slice a2 n2 c2], 22, (0, 0)⟩, ⟨nb2, cu8 (macL x ([y].flatten)), 25, (0, 0)⟩, ⟨nb3, [.slice a2 n2 c2], 22, (0, 0)⟩, ⟨nb4, cu8 (mid (macL x ([y].flatten)) 0 16) ++ sp1, 5, (0, 0)⟩, ⟨nb5, [.slice a2 n2 c2], 22, (0, 0)⟩, ⟨nb6, [.slice a2 n2 c2], 22, (0, 0)⟩]
  refine JL_gval 11 37 false _ (.bool (!(decide (mid (macL x ([y].flatten)) 0 16 = macL x ([y].flatten)) || decide (mid (macL x ([y].flatten)) 0 16 = mid (macL x ([y].flatten)) 0 16)))) rfl rfl (by rw [show ((decide (macL x ([y].flatten) = macL x ([y].flatten)) || decide (macL x ([y].flatten) = mid (macL x ([y].flatten)) 0 16))) = true from (by simp)]; rfl) (Ev_not rfl) rfl ?_
  refine JL_val _ (Ev_pickF _ rfl (by rw [show ((decide (macL x ([y].flatten) = macL x ([y].flatten)) || decide (macL x ([y].flatten) = mid (macL x ([y].flatten)) 0 16))) = true from (by simp)]; rfl) rfl) rfl ?_
  refine JL_val _ (Ev_move rfl) rfl ?_
  refine JL_gval 19 45 false _ (Slc nb2 0 20 32) rfl rfl (by rw [show ((decide (mid (macL x ([y].flatten)) 0 16 = macL x ([y].flatten)) || decide (mid (macL x ([y].flatten)) 0 16 = mid (macL x ([y].flatten)) 0 16))) = true from (by simp)]; rfl) (Ev_sliceA 32 5 1 0 20 0 32 Tryd.underlying25 Tryd.sizeOf5 rfl rfl rfl (by omega) (by omega) (by omega) (by omega) (by omega) 20 (by omega)) rfl ?_
  refine JL_gval 19 45 false _ _ rfl rfl (by rw [show ((decide (mid (macL x ([y].flatten)) 0 16 = macL x ([y].flatten)) || decide (mid (macL x ([y].flatten)) 0 16 = mid (macL x ([y].flatten)) 0 16))) = true from (by simp)]; rfl) (Ev_move rfl) rfl ?_
  refine JL_gval 19 45 false _ _ rfl rfl (by rw [show ((decide (mid (macL x ([y].flatten)) 0 16 = macL x ([y].flatten)) || decide (mid (macL x ([y].flatten)) 0 16 = mid (macL x ([y].flatten)) 0 16))) = true from (by simp)]; rfl) (Ev_move rfl) rfl ?_
  refine JL_gstep 19 45 false _ rfl rfl (by rw [show ((decide (mid (macL x ([y].flatten)) 0 16 = macL x ([y].flatten)) || decide (mid (macL x ([y].flatten)) 0 16 = mid (macL x ([y].flatten)) 0 16))) = true from (by simp)]; rfl) (Step_buildSlice 22 1 _ [(0, .slice a2 n2 c2)] ([.slice a2 n2 c2]) Tryd.underlying125 Tryd.sizeOf22 Tryd.zeroValue22 rfl rfl rfl (by kernel_rfl)) rfl ?_
  rintro v1 L1 ⟨nb7, hnb7, rfl, rfl⟩
  show JL _ _ _ _ ((49, Slc nb7 0 1 1) :: _) [⟨nb1, [.slice a2 n2 c2], 22, (0, 0)⟩, ⟨nb2, cu8 (macL x ([y].flatten)), 25, (0, 0)⟩, ⟨nb3, [.slice a2 n2 c2], 22, (0, 0)⟩, ⟨nb4, cu8 (mid (macL x ([y].flatten)) 0 16) ++ sp1, 5, (0, 0)⟩, ⟨nb5, [.slice a2 n2 c2], 22, (0, 0)⟩, ⟨nb6, [.slice a2 n2 c2], 22, (0, 0)⟩, ⟨nb7, [.slice a2 n2 c2], 22, (0, 0)⟩]
  have hl1 : (mid (macL x ([y].flatten)) 0 20).length = 20 := mid_len (by rw [(macL_len _ _)]; omega)
  refine JL_gstep 19 45 false _ rfl rfl (by rw [show ((decide (mid (macL x ([y].flatten)) 0 16 = macL x ([y].flatten)) || decide (mid (macL x ([y].flatten)) 0 16 = mid (macL x ([y].flatten)) 0 16))) = true from (by simp)]; rfl) (Step_callP 42 [Slc nb2 0 20 32, .slice a1 n1 c1, Slc nb7 0 1 1] (.bool (decide (mid (macL x ([y].flatten)) 0 20 = macL x ([y].flatten)) || decide (mid (macL x ([y].flatten)) 0 20 = mid (macL x ([y].flatten)) 0 16))) (Cl_func [Slc nb2 0 20 32, .slice a1 n1 c1, Slc nb7 0 1 1] Tryd.call42 rfl) (fun w1 hw1 => check_c (some ⟨nb2, 0, none⟩) 20 32 (mid (macL x ([y].flatten)) 0 20) a1 n1 c1 x nb7 1 [.slice a2 n2 c2] [y] w1 hl1 (by omega) (RdB.of hw1 (MemAt.ent 1 rfl (segm_u8 0 20 (by rw [(macL_len _ _)]; omega))) (by simp)) hL1 (by first | exact hn1 | exact hn2) (by omega) (hr1.at (M' := []) hw1 (by simp)) (by simp) (by simp) (by simp) ⟨RdA.of hw1 (MemAt.ent 6 rfl (Seg.head)) (by simp), ⟨⟨a2, c2, congrArg (fun n => Value.slice a2 n c2) (hL2).symm, (hr2.at (M' := []) hw1 (by simp))⟩, trivial⟩⟩ (by simp only [List.flatten_cons, List.flatten_nil, List.length_append, List.length_nil, hL2]; omega) (hG.at hw1))) rfl ?_
  rintro v1 L1 ⟨rfl, rfl⟩
  show JL _ _ _ _ ((50, .bool (decide (mid (macL x ([y].flatten)) 0 20 = macL x ([y].flatten)) || decide (mid (macL x ([y].flatten)) 0 20 = mid (macL x ([y].flatten)) 0 16))) :: _) [⟨nb1, [.slice a2 n2 c2], 22, (0, 0)⟩, ⟨nb2, cu8 (macL x ([y].flatten)), 25, (0, 0)⟩, ⟨nb3, [.slice a2 n2 c2], 22, (0, 0)⟩, ⟨nb4, cu8 (mid (macL x ([y].flatten)) 0 16) ++ sp1, 5, (0, 0)⟩, ⟨nb5, [.slice a2 n2 c2], 22, (0, 0)⟩, ⟨nb6, [.slice a2 n2 c2], 22, (0, 0)⟩, ⟨nb7, [.slice a2 n2 c2], 22, (0, 0)⟩]
  refine JL_val _ (Ev_pickF _ rfl (by rw [show ((decide (mid (macL x ([y].flatten)) 0 16 = macL x ([y].flatten)) || decide (mid (macL x ([y].flatten)) 0 16 = mid (macL x ([y].flatten)) 0 16))) = true from (by simp)]; rfl) rfl) rfl ?_
  refine JL_nil ?_
  refine JQ_then ?_
  refine JC_condF _ rfl (chk_20 (macL_len _ _)) ?_
  refine JC_skip ?_
  refine JQ_then ?_
  refine JC_seq ?_
  refine JC_region ?_
  refine JL_val _ (Ev_move rfl) rfl ?_
  refine JL_val (U64 (u64i (b))) (Ev_conv _ _ rfl fun _ => conv_i64_u64i (by rw [Tryd.underlying3]; rfl) Tryd.underlying52 (b)) rfl ?_
  refine JL_val (U64 ((u64i (b)) % (128:UInt64))) (Ev_bini rfl rfl fun _ => bin_rem_u64 (u64i (b)) (128:UInt64) (by decide)) rfl ?_
  refine JL_val (I64 ((((u64i (b)) % (128:UInt64)).toNat:Int))) (Ev_conv _ _ rfl fun _ => conv_u64_i64 (by rw [Tryd.underlying52]; rfl) Tryd.underlying3 ((u64i (b)) % (128:UInt64)) _ rfl (by omega)) rfl ?_
  refine JL_val _ (Ev_assign rfl) rfl ?_
  refine JL_nil ?_
  refine JQ_then ?_
  refine JC_seq ?_
  obtain ⟨dq1, hdq1, hdq1a, hdq1b⟩ : ∃ q : Nat, q = (((u64i (b)) % (128:UInt64)).toNat) / 8 ∧ (q : Int) = ((((u64i (b)) % (128:UInt64)).toNat:Int)) / 8 ∧ (q * 8 ≤ (((u64i (b)) % (128:UInt64)).toNat) ∧ (((u64i (b)) % (128:UInt64)).toNat) < q * 8 + 8) := ⟨_, rfl, by first | rfl | omega, by omega⟩
  obtain ⟨dq2, hdq2, hdq2a, hdq2b⟩ : ∃ q : Nat, q = (((u64i (b)) % (128:UInt64)).toNat) % 8 ∧ (q : Int) = ((((u64i (b)) % (128:UInt64)).toNat:Int)) % 8 ∧ (q < 8) := ⟨_, rfl, by first | rfl | omega, by omega⟩
  refine JC_draw 89 2 [(0, I64 ((((u64i (b)) % (128:UInt64)).toNat:Int))), (1, I64 ((dq1:Int))), (2, Ptr nb2 dq1), (3, U8 (g8 (macL x ([y].flatten)) dq1)), (4, I64 ((((u64i (b)) % (128:UInt64)).toNat:Int))), (5, I64 ((dq2:Int))), (6, U8 ((1:UInt8) <<< UInt8.ofNat dq2)), (7, U8 ((g8 (macL x ([y].flatten)) dq1) ^^^ ((1:UInt8) <<< UInt8.ofNat dq2))), (8, Ptr nb2 dq1)] Tryd.mixed rfl (by decide +kernel) ?_
  have hl2 : ((macL x ([y].flatten)).set dq1 ((g8 (macL x ([y].flatten)) dq1) ^^^ ((1:UInt8) <<< UInt8.ofNat dq2))).length = 32 := by first | (rw [List.length_set]; exact (macL_len _ _)) | simp [(macL_len _ _)]
  refine DP_one ⟨[], [0, 1, 2, 3, 4, 5, 6, 7, 8], [], [0, 1, 2, 3, 4, 5, 6, 7, 8], [9]⟩ 9 _ rfl rfl (by decide +kernel) rfl ⟨⟨_, rfl, Qok_val rfl (Ev_move rfl)⟩, ⟨_, rfl, Qok_val rfl (Ev_bini rfl rfl fun _ => bin_quo_i _ _ ((dq1:Int)) (by omega) (by omega) (by omega))⟩, ⟨_, rfl, Qok_val rfl (Ev_indexArr 32 5 1 dq1 Tryd.underlying25 Tryd.sizeOf5 rfl rfl (by omega) (by omega) (by omega))⟩, ⟨_, rfl, Qok_val rfl (Ev_load rfl (Ld_one Tryd.isAgg5 (MemAt.ent 1 rfl (Seg.get (g8_get (i := dq1) (by rw [(macL_len _ _)]; omega))))))⟩, ⟨_, rfl, Qok_val rfl (Ev_move rfl)⟩, ⟨_, rfl, Qok_val rfl (Ev_bini rfl rfl fun _ => bin_rem_i _ _ ((dq2:Int)) (by omega) (by omega) (by omega))⟩, ⟨_, rfl, Qok_val rfl (Ev_bini rfl rfl fun _ => bin_shl_u8 (1:UInt8) _ _ dq2 (by omega) (by omega))⟩, ⟨_, rfl, Qok_val rfl (Ev_bini rfl rfl fun _ => bin_xor_u8 (g8 (macL x ([y].flatten)) dq1) ((1:UInt8) <<< UInt8.ofNat dq2))⟩, ⟨_, rfl, Qok_val rfl (Ev_indexArr 32 5 1 dq1 Tryd.underlying25 Tryd.sizeOf5 rfl rfl (by omega) (by omega) (by omega))⟩, trivial⟩ rfl (Cok_step rfl (Step_store 1 nb2 dq1 1 (cu8 (macL x ([y].flatten))) 25 (U8 ((g8 (macL x ([y].flatten)) dq1) ^^^ ((1:UInt8) <<< UInt8.ofNat dq2))) ([U8 ((g8 (macL x ([y].flatten)) dq1) ^^^ ((1:UInt8) <<< UInt8.ofNat dq2))]) (cu8 ((macL x ([y].flatten)).set dq1 ((g8 (macL x ([y].flatten)) dq1) ^^^ ((1:UInt8) <<< UInt8.ofNat dq2)))) rfl rfl rfl rfl Tryd.sizeOf5 rfl (by simp [Value.oneCell']) (by simp only [List.length_append, cu8_length, (macL_len _ _)]; omega) (lay8 _ _ _ (by rw [(macL_len _ _)]; omega)))) ?_
  rintro v1 L1 ⟨rfl, rfl⟩
  refine ⟨[], ?_⟩
  show DP _ _ _ _ _ _ _ _ [⟨nb1, [.slice a2 n2 c2], 22, (0, 0)⟩, ⟨nb2, cu8 ((macL x ([y].flatten)).set dq1 ((g8 (macL x ([y].flatten)) dq1) ^^^ ((1:UInt8) <<< UInt8.ofNat dq2))), 25, (0, 0)⟩, ⟨nb3, [.slice a2 n2 c2], 22, (0, 0)⟩, ⟨nb4, cu8 (mid (macL x ([y].flatten)) 0 16) ++ sp1, 5, (0, 0)⟩, ⟨nb5, [.slice a2 n2 c2], 22, (0, 0)⟩, ⟨nb6, [.slice a2 n2 c2], 22, (0, 0)⟩, ⟨nb7, [.slice a2 n2 c2], 22, (0, 0)⟩]
  refine DP_end ⟨[9], [0, 1, 2, 3, 4, 5, 6, 7, 8], [0, 1, 2, 3, 4, 5, 6, 7, 8], [], []⟩ rfl rfl (by decide +kernel) rfl trivial ?_
  refine K_sub (F' := [(0, .slice a1 n1 c1), (1, .slice a2 n2 c2), (6, .bool false), (7, Ptr nb2 0), (8, Slc nb4 0 16 cp1), (9, I64 ((((u64i (b)) % (128:UInt64)).toNat:Int)))]) (Sub.cons (by kernel_rfl) (Sub.cons (by kernel_rfl) (Sub.cons (by kernel_rfl) (Sub.cons (by kernel_rfl) (Sub.cons (by kernel_rfl) (Sub.cons (by kernel_rfl) (Sub.nil))))))) ?_
  show JQ _ _ _ [(0, .slice a1 n1 c1), (1, .slice a2 n2 c2), (6, .bool false), (7, Ptr nb2 0), (8, Slc nb4 0 16 cp1), (9, I64 ((((u64i (b)) % (128:UInt64)).toNat:Int)))] _
  refine JQ_then ?_
  refine JC_seq ?_
  refine JC_draw 89 2 [(0, Slc nb4 0 16 cp1), (1, I64 ((((u64i (b)) % (128:UInt64)).toNat:Int))), (2, I64 ((dq1:Int))), (3, Ptr nb4 dq1), (4, U8 (g8 (mid (macL x ([y].flatten)) 0 16) dq1)), (5, I64 ((((u64i (b)) % (128:UInt64)).toNat:Int))), (6, I64 ((dq2:Int))), (7, U8 ((1:UInt8) <<< UInt8.ofNat dq2)), (8, U8 ((g8 (mid (macL x ([y].flatten)) 0 16) dq1) ^^^ ((1:UInt8) <<< UInt8.ofNat dq2))), (9, Ptr nb4 dq1)] Tryd.mixed rfl (by decide +kernel) ?_
  have hl3 : ((mid (macL x ([y].flatten)) 0 16).set dq1 ((g8 (mid (macL x ([y].flatten)) 0 16) dq1) ^^^ ((1:UInt8) <<< UInt8.ofNat dq2))).length = 16 := by first | (rw [List.length_set]; exact (show (mid (macL x ([y].flatten)) 0 16).length = 16 from mid_len (by rw [macL_len]; omega))) | simp [(show (mid (macL x ([y].flatten)) 0 16).length = 16 from mid_len (by rw [macL_len]; omega))]
  refine DP_one ⟨[], [0, 1, 2, 3, 4, 5, 6, 7, 8, 9], [], [0, 1, 2, 3, 4, 5, 6, 7, 8, 9], [10]⟩ 10 _ rfl rfl (by decide +kernel) rfl ⟨⟨_, rfl, Qok_val rfl (Ev_move rfl)⟩, ⟨_, rfl, Qok_val rfl (Ev_move rfl)⟩, ⟨_, rfl, Qok_val rfl (Ev_bini rfl rfl fun _ => bin_quo_i _ _ ((dq1:Int)) (by omega) (by omega) (by omega))⟩, ⟨_, rfl, Qok_val rfl (Ev_indexSl 5 1 dq1 Tryd.underlying22 Tryd.sizeOf5 rfl rfl (by omega) (by omega) (by omega))⟩, ⟨_, rfl, Qok_val rfl (Ev_load rfl (Ld_one Tryd.isAgg5 (MemAt.ent 3 rfl (Seg.left (Seg.get (g8_get (i := dq1) (by rw [(show (mid (macL x ([y].flatten)) 0 16).length = 16 from mid_len (by rw [macL_len]; omega))]; omega)))))))⟩, ⟨_, rfl, Qok_val rfl (Ev_move rfl)⟩, ⟨_, rfl, Qok_val rfl (Ev_bini rfl rfl fun _ => bin_rem_i _ _ ((dq2:Int)) (by omega) (by omega) (by omega))⟩, ⟨_, rfl, Qok_val rfl (Ev_bini rfl rfl fun _ => bin_shl_u8 (1:UInt8) _ _ dq2 (by omega) (by omega))⟩, ⟨_, rfl, Qok_val rfl (Ev_bini rfl rfl fun _ => bin_xor_u8 (g8 (mid (macL x ([y].flatten)) 0 16) dq1) ((1:UInt8) <<< UInt8.ofNat dq2))⟩, ⟨_, rfl, Qok_val rfl (Ev_indexSl 5 1 dq1 Tryd.underlying22 Tryd.sizeOf5 rfl rfl (by omega) (by omega) (by omega))⟩, trivial⟩ rfl (Cok_step rfl (Step_store 3 nb4 dq1 1 (cu8 (mid (macL x ([y].flatten)) 0 16) ++ sp1) 5 (U8 ((g8 (mid (macL x ([y].flatten)) 0 16) dq1) ^^^ ((1:UInt8) <<< UInt8.ofNat dq2))) ([U8 ((g8 (mid (macL x ([y].flatten)) 0 16) dq1) ^^^ ((1:UInt8) <<< UInt8.ofNat dq2))]) (cu8 ((mid (macL x ([y].flatten)) 0 16).set dq1 ((g8 (mid (macL x ([y].flatten)) 0 16) dq1) ^^^ ((1:UInt8) <<< UInt8.ofNat dq2))) ++ sp1) rfl rfl rfl rfl Tryd.sizeOf5 rfl (by simp [Value.oneCell']) (by simp only [List.length_append, cu8_length, (show (mid (macL x ([y].flatten)) 0 16).length = 16 from mid_len (by rw [macL_len]; omega)), hc1]; omega) (lay_left (p := cu8 (mid (macL x ([y].flatten)) 0 16)) (vs := [U8 ((g8 (mid (macL x ([y].flatten)) 0 16) dq1) ^^^ ((1:UInt8) <<< UInt8.ofNat dq2))]) (o := dq1) (by simp only [List.length_append, cu8_length, List.length_cons, List.length_nil, (show (mid (macL x ([y].flatten)) 0 16).length = 16 from mid_len (by rw [macL_len]; omega))]; omega) (lay8 _ _ _ (by rw [(show (mid (macL x ([y].flatten)) 0 16).length = 16 from mid_len (by rw [macL_len]; omega))]; omega))))) ?_
  rintro v1 L1 ⟨rfl, rfl⟩
  refine ⟨[], ?_⟩
  show DP _ _ _ _ _ _ _ _ [⟨nb1, [.slice a2 n2 c2], 22, (0, 0)⟩, ⟨nb2, cu8 ((macL x ([y].flatten)).set dq1 ((g8 (macL x ([y].flatten)) dq1) ^^^ ((1:UInt8) <<< UInt8.ofNat dq2))), 25, (0, 0)⟩, ⟨nb3, [.slice a2 n2 c2], 22, (0, 0)⟩, ⟨nb4, cu8 ((mid (macL x ([y].flatten)) 0 16).set dq1 ((g8 (mid (macL x ([y].flatten)) 0 16) dq1) ^^^ ((1:UInt8) <<< UInt8.ofNat dq2))) ++ sp1, 5, (0, 0)⟩, ⟨nb5, [.slice a2 n2 c2], 22, (0, 0)⟩, ⟨nb6, [.slice a2 n2 c2], 22, (0, 0)⟩, ⟨nb7, [.slice a2 n2 c2], 22, (0, 0)⟩]
  refine DP_end ⟨[10], [0, 1, 2, 3, 4, 5, 6, 7, 8, 9], [0, 1, 2, 3, 4, 5, 6, 7, 8, 9], [], []⟩ rfl rfl (by decide +kernel) rfl trivial ?_
  refine K_sub (F' := [(0, .slice a1 n1 c1), (1, .slice a2 n2 c2), (6, .bool false), (7, Ptr nb2 0), (8, Slc nb4 0 16 cp1)]) (Sub.cons (by kernel_rfl) (Sub.cons (by kernel_rfl) (Sub.cons (by kernel_rfl) (Sub.cons (by kernel_rfl) (Sub.cons (by kernel_rfl) (Sub.nil)))))) ?_
  show JQ _ _ _ [(0, .slice a1 n1 c1), (1, .slice a2 n2 c2), (6, .bool false), (7, Ptr nb2 0), (8, Slc nb4 0 16 cp1)] _
  refine JQ_then ?_
  refine JC_seq ?_
  refine JC_region ?_
  refine JL_val (Slc nb2 0 32 32) (Ev_sliceA 32 5 1 0 32 0 32 Tryd.underlying25 Tryd.sizeOf5 rfl rfl rfl (by omega) (by omega) (by omega) (by omega) (by omega) 32 (by omega)) rfl ?_
  refine JL_val _ (Ev_move rfl) rfl ?_
  refine JL_val _ (Ev_move rfl) rfl ?_
  refine JL_step (Step_buildSlice 22 1 _ [(0, .slice a2 n2 c2)] ([.slice a2 n2 c2]) Tryd.underlying125 Tryd.sizeOf22 Tryd.zeroValue22 rfl rfl rfl (by kernel_rfl)) rfl ?_
  rintro v1 L1 ⟨nb8, hnb8, rfl, rfl⟩
  show JL _ _ _ _ ((78, Slc nb8 0 1 1) :: _) [⟨nb1, [.slice a2 n2 c2], 22, (0, 0)⟩, ⟨nb2, cu8 ((macL x ([y].flatten)).set dq1 ((g8 (macL x ([y].flatten)) dq1) ^^^ ((1:UInt8) <<< UInt8.ofNat dq2))), 25, (0, 0)⟩, ⟨nb3, [.slice a2 n2 c2], 22, (0, 0)⟩, ⟨nb4, cu8 ((mid (macL x ([y].flatten)) 0 16).set dq1 ((g8 (mid (macL x ([y].flatten)) 0 16) dq1) ^^^ ((1:UInt8) <<< UInt8.ofNat dq2))) ++ sp1, 5, (0, 0)⟩, ⟨nb5, [.slice a2 n2 c2], 22, (0, 0)⟩, ⟨nb6, [.slice a2 n2 c2], 22, (0, 0)⟩, ⟨nb7, [.slice a2 n2 c2], 22, (0, 0)⟩, ⟨nb8, [.slice a2 n2 c2], 22, (0, 0)⟩]
  refine JL_step (Step_callP 42 [Slc nb2 0 32 32, .slice a1 n1 c1, Slc nb8 0 1 1] (.bool (decide ((macL x ([y].flatten)).set dq1 ((g8 (macL x ([y].flatten)) dq1) ^^^ ((1:UInt8) <<< UInt8.ofNat dq2)) = macL x ([y].flatten)) || decide ((macL x ([y].flatten)).set dq1 ((g8 (macL x ([y].flatten)) dq1) ^^^ ((1:UInt8) <<< UInt8.ofNat dq2)) = mid (macL x ([y].flatten)) 0 16))) (Cl_func [Slc nb2 0 32 32, .slice a1 n1 c1, Slc nb8 0 1 1] Tryd.call42 rfl) (fun w1 hw1 => check_c (some ⟨nb2, 0, none⟩) 32 32 ((macL x ([y].flatten)).set dq1 ((g8 (macL x ([y].flatten)) dq1) ^^^ ((1:UInt8) <<< UInt8.ofNat dq2))) a1 n1 c1 x nb8 1 [.slice a2 n2 c2] [y] w1 hl2 (by omega) (RdB.of hw1 (MemAt.ent 1 rfl (Seg.whole _)) (by simp)) hL1 (by first | exact hn1 | exact hn2) (by omega) (hr1.at (M' := []) hw1 (by simp)) (by simp) (by simp) (by simp) ⟨RdA.of hw1 (MemAt.ent 7 rfl (Seg.head)) (by simp), ⟨⟨a2, c2, congrArg (fun n => Value.slice a2 n c2) (hL2).symm, (hr2.at (M' := []) hw1 (by simp))⟩, trivial⟩⟩ (by simp only [List.flatten_cons, List.flatten_nil, List.length_append, List.length_nil, hL2]; omega) (hG.at hw1))) rfl ?_
  rintro v1 L1 ⟨rfl, rfl⟩
  show JL _ _ _ _ ((79, .bool (decide ((macL x ([y].flatten)).set dq1 ((g8 (macL x ([y].flatten)) dq1) ^^^ ((1:UInt8) <<< UInt8.ofNat dq2)) = macL x ([y].flatten)) || decide ((macL x ([y].flatten)).set dq1 ((g8 (macL x ([y].flatten)) dq1) ^^^ ((1:UInt8) <<< UInt8.ofNat dq2)) = mid (macL x ([y].flatten)) 0 16))) :: _) [⟨nb1, [.slice a2 n2 c2], 22, (0, 0)⟩, ⟨nb2, cu8 ((macL x ([y].flatten)).set dq1 ((g8 (macL x ([y].flatten)) dq1) ^^^ ((1:UInt8) <<< UInt8.ofNat dq2))), 25, (0, 0)⟩, ⟨nb3, [.slice a2 n2 c2], 22, (0, 0)⟩, ⟨nb4, cu8 ((mid (macL x ([y].flatten)) 0 16).set dq1 ((g8 (mid (macL x ([y].flatten)) 0 16) dq1) ^^^ ((1:UInt8) <<< UInt8.ofNat dq2))) ++ sp1, 5, (0, 0)⟩, ⟨nb5, [.slice a2 n2 c2], 22, (0, 0)⟩, ⟨nb6, [.slice a2 n2 c2], 22, (0, 0)⟩, ⟨nb7, [.slice a2 n2 c2], 22, (0, 0)⟩, ⟨nb8, [.slice a2 n2 c2], 22, (0, 0)⟩]
  refine JL_val (.bool (!(decide ((macL x ([y].flatten)).set dq1 ((g8 (macL x ([y].flatten)) dq1) ^^^ ((1:UInt8) <<< UInt8.ofNat dq2)) = macL x ([y].flatten)) || decide ((macL x ([y].flatten)).set dq1 ((g8 (macL x ([y].flatten)) dq1) ^^^ ((1:UInt8) <<< UInt8.ofNat dq2)) = mid (macL x ([y].flatten)) 0 16)))) (Ev_not rfl) rfl ?_
  refine JL_val _ (Ev_move rfl) rfl ?_
  refine JL_gval 6 81 true _ _ rfl rfl (by rw [show ((decide ((macL x ([y].flatten)).set dq1 ((g8 (macL x ([y].flatten)) dq1) ^^^ ((1:UInt8) <<< UInt8.ofNat dq2)) = macL x ([y].flatten)) || decide ((macL x ([y].flatten)).set dq1 ((g8 (macL x ([y].flatten)) dq1) ^^^ ((1:UInt8) <<< UInt8.ofNat dq2)) = mid (macL x ([y].flatten)) 0 16))) = false from (chk_flip1 (M := macL x ([y].flatten)) (macL_len _ _) (q := dq1) (r := dq2) (by omega) (by omega))]; rfl) (Ev_move rfl) rfl ?_
  refine JL_gval 6 81 true _ _ rfl rfl (by rw [show ((decide ((macL x ([y].flatten)).set dq1 ((g8 (macL x ([y].flatten)) dq1) ^^^ ((1:UInt8) <<< UInt8.ofNat dq2)) = macL x ([y].flatten)) || decide ((macL x ([y].flatten)).set dq1 ((g8 (macL x ([y].flatten)) dq1) ^^^ ((1:UInt8) <<< UInt8.ofNat dq2)) = mid (macL x ([y].flatten)) 0 16))) = false from (chk_flip1 (M := macL x ([y].flatten)) (macL_len _ _) (q := dq1) (r := dq2) (by omega) (by omega))]; rfl) (Ev_move rfl) rfl ?_
  refine JL_gval 6 81 true _ _ rfl rfl (by rw [show ((decide ((macL x ([y].flatten)).set dq1 ((g8 (macL x ([y].flatten)) dq1) ^^^ ((1:UInt8) <<< UInt8.ofNat dq2)) = macL x ([y].flatten)) || decide ((macL x ([y].flatten)).set dq1 ((g8 (macL x ([y].flatten)) dq1) ^^^ ((1:UInt8) <<< UInt8.ofNat dq2)) = mid (macL x ([y].flatten)) 0 16))) = false from (chk_flip1 (M := macL x ([y].flatten)) (macL_len _ _) (q := dq1) (r := dq2) (by omega) (by omega))]; rfl) (Ev_move rfl) rfl ?_
  refine JL_gstep 6 81 true _ rfl rfl (by rw [show ((decide ((macL x ([y].flatten)).set dq1 ((g8 (macL x ([y].flatten)) dq1) ^^^ ((1:UInt8) <<< UInt8.ofNat dq2)) = macL x ([y].flatten)) || decide ((macL x ([y].flatten)).set dq1 ((g8 (macL x ([y].flatten)) dq1) ^^^ ((1:UInt8) <<< UInt8.ofNat dq2)) = mid (macL x ([y].flatten)) 0 16))) = false from (chk_flip1 (M := macL x ([y].flatten)) (macL_len _ _) (q := dq1) (r := dq2) (by omega) (by omega))]; rfl) (Step_buildSlice 22 1 _ [(0, .slice a2 n2 c2)] ([.slice a2 n2 c2]) Tryd.underlying125 Tryd.sizeOf22 Tryd.zeroValue22 rfl rfl rfl (by kernel_rfl)) rfl ?_
  rintro v1 L1 ⟨nb9, hnb9, rfl, rfl⟩
  show JL _ _ _ _ ((85, Slc nb9 0 1 1) :: _) [⟨nb1, [.slice a2 n2 c2], 22, (0, 0)⟩, ⟨nb2, cu8 ((macL x ([y].flatten)).set dq1 ((g8 (macL x ([y].flatten)) dq1) ^^^ ((1:UInt8) <<< UInt8.ofNat dq2))), 25, (0, 0)⟩, ⟨nb3, [.slice a2 n2 c2], 22, (0, 0)⟩, ⟨nb4, cu8 ((mid (macL x ([y].flatten)) 0 16).set dq1 ((g8 (mid (macL x ([y].flatten)) 0 16) dq1) ^^^ ((1:UInt8) <<< UInt8.ofNat dq2))) ++ sp1, 5, (0, 0)⟩, ⟨nb5, [.slice a2 n2 c2], 22, (0, 0)⟩, ⟨nb6, [.slice a2 n2 c2], 22, (0, 0)⟩, ⟨nb7, [.slice a2 n2 c2], 22, (0, 0)⟩, ⟨nb8, [.slice a2 n2 c2], 22, (0, 0)⟩, ⟨nb9, [.slice a2 n2 c2], 22, (0, 0)⟩]
  refine JL_gstep 6 81 true _ rfl rfl (by rw [show ((decide ((macL x ([y].flatten)).set dq1 ((g8 (macL x ([y].flatten)) dq1) ^^^ ((1:UInt8) <<< UInt8.ofNat dq2)) = macL x ([y].flatten)) || decide ((macL x ([y].flatten)).set dq1 ((g8 (macL x ([y].flatten)) dq1) ^^^ ((1:UInt8) <<< UInt8.ofNat dq2)) = mid (macL x ([y].flatten)) 0 16))) = false from (chk_flip1 (M := macL x ([y].flatten)) (macL_len _ _) (q := dq1) (r := dq2) (by omega) (by omega))]; rfl) (Step_callP 42 [Slc nb4 0 16 cp1, .slice a1 n1 c1, Slc nb9 0 1 1] (.bool (decide ((mid (macL x ([y].flatten)) 0 16).set dq1 ((g8 (mid (macL x ([y].flatten)) 0 16) dq1) ^^^ ((1:UInt8) <<< UInt8.ofNat dq2)) = macL x ([y].flatten)) || decide ((mid (macL x ([y].flatten)) 0 16).set dq1 ((g8 (mid (macL x ([y].flatten)) 0 16) dq1) ^^^ ((1:UInt8) <<< UInt8.ofNat dq2)) = mid (macL x ([y].flatten)) 0 16))) (Cl_func [Slc nb4 0 16 cp1, .slice a1 n1 c1, Slc nb9 0 1 1] Tryd.call42 rfl) (fun w1 hw1 => check_c (some ⟨nb4, 0, none⟩) 16 cp1 ((mid (macL x ([y].flatten)) 0 16).set dq1 ((g8 (mid (macL x ([y].flatten)) 0 16) dq1) ^^^ ((1:UInt8) <<< UInt8.ofNat dq2))) a1 n1 c1 x nb9 1 [.slice a2 n2 c2] [y] w1 hl3 (by omega) (RdB.of hw1 (MemAt.ent 3 rfl (Seg.left (Seg.whole _))) (by simp)) hL1 (by first | exact hn1 | exact hn2) (by omega) (hr1.at (M' := []) hw1 (by simp)) (by simp) (by simp) (by simp) ⟨RdA.of hw1 (MemAt.ent 8 rfl (Seg.head)) (by simp), ⟨⟨a2, c2, congrArg (fun n => Value.slice a2 n c2) (hL2).symm, (hr2.at (M' := []) hw1 (by simp))⟩, trivial⟩⟩ (by simp only [List.flatten_cons, List.flatten_nil, List.length_append, List.length_nil, hL2]; omega) (hG.at hw1))) rfl ?_
  rintro v1 L1 ⟨rfl, rfl⟩
  show JL _ _ _ _ ((86, .bool (decide ((mid (macL x ([y].flatten)) 0 16).set dq1 ((g8 (mid (macL x ([y].flatten)) 0 16) dq1) ^^^ ((1:UInt8) <<< UInt8.ofNat dq2)) = macL x ([y].flatten)) || decide ((mid (macL x ([y].flatten)) 0 16).set dq1 ((g8 (mid (macL x ([y].flatten)) 0 16) dq1) ^^^ ((1:UInt8) <<< UInt8.ofNat dq2)) = mid (macL x ([y].flatten)) 0 16))) :: _) [⟨nb1, [.slice a2 n2 c2], 22, (0, 0)⟩, ⟨nb2, cu8 ((macL x ([y].flatten)).set dq1 ((g8 (macL x ([y].flatten)) dq1) ^^^ ((1:UInt8) <<< UInt8.ofNat dq2))), 25, (0, 0)⟩, ⟨nb3, [.slice a2 n2 c2], 22, (0, 0)⟩, ⟨nb4, cu8 ((mid (macL x ([y].flatten)) 0 16).set dq1 ((g8 (mid (macL x ([y].flatten)) 0 16) dq1) ^^^ ((1:UInt8) <<< UInt8.ofNat dq2))) ++ sp1, 5, (0, 0)⟩, ⟨nb5, [.slice a2 n2 c2], 22, (0, 0)⟩, ⟨nb6, [.slice a2 n2 c2], 22, (0, 0)⟩, ⟨nb7, [.slice a2 n2 c2], 22, (0, 0)⟩, ⟨nb8, [.slice a2 n2 c2], 22, (0, 0)⟩, ⟨nb9, [.slice a2 n2 c2], 22, (0, 0)⟩]
  refine JL_gval 6 81 true _ (.bool (!(decide ((mid (macL x ([y].flatten)) 0 16).set dq1 ((g8 (mid (macL x ([y].flatten)) 0 16) dq1) ^^^ ((1:UInt8) <<< UInt8.ofNat dq2)) = macL x ([y].flatten)) || decide ((mid (macL x ([y].flatten)) 0 16).set dq1 ((g8 (mid (macL x ([y].flatten)) 0 16) dq1) ^^^ ((1:UInt8) <<< UInt8.ofNat dq2)) = mid (macL x ([y].flatten)) 0 16)))) rfl rfl (by rw [show ((decide ((macL x ([y].flatten)).set dq1 ((g8 (macL x ([y].flatten)) dq1) ^^^ ((1:UInt8) <<< UInt8.ofNat dq2)) = macL x ([y].flatten)) || decide ((macL x ([y].flatten)).set dq1 ((g8 (macL x ([y].flatten)) dq1) ^^^ ((1:UInt8) <<< UInt8.ofNat dq2)) = mid (macL x ([y].flatten)) 0 16))) = false from (chk_flip1 (M := macL x ([y].flatten)) (macL_len _ _) (q := dq1) (r := dq2) (by omega) (by omega))]; rfl) (Ev_not rfl) rfl ?_
  refine JL_val _ (Ev_pickT _ rfl (by rw [show ((decide ((macL x ([y].flatten)).set dq1 ((g8 (macL x ([y].flatten)) dq1) ^^^ ((1:UInt8) <<< UInt8.ofNat dq2)) = macL x ([y].flatten)) || decide ((macL x ([y].flatten)).set dq1 ((g8 (macL x ([y].flatten)) dq1) ^^^ ((1:UInt8) <<< UInt8.ofNat dq2)) = mid (macL x ([y].flatten)) 0 16))) = false from (chk_flip1 (M := macL x ([y].flatten)) (macL_len _ _) (q := dq1) (r := dq2) (by omega) (by omega))]; rfl) rfl) rfl ?_
  refine JL_val _ (Ev_assign rfl) rfl ?_
  refine JL_nil ?_
  refine JQ_then ?_
  refine JC_ret ?_
  refine JQ_ret (.bool (!(decide ((mid (macL x ([y].flatten)) 0 16).set dq1 ((g8 (mid (macL x ([y].flatten)) 0 16) dq1) ^^^ ((1:UInt8) <<< UInt8.ofNat dq2)) = macL x ([y].flatten)) || decide ((mid (macL x ([y].flatten)) 0 16).set dq1 ((g8 (mid (macL x ([y].flatten)) 0 16) dq1) ^^^ ((1:UInt8) <<< UInt8.ofNat dq2)) = mid (macL x ([y].flatten)) 0 16)))) (res1 Tryd.results10 (RV_tmp rfl)) fun w1 hw1 => ?_
  exact ⟨_, [], rfl, ⟨by rw [show (!(decide ((mid (macL x ([y].flatten)) 0 16).set dq1 ((g8 (mid (macL x ([y].flatten)) 0 16) dq1) ^^^ ((1:UInt8) <<< UInt8.ofNat dq2)) = macL x ([y].flatten)) || decide ((mid (macL x ([y].flatten)) 0 16).set dq1 ((g8 (mid (macL x ([y].flatten)) 0 16) dq1) ^^^ ((1:UInt8) <<< UInt8.ofNat dq2)) = mid (macL x ([y].flatten)) 0 16))) = true from (by rw [show ((decide ((mid (macL x ([y].flatten)) 0 16).set dq1 ((g8 (mid (macL x ([y].flatten)) 0 16) dq1) ^^^ ((1:UInt8) <<< UInt8.ofNat dq2)) = macL x ([y].flatten)) || decide ((mid (macL x ([y].flatten)) 0 16).set dq1 ((g8 (mid (macL x ([y].flatten)) 0 16) dq1) ^^^ ((1:UInt8) <<< UInt8.ofNat dq2)) = mid (macL x ([y].flatten)) 0 16))) = false from (chk_flip2 (M := macL x ([y].flatten)) (macL_len _ _) (q := dq1) (r := dq2) (by omega) (by omega))]; rfl)], rfl⟩, hw1.sub (by simp) (by simp)⟩

theorem hmacTurns_w (a1 : Option Addr) (n1 c1 : Nat) (x : List UInt8) (a2 : Option Addr) (n2 c2 : Nat) (y : List UInt8) (b : Int) (w : World) (hL1 : x.length = n1) (hn1 : a1 = none → c1 = 0) (hc1 : n1 ≤ c1 ∧ c1 ≤ maxLen) (hr1 : RdB w [] a1 x) (hz1 : n1 ≤ 140737488351232) (hL2 : y.length = n2) (hn2 : a2 = none → c2 = 0) (hc2 : n2 ≤ c2 ∧ c2 ≤ maxLen) (hr2 : RdB w [] a2 y) (hz2 : n2 ≤ 140737488351232) (hb : -9223372036854775808 ≤ b ∧ b ≤ 9223372036854775807) (hG : GLs w) : Calls Tryd.prog 10 #[.slice a1 n1 c1, .slice a2 n2 c2, I64 b] w (Post w [] (fun v L => v = .bool true ∧ L = [])) := by
  by_cases hn : n1 + n2 ≤ 3000
  · exact hmacTurnsIn_c a1 n1 c1 x a2 n2 c2 y b w hL1 hn1 hc1 hr1 hz1 hL2 hn2 hc2 hr2 hz2 hb hG hn
  · exact hmacTurnsBig_c a1 n1 c1 x a2 n2 c2 y b w hL1 hn1 hc1 hr1 hz1 hL2 hn2 hc2 hr2 hz2 hb hG (by omega)

end Go.Proofs.YtncoifiafklkjaaDoor
