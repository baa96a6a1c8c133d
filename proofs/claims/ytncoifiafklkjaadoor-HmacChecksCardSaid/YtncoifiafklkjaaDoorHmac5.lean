import Derived.Test.YtncoifiafklkjaaDoorHmac4
namespace Go.Proofs.YtncoifiafklkjaaDoor
open Go Go.Sx
set_option linter.unusedVariables false
set_option linter.unusedSimpArgs false
set_option maxRecDepth 100000
attribute [local irreducible] mid zr8 zr32 rotr wordL spreadL comprL cpN adN spN wrdN constL initL padL stN outN routN hashL sumG blkL xbN raN macL orN
theorem hmacSames_w (a1 : Option Addr) (n1 c1 : Nat) (x : List UInt8) (a2 : Option Addr) (n2 c2 : Nat) (y : List UInt8) (w : World) (hL1 : x.length = n1) (hn1 : a1 = none → c1 = 0) (hc1 : n1 ≤ c1 ∧ c1 ≤ maxLen) (hr1 : RdB w [] a1 x) (hz1 : n1 ≤ 140737488351232) (hL2 : y.length = n2) (hn2 : a2 = none → c2 = 0) (hc2 : n2 ≤ c2 ∧ c2 ≤ maxLen) (hr2 : RdB w [] a2 y) (hz2 : n2 ≤ 140737488351232) (hG : GLs w) : Calls Tryd.prog 7 #[.slice a1 n1 c1, .slice a2 n2 c2] w (Post w [] (fun v L => v = .bool true ∧ L = [])) := by
  have hmx : maxLen = 9223372036854775807 := rfl
  refine enter w [] 16 [] [.slice a1 n1 c1, .slice a2 n2 c2] Tryd.func7 rfl rfl (by simp) (Hp.start (by simp) (by simp) (by simp)) ?_
  show JC _ _ _ [(0, .slice a1 n1 c1), (1, .slice a2 n2 c2)] _
  refine JC_seq ?_
  refine JC_region ?_
  refine JL_val _ (Ev_assign rfl) rfl ?_
  refine JL_nil ?_
  refine JQ_then ?_
  refine JC_seq ?_
  refine JC_seq ?_
  refine JC_region ?_
  refine JL_step (Step_callP 35 [] (.bool true) (Cl_func [] Tryd.call35 rfl) (fun w1 hw1 => alive3_c  w1 (hG.at hw1))) rfl ?_
  rintro v1 L1 ⟨rfl, rfl⟩
  show JL _ _ _ _ ((5, .bool true) :: _) []
  refine JL_val (.bool (!true)) (Ev_not rfl) rfl ?_
  refine JL_nil ?_
  refine JQ_then ?_
  refine JC_condF _ rfl rfl ?_
  refine JC_skip ?_
  refine JQ_then ?_
  refine JC_seq ?_
  refine JC_draw 16 2 [(0, .slice a1 n1 c1), (1, .slice a2 n2 c2), (3, .slice a1 n1 c1), (4, .string (⟨x.toArray⟩ : ByteArray)), (5, .slice a2 n2 c2), (6, .string (⟨y.toArray⟩ : ByteArray)), (7, .bool (decide (x = y)))] Tryd.mixed rfl (by decide +kernel) ?_
  refine DP_one ⟨[], [0, 1, 3, 4, 5, 6, 7], [], [0, 1, 3, 4, 5, 6, 7], [2]⟩ 2 _ rfl rfl (by decide +kernel) rfl ⟨⟨_, rfl, Qok_val rfl (Ev_move rfl)⟩, ⟨_, rfl, Qok_val rfl (Ev_move rfl)⟩, ⟨_, rfl, Qok_val rfl (Ev_move rfl)⟩, ⟨_, rfl, Qok_val rfl (Ev_toStr 5 a1 n1 c1 x Tryd.underlying22 Tryd.underlying5 Tryd.underlying9 rfl (by simp [hL1]; try omega) (hr1.src))⟩, ⟨_, rfl, Qok_val rfl (Ev_move rfl)⟩, ⟨_, rfl, Qok_val rfl (Ev_toStr 5 a2 n2 c2 y Tryd.underlying22 Tryd.underlying5 Tryd.underlying9 rfl (by simp [hL2]; try omega) (hr2.src))⟩, ⟨_, rfl, Qok_val rfl (Ev_bin _ _ _ rfl rfl (fun _ => eqGuard_str ..) fun _ => eql_str)⟩, trivial⟩ rfl (Cok_step rfl (Step_callP 36 [.slice a1 n1 c1, .slice a2 n2 c2] (.bool (decide (x = y))) (Cl_func [.slice a1 n1 c1, .slice a2 n2 c2] Tryd.call36 rfl) (fun w1 hw1 => same_c a1 a2 n1 n2 c1 c2 x y w1 hL1 hL2 (hr1.at (M' := []) hw1 (by simp)) (hr2.at (M' := []) hw1 (by simp)) (by omega) (by omega)))) ?_
  rintro v1 L1 ⟨rfl, rfl⟩
  refine ⟨[(8, .bool ((decide (x = y)) == (decide (x = y)))), (9, .bool ((decide (x = y)) == (decide (x = y))))], ?_⟩
  show DP _ _ _ _ _ _ _ _ []
  refine DP_end ⟨[2], [0, 1, 3, 4, 5, 6, 7, 8, 9], [0, 1], [3, 4, 5, 6, 7, 8, 9], []⟩ rfl rfl (by decide +kernel) rfl ⟨⟨_, rfl, Qok_val rfl (Ev_move rfl)⟩, ⟨_, rfl, Qok_val rfl (Ev_toStr 5 a1 n1 c1 x Tryd.underlying22 Tryd.underlying5 Tryd.underlying9 rfl (by simp [hL1]; try omega) (hr1.src))⟩, ⟨_, rfl, Qok_val rfl (Ev_move rfl)⟩, ⟨_, rfl, Qok_val rfl (Ev_toStr 5 a2 n2 c2 y Tryd.underlying22 Tryd.underlying5 Tryd.underlying9 rfl (by simp [hL2]; try omega) (hr2.src))⟩, ⟨_, rfl, Qok_val rfl (Ev_bin _ _ _ rfl rfl (fun _ => eqGuard_str ..) fun _ => eql_str)⟩, ⟨_, rfl, Qok_val rfl (Ev_bin _ _ _ rfl rfl (fun _ => eqGuard_bool ..) fun _ => eql_bool Tryd.underlying4)⟩, ⟨_, rfl, Qok_val rfl (Ev_assign rfl)⟩, trivial⟩ ?_
  refine K_sub (F' := [(4, .bool ((decide (x = y)) == (decide (x = y))))]) (Sub.cons (by kernel_rfl) (Sub.nil)) ?_
  show JQ _ _ _ [(4, .bool ((decide (x = y)) == (decide (x = y))))] _
  refine JQ_then ?_
  refine JC_ret ?_
  refine JQ_ret (.bool ((decide (x = y)) == (decide (x = y)))) (res1 Tryd.results7 (RV_tmp rfl)) fun w1 hw1 => ?_
  exact ⟨_, [], rfl, ⟨by rw [show ((decide (x = y)) == (decide (x = y))) = true from (beq_self_eq_true _)], rfl⟩, hw1.sub (by simp) (by simp)⟩

theorem hmacMacsBig_c (a1 : Option Addr) (n1 c1 : Nat) (x : List UInt8) (a2 : Option Addr) (n2 c2 : Nat) (y : List UInt8) (a3 : Option Addr) (n3 c3 : Nat) (z : List UInt8) (w : World) (hL1 : x.length = n1) (hn1 : a1 = none → c1 = 0) (hc1 : n1 ≤ c1 ∧ c1 ≤ maxLen) (hr1 : RdB w [] a1 x) (hz1 : n1 ≤ 140737488351232) (hL2 : y.length = n2) (hn2 : a2 = none → c2 = 0) (hc2 : n2 ≤ c2 ∧ c2 ≤ maxLen) (hr2 : RdB w [] a2 y) (hz2 : n2 ≤ 140737488351232) (hL3 : z.length = n3) (hn3 : a3 = none → c3 = 0) (hc3 : n3 ≤ c3 ∧ c3 ≤ maxLen) (hr3 : RdB w [] a3 z) (hz3 : n3 ≤ 140737488351232) (hG : GLs w) (hGr : GLr w) (hGi : GLi w) (hn : 3000 < n1 + n2 + n3) : Calls Tryd.prog 8 #[.slice a1 n1 c1, .slice a2 n2 c2, .slice a3 n3 c3] w (Post w [] (fun v L => v = .bool true ∧ L = [])) := by
  have hmx : maxLen = 9223372036854775807 := rfl
  refine enter w [] 51 [] [.slice a1 n1 c1, .slice a2 n2 c2, .slice a3 n3 c3] Tryd.func8 rfl rfl (by simp) (Hp.start (by simp) (by simp) (by simp)) ?_
  show JC _ _ _ [(0, .slice a1 n1 c1), (1, .slice a2 n2 c2), (2, .slice a3 n3 c3)] _
  refine JC_seq ?_
  refine JC_region ?_
  refine JL_val _ (Ev_assign rfl) rfl ?_
  refine JL_nil ?_
  refine JQ_then ?_
  refine JC_seq ?_
  refine JC_seq ?_
  refine JC_region ?_
  refine JL_step (Step_callP 35 [] (.bool true) (Cl_func [] Tryd.call35 rfl) (fun w1 hw1 => alive3_c  w1 (hG.at hw1))) rfl ?_
  rintro v1 L1 ⟨rfl, rfl⟩
  show JL _ _ _ _ ((9, .bool true) :: _) []
  refine JL_val (.bool (!true)) (Ev_not rfl) rfl ?_
  refine JL_nil ?_
  refine JQ_then ?_
  refine JC_condF _ rfl rfl ?_
  refine JC_skip ?_
  refine JQ_then ?_
  refine JC_seq ?_
  refine JC_seq ?_
  refine JC_region ?_
  refine JL_val _ (Ev_move rfl) rfl ?_
  refine JL_val (I64 ((n1:Int))) (Ev_len Tryd.underlying22 rfl) rfl ?_
  refine JL_val _ (Ev_move rfl) rfl ?_
  refine JL_val (I64 ((n2:Int))) (Ev_len Tryd.underlying22 rfl) rfl ?_
  refine JL_val (I64 ((n1:Int) + (n2:Int))) (Ev_bini rfl rfl fun _ => bin_add_i _ _ ((n1:Int) + (n2:Int)) (by omega) (by omega)) rfl ?_
  refine JL_val _ (Ev_move rfl) rfl ?_
  refine JL_val (I64 ((n3:Int))) (Ev_len Tryd.underlying22 rfl) rfl ?_
  refine JL_val (I64 ((n1:Int) + (n2:Int) + (n3:Int))) (Ev_bini rfl rfl fun _ => bin_add_i _ _ ((n1:Int) + (n2:Int) + (n3:Int)) (by omega) (by omega)) rfl ?_
  refine JL_val (.bool (decide ((3000:Int) < ((n1:Int) + (n2:Int) + (n3:Int))))) (Ev_bini rfl rfl fun _ => bin_gtr_i _ _) rfl ?_
  refine JL_nil ?_
  refine JQ_then ?_
  refine JC_condT _ rfl (decide_eq_true (by omega)) ?_
  refine JC_seq ?_
  refine JC_region ?_
  refine JL_val _ (Ev_assign rfl) rfl ?_
  refine JL_nil ?_
  refine JQ_then ?_
  refine JC_ret ?_
  refine JQ_then_ret ?_
  refine JQ_ret (.bool true) (res1 Tryd.results8 (RV_tmp rfl)) fun w1 hw1 => ?_
  exact ⟨_, [], rfl, ⟨by rw [show (true) = true from rfl], rfl⟩, hw1.sub (by simp) (by simp)⟩

theorem hmacMacsIn_c (a1 : Option Addr) (n1 c1 : Nat) (x : List UInt8) (a2 : Option Addr) (n2 c2 : Nat) (y : List UInt8) (a3 : Option Addr) (n3 c3 : Nat) (z : List UInt8) (w : World) (hL1 : x.length = n1) (hn1 : a1 = none → c1 = 0) (hc1 : n1 ≤ c1 ∧ c1 ≤ maxLen) (hr1 : RdB w [] a1 x) (hz1 : n1 ≤ 140737488351232) (hL2 : y.length = n2) (hn2 : a2 = none → c2 = 0) (hc2 : n2 ≤ c2 ∧ c2 ≤ maxLen) (hr2 : RdB w [] a2 y) (hz2 : n2 ≤ 140737488351232) (hL3 : z.length = n3) (hn3 : a3 = none → c3 = 0) (hc3 : n3 ≤ c3 ∧ c3 ≤ maxLen) (hr3 : RdB w [] a3 z) (hz3 : n3 ≤ 140737488351232) (hG : GLs w) (hGr : GLr w) (hGi : GLi w) (hn : n1 + n2 + n3 ≤ 3000) : Calls Tryd.prog 8 #[.slice a1 n1 c1, .slice a2 n2 c2, .slice a3 n3 c3] w (Post w [] (fun v L => v = .bool true ∧ L = [])) := by
  have hmx : maxLen = 9223372036854775807 := rfl
  refine enter w [] 51 [] [.slice a1 n1 c1, .slice a2 n2 c2, .slice a3 n3 c3] Tryd.func8 rfl rfl (by simp) (Hp.start (by simp) (by simp) (by simp)) ?_
  show JC _ _ _ [(0, .slice a1 n1 c1), (1, .slice a2 n2 c2), (2, .slice a3 n3 c3)] _
  refine JC_seq ?_
  refine JC_region ?_
  refine JL_val _ (Ev_assign rfl) rfl ?_
  refine JL_nil ?_
  refine JQ_then ?_
  refine JC_seq ?_
  refine JC_seq ?_
  refine JC_region ?_
  refine JL_step (Step_callP 35 [] (.bool true) (Cl_func [] Tryd.call35 rfl) (fun w1 hw1 => alive3_c  w1 (hG.at hw1))) rfl ?_
  rintro v1 L1 ⟨rfl, rfl⟩
  show JL _ _ _ _ ((9, .bool true) :: _) []
  refine JL_val (.bool (!true)) (Ev_not rfl) rfl ?_
  refine JL_nil ?_
  refine JQ_then ?_
  refine JC_condF _ rfl rfl ?_
  refine JC_skip ?_
  refine JQ_then ?_
  refine JC_seq ?_
  refine JC_seq ?_
  refine JC_region ?_
  refine JL_val _ (Ev_move rfl) rfl ?_
  refine JL_val (I64 ((n1:Int))) (Ev_len Tryd.underlying22 rfl) rfl ?_
  refine JL_val _ (Ev_move rfl) rfl ?_
  refine JL_val (I64 ((n2:Int))) (Ev_len Tryd.underlying22 rfl) rfl ?_
  refine JL_val (I64 ((n1:Int) + (n2:Int))) (Ev_bini rfl rfl fun _ => bin_add_i _ _ ((n1:Int) + (n2:Int)) (by omega) (by omega)) rfl ?_
  refine JL_val _ (Ev_move rfl) rfl ?_
  refine JL_val (I64 ((n3:Int))) (Ev_len Tryd.underlying22 rfl) rfl ?_
  refine JL_val (I64 ((n1:Int) + (n2:Int) + (n3:Int))) (Ev_bini rfl rfl fun _ => bin_add_i _ _ ((n1:Int) + (n2:Int) + (n3:Int)) (by omega) (by omega)) rfl ?_
  refine JL_val (.bool (decide ((3000:Int) < ((n1:Int) + (n2:Int) + (n3:Int))))) (Ev_bini rfl rfl fun _ => bin_gtr_i _ _) rfl ?_
  refine JL_nil ?_
  refine JQ_then ?_
  refine JC_condF _ rfl (decide_eq_false (by omega)) ?_
  refine JC_skip ?_
  refine JQ_then ?_
  refine JC_seq ?_
  refine JC_region ?_
  refine JL_val _ (Ev_move rfl) rfl ?_
  refine JL_step (Step_buildSlice0 5 1 Tryd.underlying22 Tryd.sizeOf5) rfl ?_
  rintro v1 L1 ⟨nb1, hnb1, rfl, rfl⟩
  show JL _ _ _ _ ((21, Slc nb1 0 0 0) :: _) [⟨nb1, [], 5, (0, 0)⟩]
  refine JL_val _ (Ev_move rfl) rfl ?_
  refine JL_step (Step_appM8 22 5 [true] (Slc nb1 0 0 0) 0 ([] : List UInt8) y a2 n2 c2 n2 Tryd.underlying22 Tryd.info5 rfl (.inr ⟨nb1, [], 0, rfl, (by simp [take?, cu8, cu32, cu64]), rfl, (by simp), (by omega), (by unfold maxLen; omega)⟩) rfl (by simp [hL2]; try omega) (hr2.src) (by omega) (by unfold maxLen; omega) (by omega)) rfl ?_
  rintro v1 L1 ⟨nb2, sp1, cp1, hg1, rfl, rfl, ha1, ha2, ha3, ha4⟩
  show JL _ _ _ _ ((23, Slc nb2 0 n2 cp1) :: _) [⟨nb2, cu8 (([] : List UInt8) ++ y) ++ sp1, 5, (0, 0)⟩]
  refine JL_val _ (Ev_move rfl) rfl ?_
  refine JL_step (Step_appM8 22 5 [true] (Slc nb2 0 n2 cp1) n2 (([] : List UInt8) ++ y) z a3 n3 c3 (n2 + n3) Tryd.underlying22 Tryd.info5 rfl (.inr ⟨nb2, sp1, cp1, rfl, rfl, (by first | exact ha1 | simp [ha1]), ha2, (by omega), (by omega)⟩) rfl (by simp [hL3]; try omega) (hr3.src) (by omega) (by unfold maxLen; omega) (by omega)) rfl ?_
  rintro v1 L1 ⟨nb3, sp2, cp2, hg2, rfl, rfl, ha5, ha6, ha7, ha8⟩
  show JL _ _ _ _ ((25, Slc nb3 0 (n2 + n3) cp2) :: _) [⟨nb3, cu8 ((([] : List UInt8) ++ y) ++ z) ++ sp2, 5, (0, 0)⟩]
  refine JL_step (Step_callP 37 [.slice a1 n1 c1, Slc nb3 0 (n2 + n3) cp2] (.agg (cu8 (macL x ((([] : List UInt8) ++ y) ++ z))).toArray) (Cl_func [.slice a1 n1 c1, Slc nb3 0 (n2 + n3) cp2] Tryd.call37 rfl) (fun w1 hw1 => rmac_c a1 n1 c1 x (some ⟨nb3, 0, none⟩) (n2 + n3) cp2 ((([] : List UInt8) ++ y) ++ z) w1 hL1 (by first | exact hn1 | exact hn2 | exact hn3) (by omega) (hr1.at (M' := []) hw1 (by simp)) ha5 (by omega) (RdB.of hw1 (MemAt.ent 0 rfl (Seg.left (Seg.whole _))) (by simp)) (GLr.at hw1 hGr) (GLi.at hw1 hGi))) rfl ?_
  rintro v1 L1 ⟨rfl, rfl⟩
  show JL _ _ _ _ ((26, .agg (cu8 (macL x ((([] : List UInt8) ++ y) ++ z))).toArray) :: _) [⟨nb3, cu8 ((([] : List UInt8) ++ y) ++ z) ++ sp2, 5, (0, 0)⟩]
  refine JL_step (Step_alloc _ (cu8 (zr8 32)) Tryd.zeroValue25 (by kernel_rfl)) rfl ?_
  rintro v1 L1 ⟨nb4, hnb4, rfl, rfl⟩
  show JL _ _ _ _ ((7, Ptr nb4 0) :: _) [⟨nb3, cu8 ((([] : List UInt8) ++ y) ++ z) ++ sp2, 5, (0, 0)⟩, ⟨nb4, cu8 (zr8 32), 25, (0, 0)⟩]
  refine JL_step (Step_store 1 nb4 0 32 (cu8 (zr8 32)) 25 (.agg (cu8 (macL x ((([] : List UInt8) ++ y) ++ z))).toArray) (cu8 (macL x ((([] : List UInt8) ++ y) ++ z))) (cu8 (macL x ((([] : List UInt8) ++ y) ++ z))) rfl rfl rfl (by first | rfl | simp) Tryd.sizeOf25 (len_cu8 (macL_len _ _)) (by first | exact one_u8 | exact one_u32 | exact one_u64 | (simp [cu8, cu32, cu64, Value.oneCell']; done)) (by simp [(zr8_len 32)]) (lay_whole (by simp [(zr8_len 32), (macL_len _ _)]))) rfl ?_
  rintro v1 L1 ⟨rfl, rfl⟩
  show JL _ _ _ _ _ [⟨nb3, cu8 ((([] : List UInt8) ++ y) ++ z) ++ sp2, 5, (0, 0)⟩, ⟨nb4, cu8 (macL x ((([] : List UInt8) ++ y) ++ z)), 25, (0, 0)⟩]
  refine JL_nil ?_
  refine JQ_then ?_
  refine JC_seq ?_
  refine JC_region ?_
  refine JL_val _ (Ev_move rfl) rfl ?_
  refine JL_step (Step_callP 38 [.slice a1 n1 c1] (.agg (cu8 (blkL x)).toArray) (Cl_func [.slice a1 n1 c1] Tryd.call38 rfl) (fun w1 hw1 => block_c a1 n1 c1 x w1 hL1 (by first | exact hn1 | exact hn2 | exact hn3) (by omega) (hr1.at (M' := []) hw1 (by simp)) (hG.at hw1))) rfl ?_
  rintro v1 L1 ⟨rfl, rfl⟩
  show JL _ _ _ _ ((28, .agg (cu8 (blkL x)).toArray) :: _) [⟨nb3, cu8 ((([] : List UInt8) ++ y) ++ z) ++ sp2, 5, (0, 0)⟩, ⟨nb4, cu8 (macL x ((([] : List UInt8) ++ y) ++ z)), 25, (0, 0)⟩]
  refine JL_step (Step_alloc _ (cu8 (zr8 64)) Tryd.zeroValue32 (by kernel_rfl)) rfl ?_
  rintro v1 L1 ⟨nb5, hnb5, rfl, rfl⟩
  show JL _ _ _ _ ((8, Ptr nb5 0) :: _) [⟨nb3, cu8 ((([] : List UInt8) ++ y) ++ z) ++ sp2, 5, (0, 0)⟩, ⟨nb4, cu8 (macL x ((([] : List UInt8) ++ y) ++ z)), 25, (0, 0)⟩, ⟨nb5, cu8 (zr8 64), 32, (0, 0)⟩]
  refine JL_step (Step_store 2 nb5 0 64 (cu8 (zr8 64)) 32 (.agg (cu8 (blkL x)).toArray) (cu8 (blkL x)) (cu8 (blkL x)) rfl rfl rfl (by first | rfl | simp) Tryd.sizeOf32 (len_cu8 (blkL_len _)) (by first | exact one_u8 | exact one_u32 | exact one_u64 | (simp [cu8, cu32, cu64, Value.oneCell']; done)) (by simp [(zr8_len 64)]) (lay_whole (by simp [(zr8_len 64), (blkL_len _)]))) rfl ?_
  rintro v1 L1 ⟨rfl, rfl⟩
  show JL _ _ _ _ _ [⟨nb3, cu8 ((([] : List UInt8) ++ y) ++ z) ++ sp2, 5, (0, 0)⟩, ⟨nb4, cu8 (macL x ((([] : List UInt8) ++ y) ++ z)), 25, (0, 0)⟩, ⟨nb5, cu8 (blkL x), 32, (0, 0)⟩]
  refine JL_nil ?_
  refine JQ_then ?_
  refine JC_seq ?_
  refine JC_draw 51 8 [(0, .slice a1 n1 c1), (1, .slice a2 n2 c2), (2, .slice a3 n3 c3), (5, .agg (cu8 (macL x ((([] : List UInt8) ++ y) ++ z))).toArray)] Tryd.mixed rfl (by decide +kernel) ?_
  refine DP_one ⟨[], [0, 1, 2, 5], [], [0, 1, 2, 5], [3]⟩ 3 _ rfl rfl (by decide +kernel) rfl ⟨⟨_, rfl, Qok_val rfl (Ev_move rfl)⟩, ⟨_, rfl, Qok_val rfl (Ev_move rfl)⟩, ⟨_, rfl, Qok_val rfl (Ev_move rfl)⟩, ⟨_, rfl, Qok_val rfl (Ev_load rfl (Ld_agg Tryd.isAgg25 Tryd.sizeOf25 (len_cu8 (macL_len _ _)) (MemAt.ent 1 rfl (Seg.whole _))))⟩, trivial⟩ rfl (Cok_step rfl (Step_buildSlice 22 1 _ [(0, .slice a2 n2 c2), (1, .slice a3 n3 c3)] ([.slice a2 n2 c2, .slice a3 n3 c3]) Tryd.underlying125 Tryd.sizeOf22 Tryd.zeroValue22 rfl rfl rfl (by kernel_rfl))) ?_
  rintro v1 L1 ⟨nb6, hnb6, rfl, rfl⟩
  refine ⟨[], ?_⟩
  show DP _ _ _ _ _ _ _ _ [⟨nb3, cu8 ((([] : List UInt8) ++ y) ++ z) ++ sp2, 5, (0, 0)⟩, ⟨nb4, cu8 (macL x ((([] : List UInt8) ++ y) ++ z)), 25, (0, 0)⟩, ⟨nb5, cu8 (blkL x), 32, (0, 0)⟩, ⟨nb6, [.slice a2 n2 c2, .slice a3 n3 c3], 22, (0, 0)⟩]
  refine DP_one ⟨[3], [0, 1, 2, 5], [1, 2], [0, 5], [4]⟩ 4 _ rfl rfl (by decide +kernel) rfl ⟨⟨_, rfl, Qok_val rfl (Ev_move rfl)⟩, ⟨_, rfl, Qok_val rfl (Ev_load rfl (Ld_agg Tryd.isAgg25 Tryd.sizeOf25 (len_cu8 (macL_len _ _)) (MemAt.ent 1 rfl (Seg.whole _))))⟩, trivial⟩ rfl (Cok_step rfl (Step_callP 39 [.slice a1 n1 c1, Slc nb6 0 2 2] (.agg (cu8 (macL x ([y, z].flatten))).toArray) (Cl_func [.slice a1 n1 c1, Slc nb6 0 2 2] Tryd.call39 rfl) (fun w1 hw1 => mac_c a1 n1 c1 x nb6 2 [.slice a2 n2 c2, .slice a3 n3 c3] [y, z] w1 hL1 (by first | exact hn1 | exact hn2 | exact hn3) (by omega) (hr1.at (M' := []) hw1 (by simp)) (by simp) (by simp) (by simp) ⟨RdA.of hw1 (MemAt.ent 3 rfl (Seg.whole _)) (by simp), ⟨⟨a2, c2, congrArg (fun n => Value.slice a2 n c2) (hL2).symm, (hr2.at (M' := []) hw1 (by simp))⟩, ⟨⟨a3, c3, congrArg (fun n => Value.slice a3 n c3) (hL3).symm, (hr3.at (M' := []) hw1 (by simp))⟩, trivial⟩⟩⟩ (by simp only [List.flatten_cons, List.flatten_nil, List.length_append, List.length_nil, hL2, hL3]; omega) (hG.at hw1)))) ?_
  rintro v1 L1 ⟨rfl, rfl⟩
  refine ⟨[(6, .bool (decide ((macL x ([y, z].flatten)) = (macL x ((([] : List UInt8) ++ y) ++ z))))), (7, .bool (decide ((macL x ([y, z].flatten)) = (macL x ((([] : List UInt8) ++ y) ++ z))))), (8, .slice a1 n1 c1), (9, .slice a2 n2 c2), (10, .slice a3 n3 c3), (13, Slc nb4 0 16 32)], ?_⟩
  show DP _ _ _ _ _ _ _ _ [⟨nb3, cu8 ((([] : List UInt8) ++ y) ++ z) ++ sp2, 5, (0, 0)⟩, ⟨nb4, cu8 (macL x ((([] : List UInt8) ++ y) ++ z)), 25, (0, 0)⟩, ⟨nb5, cu8 (blkL x), 32, (0, 0)⟩, ⟨nb6, [.slice a2 n2 c2, .slice a3 n3 c3], 22, (0, 0)⟩]
  refine DP_one ⟨[3, 4], [0, 1, 2, 5, 6, 7, 8, 9, 10, 13], [0, 1, 2], [5, 6, 7, 8, 9, 10, 13], [11]⟩ 11 _ rfl rfl (by decide +kernel) rfl ⟨⟨_, rfl, Qok_val rfl (Ev_load rfl (Ld_agg Tryd.isAgg25 Tryd.sizeOf25 (len_cu8 (macL_len _ _)) (MemAt.ent 1 rfl (Seg.whole _))))⟩, ⟨_, rfl, Qok_val rfl (Ev_bin _ _ _ rfl rfl (fun _ => eqGuard_agg _ _ _ _ _ _ (by kernel_rfl)) fun _ => eql_arr8 Tryd.underlying25 Tryd.underlying5 Tryd.isAgg5 Tryd.cells5 Tryd.has5 (by simp [(macL_len _ _)]) (by simp [(macL_len _ _)]))⟩, ⟨_, rfl, Qok_val rfl (Ev_move rfl)⟩, ⟨_, rfl, Qok_gval 7 36 true _ rfl rfl rfl (decide_eq_true ((by simp))) (Ev_move rfl)⟩, ⟨_, rfl, Qok_gval 7 36 true _ rfl rfl rfl (decide_eq_true ((by simp))) (Ev_move rfl)⟩, ⟨_, rfl, Qok_gval 7 36 true _ rfl rfl rfl (decide_eq_true ((by simp))) (Ev_move rfl)⟩, ⟨_, rfl, Qok_gval 7 36 true _ rfl rfl rfl (decide_eq_true ((by simp))) (Ev_sliceA 32 5 1 0 16 0 32 Tryd.underlying25 Tryd.sizeOf5 rfl rfl rfl (by omega) (by omega) (by omega) (by omega) (by omega) 16 (by omega))⟩, trivial⟩ rfl (Cok_gstep 7 36 true _ rfl rfl rfl (decide_eq_true ((by simp))) (Step_buildSlice 22 1 _ [(0, .slice a2 n2 c2), (1, .slice a3 n3 c3)] ([.slice a2 n2 c2, .slice a3 n3 c3]) Tryd.underlying125 Tryd.sizeOf22 Tryd.zeroValue22 rfl rfl rfl (by kernel_rfl))) ?_
  rintro v1 L1 ⟨nb7, hnb7, rfl, rfl⟩
  refine ⟨[], ?_⟩
  show DP _ _ _ _ _ _ _ _ [⟨nb3, cu8 ((([] : List UInt8) ++ y) ++ z) ++ sp2, 5, (0, 0)⟩, ⟨nb4, cu8 (macL x ((([] : List UInt8) ++ y) ++ z)), 25, (0, 0)⟩, ⟨nb5, cu8 (blkL x), 32, (0, 0)⟩, ⟨nb6, [.slice a2 n2 c2, .slice a3 n3 c3], 22, (0, 0)⟩, ⟨nb7, [.slice a2 n2 c2, .slice a3 n3 c3], 22, (0, 0)⟩]
  refine DP_one ⟨[3, 4, 11], [0, 1, 2, 5, 6, 7, 8, 9, 10, 13], [0, 1, 2, 5, 6, 7, 9, 10], [8, 13], [12]⟩ 12 _ rfl rfl (by decide +kernel) rfl ⟨⟨_, rfl, Qok_gval 7 36 true _ rfl rfl rfl (decide_eq_true ((by simp))) (Ev_move rfl)⟩, ⟨_, rfl, Qok_gval 7 36 true _ rfl rfl rfl (decide_eq_true ((by simp))) (Ev_sliceA 32 5 1 0 16 0 32 Tryd.underlying25 Tryd.sizeOf5 rfl rfl rfl (by omega) (by omega) (by omega) (by omega) (by omega) 16 (by omega))⟩, trivial⟩ rfl (Cok_gstep 7 36 true _ rfl rfl rfl (decide_eq_true ((by simp))) (Step_callN 40 [.slice a1 n1 c1, Slc nb7 0 2 2] _ (Cl_func [.slice a1 n1 c1, Slc nb7 0 2 2] Tryd.call40 rfl) (fun w1 hw1 => short_c a1 n1 c1 x nb7 2 [.slice a2 n2 c2, .slice a3 n3 c3] [y, z] w1 hL1 (by first | exact hn1 | exact hn2 | exact hn3) (by omega) (hr1.at (M' := []) hw1 (by simp)) (by simp) (by simp) (by simp) ⟨RdA.of hw1 (MemAt.ent 4 rfl (Seg.whole _)) (by simp), ⟨⟨a2, c2, congrArg (fun n => Value.slice a2 n c2) (hL2).symm, (hr2.at (M' := []) hw1 (by simp))⟩, ⟨⟨a3, c3, congrArg (fun n => Value.slice a3 n c3) (hL3).symm, (hr3.at (M' := []) hw1 (by simp))⟩, trivial⟩⟩⟩ (by simp only [List.flatten_cons, List.flatten_nil, List.length_append, List.length_nil, hL2, hL3]; omega) (hG.at hw1)))) ?_
  rintro v1 L1 ⟨_, ⟨nb8, sp3, cp3, rfl, rfl, hc1, hc2, hc3⟩, rfl⟩
  refine ⟨[], ?_⟩
  show DP _ _ _ _ _ _ _ _ [⟨nb3, cu8 ((([] : List UInt8) ++ y) ++ z) ++ sp2, 5, (0, 0)⟩, ⟨nb4, cu8 (macL x ((([] : List UInt8) ++ y) ++ z)), 25, (0, 0)⟩, ⟨nb5, cu8 (blkL x), 32, (0, 0)⟩, ⟨nb6, [.slice a2 n2 c2, .slice a3 n3 c3], 22, (0, 0)⟩, ⟨nb7, [.slice a2 n2 c2, .slice a3 n3 c3], 22, (0, 0)⟩, ⟨nb8, cu8 (mid (macL x ([y, z].flatten)) 0 16) ++ sp3, 5, (0, 0)⟩]
  have hl1 : (mid (macL x ((([] : List UInt8) ++ y) ++ z)) 0 16).length = 16 := mid_len (by rw [(macL_len _ _)]; omega)
  refine DP_one ⟨[3, 4, 11, 12], [0, 1, 2, 5, 6, 7, 8, 9, 10, 13], [0, 1, 2, 5, 6, 7, 8, 9, 10], [13], [14]⟩ 14 _ rfl rfl (by decide +kernel) rfl ⟨⟨_, rfl, Qok_gval 7 36 true _ rfl rfl rfl (decide_eq_true ((by simp))) (Ev_sliceA 32 5 1 0 16 0 32 Tryd.underlying25 Tryd.sizeOf5 rfl rfl rfl (by omega) (by omega) (by omega) (by omega) (by omega) 16 (by omega))⟩, trivial⟩ rfl (Cok_gstep 7 36 true _ rfl rfl rfl (decide_eq_true ((by simp))) (Step_callP 25 [Slc nb8 0 16 cp3, Slc nb4 0 16 32] (.bool (decide ((mid (macL x ([y, z].flatten)) 0 16) = (mid (macL x ((([] : List UInt8) ++ y) ++ z)) 0 16)))) (Cl_func [Slc nb8 0 16 cp3, Slc nb4 0 16 32] Tryd.call25 rfl) (fun w1 hw1 => bytes_c (some ⟨nb8, 0, none⟩) (some ⟨nb4, 0, none⟩) 16 16 cp3 32 (mid (macL x ([y, z].flatten)) 0 16) (mid (macL x ((([] : List UInt8) ++ y) ++ z)) 0 16) w1 (mid_len (by rw [macL_len]; omega)) hl1 (RdB.of hw1 (MemAt.ent 5 rfl (Seg.left (Seg.whole _))) (by simp)) (RdB.of hw1 (MemAt.ent 1 rfl (segm_u8 0 16 (by rw [(macL_len _ _)]; omega))) (by simp))))) ?_
  rintro v1 L1 ⟨rfl, rfl⟩
  refine ⟨[(15, .bool (decide ((mid (macL x ([y, z].flatten)) 0 16) = (mid (macL x ((([] : List UInt8) ++ y) ++ z)) 0 16)))), (16, .bool (decide ((mid (macL x ([y, z].flatten)) 0 16) = (mid (macL x ((([] : List UInt8) ++ y) ++ z)) 0 16)))), (17, Slc nb5 0 64 64), (18, .slice a1 n1 c1)], ?_⟩
  show DP _ _ _ _ _ _ _ _ [⟨nb3, cu8 ((([] : List UInt8) ++ y) ++ z) ++ sp2, 5, (0, 0)⟩, ⟨nb4, cu8 (macL x ((([] : List UInt8) ++ y) ++ z)), 25, (0, 0)⟩, ⟨nb5, cu8 (blkL x), 32, (0, 0)⟩, ⟨nb6, [.slice a2 n2 c2, .slice a3 n3 c3], 22, (0, 0)⟩, ⟨nb7, [.slice a2 n2 c2, .slice a3 n3 c3], 22, (0, 0)⟩, ⟨nb8, cu8 (mid (macL x ([y, z].flatten)) 0 16) ++ sp3, 5, (0, 0)⟩]
  refine DP_one ⟨[3, 4, 11, 12, 14], [0, 1, 2, 5, 6, 7, 8, 9, 10, 13, 15, 16, 17, 18], [0, 1, 2, 5, 6, 7, 8, 9, 10, 13], [15, 16, 17, 18], [19]⟩ 19 _ rfl rfl (by decide +kernel) rfl ⟨⟨_, rfl, Qok_val rfl (Ev_pickT _ rfl (decide_eq_true ((by simp))) rfl)⟩, ⟨_, rfl, Qok_val rfl (Ev_move rfl)⟩, ⟨_, rfl, Qok_gval 16 45 true _ rfl rfl rfl (decide_eq_true ((by simp))) (Ev_sliceA 64 5 1 0 64 0 64 Tryd.underlying32 Tryd.sizeOf5 rfl rfl rfl (by omega) (by omega) (by omega) (by omega) (by omega) 64 (by omega))⟩, ⟨_, rfl, Qok_gval 16 45 true _ rfl rfl rfl (decide_eq_true ((by simp))) (Ev_move rfl)⟩, trivial⟩ rfl (Cok_gstep 16 45 true _ rfl rfl rfl (decide_eq_true ((by simp))) (Step_callN 41 [.slice a1 n1 c1] _ (Cl_func [.slice a1 n1 c1] Tryd.call41 rfl) (fun w1 hw1 => rblock_w a1 n1 c1 x w1 hL1 (by first | exact hn1 | exact hn2 | exact hn3) (hr1.at (M' := []) hw1 (by simp)) (GLr.at hw1 hGr) (GLi.at hw1 hGi) (by omega)))) ?_
  rintro v1 L1 ⟨_, ⟨nb9, sp4, cp4, rfl, rfl, hc4, hc5, hc6⟩, rfl⟩
  refine ⟨[], ?_⟩
  show DP _ _ _ _ _ _ _ _ [⟨nb3, cu8 ((([] : List UInt8) ++ y) ++ z) ++ sp2, 5, (0, 0)⟩, ⟨nb4, cu8 (macL x ((([] : List UInt8) ++ y) ++ z)), 25, (0, 0)⟩, ⟨nb5, cu8 (blkL x), 32, (0, 0)⟩, ⟨nb6, [.slice a2 n2 c2, .slice a3 n3 c3], 22, (0, 0)⟩, ⟨nb7, [.slice a2 n2 c2, .slice a3 n3 c3], 22, (0, 0)⟩, ⟨nb8, cu8 (mid (macL x ([y, z].flatten)) 0 16) ++ sp3, 5, (0, 0)⟩, ⟨nb9, cu8 (blkL x) ++ sp4, 5, (0, 0)⟩]
  refine DP_one ⟨[3, 4, 11, 12, 14, 19], [0, 1, 2, 5, 6, 7, 8, 9, 10, 13, 15, 16, 17, 18], [0, 1, 2, 5, 6, 7, 8, 9, 10, 13, 15, 16, 18], [17], [20]⟩ 20 _ rfl rfl (by decide +kernel) rfl ⟨⟨_, rfl, Qok_gval 16 45 true _ rfl rfl rfl (decide_eq_true ((by simp))) (Ev_sliceA 64 5 1 0 64 0 64 Tryd.underlying32 Tryd.sizeOf5 rfl rfl rfl (by omega) (by omega) (by omega) (by omega) (by omega) 64 (by omega))⟩, trivial⟩ rfl (Cok_gstep 16 45 true _ rfl rfl rfl (decide_eq_true ((by simp))) (Step_callP 25 [Slc nb5 0 64 64, Slc nb9 0 64 cp4] (.bool (decide ((blkL x) = (blkL x)))) (Cl_func [Slc nb5 0 64 64, Slc nb9 0 64 cp4] Tryd.call25 rfl) (fun w1 hw1 => bytes_c (some ⟨nb5, 0, none⟩) (some ⟨nb9, 0, none⟩) 64 64 64 cp4 (blkL x) (blkL x) w1 (blkL_len _) (blkL_len _) (RdB.of hw1 (MemAt.ent 2 rfl (Seg.whole _)) (by simp)) (RdB.of hw1 (MemAt.ent 6 rfl (Seg.left (Seg.whole _))) (by simp))))) ?_
  rintro v1 L1 ⟨rfl, rfl⟩
  refine ⟨[(21, .bool (decide ((blkL x) = (blkL x)))), (22, .bool (decide ((blkL x) = (blkL x))))], ?_⟩
  show DP _ _ _ _ _ _ _ _ [⟨nb3, cu8 ((([] : List UInt8) ++ y) ++ z) ++ sp2, 5, (0, 0)⟩, ⟨nb4, cu8 (macL x ((([] : List UInt8) ++ y) ++ z)), 25, (0, 0)⟩, ⟨nb5, cu8 (blkL x), 32, (0, 0)⟩, ⟨nb6, [.slice a2 n2 c2, .slice a3 n3 c3], 22, (0, 0)⟩, ⟨nb7, [.slice a2 n2 c2, .slice a3 n3 c3], 22, (0, 0)⟩, ⟨nb8, cu8 (mid (macL x ([y, z].flatten)) 0 16) ++ sp3, 5, (0, 0)⟩, ⟨nb9, cu8 (blkL x) ++ sp4, 5, (0, 0)⟩]
  refine DP_end ⟨[3, 4, 11, 12, 14, 19, 20], [0, 1, 2, 5, 6, 7, 8, 9, 10, 13, 15, 16, 17, 18, 21, 22], [0, 1, 2, 5, 6, 7, 8, 9, 10, 13, 15, 16, 17, 18], [21, 22], []⟩ rfl rfl (by decide +kernel) rfl ⟨⟨_, rfl, Qok_val rfl (Ev_pickT _ rfl (decide_eq_true ((by simp))) rfl)⟩, ⟨_, rfl, Qok_val rfl (Ev_assign rfl)⟩, trivial⟩ ?_
  refine K_sub (F' := [(6, .bool (decide ((blkL x) = (blkL x))))]) (Sub.cons (by kernel_rfl) (Sub.nil)) ?_
  show JQ _ _ _ [(6, .bool (decide ((blkL x) = (blkL x))))] _
  refine JQ_then ?_
  refine JC_ret ?_
  refine JQ_ret (.bool (decide ((blkL x) = (blkL x)))) (res1 Tryd.results8 (RV_tmp rfl)) fun w1 hw1 => ?_
  exact ⟨_, [], rfl, ⟨by rw [show (decide ((blkL x) = (blkL x))) = true from (decide_eq_true rfl)], rfl⟩, hw1.sub (by simp) (by simp)⟩

theorem hmacMacs_w (a1 : Option Addr) (n1 c1 : Nat) (x : List UInt8) (a2 : Option Addr) (n2 c2 : Nat) (y : List UInt8) (a3 : Option Addr) (n3 c3 : Nat) (z : List UInt8) (w : World) (hL1 : x.length = n1) (hn1 : a1 = none → c1 = 0) (hc1 : n1 ≤ c1 ∧ c1 ≤ maxLen) (hr1 : RdB w [] a1 x) (hz1 : n1 ≤ 140737488351232) (hL2 : y.length = n2) (hn2 : a2 = none → c2 = 0) (hc2 : n2 ≤ c2 ∧ c2 ≤ maxLen) (hr2 : RdB w [] a2 y) (hz2 : n2 ≤ 140737488351232) (hL3 : z.length = n3) (hn3 : a3 = none → c3 = 0) (hc3 : n3 ≤ c3 ∧ c3 ≤ maxLen) (hr3 : RdB w [] a3 z) (hz3 : n3 ≤ 140737488351232) (hG : GLs w) (hGr : GLr w) (hGi : GLi w) : Calls Tryd.prog 8 #[.slice a1 n1 c1, .slice a2 n2 c2, .slice a3 n3 c3] w (Post w [] (fun v L => v = .bool true ∧ L = [])) := by
  by_cases hn : n1 + n2 + n3 ≤ 3000
  · exact hmacMacsIn_c a1 n1 c1 x a2 n2 c2 y a3 n3 c3 z w hL1 hn1 hc1 hr1 hz1 hL2 hn2 hc2 hr2 hz2 hL3 hn3 hc3 hr3 hz3 hG hGr hGi hn
  · exact hmacMacsBig_c a1 n1 c1 x a2 n2 c2 y a3 n3 c3 z w hL1 hn1 hc1 hr1 hz1 hL2 hn2 hc2 hr2 hz2 hL3 hn3 hc3 hr3 hz3 hG hGr hGi (by omega)

theorem hmacChecksBig_c (a1 : Option Addr) (n1 c1 : Nat) (x : List UInt8) (a2 : Option Addr) (n2 c2 : Nat) (y : List UInt8) (a3 : Option Addr) (n3 c3 : Nat) (z : List UInt8) (w : World) (hL1 : x.length = n1) (hn1 : a1 = none → c1 = 0) (hc1 : n1 ≤ c1 ∧ c1 ≤ maxLen) (hr1 : RdB w [] a1 x) (hz1 : n1 ≤ 140737488351232) (hL2 : y.length = n2) (hn2 : a2 = none → c2 = 0) (hc2 : n2 ≤ c2 ∧ c2 ≤ maxLen) (hr2 : RdB w [] a2 y) (hz2 : n2 ≤ 140737488351232) (hL3 : z.length = n3) (hn3 : a3 = none → c3 = 0) (hc3 : n3 ≤ c3 ∧ c3 ≤ maxLen) (hr3 : RdB w [] a3 z) (hz3 : n3 ≤ 140737488351232) (hG : GLs w) (hGr : GLr w) (hGi : GLi w) (hn : 3000 < n1 + n2 + n3) : Calls Tryd.prog 9 #[.slice a1 n1 c1, .slice a2 n2 c2, .slice a3 n3 c3] w (Post w [] (fun v L => v = .bool true ∧ L = [])) := by
  have hmx : maxLen = 9223372036854775807 := rfl
  refine enter w [] 38 [] [.slice a1 n1 c1, .slice a2 n2 c2, .slice a3 n3 c3] Tryd.func9 rfl rfl (by simp) (Hp.start (by simp) (by simp) (by simp)) ?_
  show JC _ _ _ [(0, .slice a1 n1 c1), (1, .slice a2 n2 c2), (2, .slice a3 n3 c3)] _
  refine JC_seq ?_
  refine JC_region ?_
  refine JL_val _ (Ev_assign rfl) rfl ?_
  refine JL_nil ?_
  refine JQ_then ?_
  refine JC_seq ?_
  refine JC_seq ?_
  refine JC_region ?_
  refine JL_step (Step_callP 35 [] (.bool true) (Cl_func [] Tryd.call35 rfl) (fun w1 hw1 => alive3_c  w1 (hG.at hw1))) rfl ?_
  rintro v1 L1 ⟨rfl, rfl⟩
  show JL _ _ _ _ ((9, .bool true) :: _) []
  refine JL_val (.bool (!true)) (Ev_not rfl) rfl ?_
  refine JL_nil ?_
  refine JQ_then ?_
  refine JC_condF _ rfl rfl ?_
  refine JC_skip ?_
  refine JQ_then ?_
  refine JC_seq ?_
  refine JC_seq ?_
  refine JC_region ?_
  refine JL_val _ (Ev_move rfl) rfl ?_
  refine JL_val (I64 ((n1:Int))) (Ev_len Tryd.underlying22 rfl) rfl ?_
  refine JL_val _ (Ev_move rfl) rfl ?_
  refine JL_val (I64 ((n2:Int))) (Ev_len Tryd.underlying22 rfl) rfl ?_
  refine JL_val (I64 ((n1:Int) + (n2:Int))) (Ev_bini rfl rfl fun _ => bin_add_i _ _ ((n1:Int) + (n2:Int)) (by omega) (by omega)) rfl ?_
  refine JL_val _ (Ev_move rfl) rfl ?_
  refine JL_val (I64 ((n3:Int))) (Ev_len Tryd.underlying22 rfl) rfl ?_
  refine JL_val (I64 ((n1:Int) + (n2:Int) + (n3:Int))) (Ev_bini rfl rfl fun _ => bin_add_i _ _ ((n1:Int) + (n2:Int) + (n3:Int)) (by omega) (by omega)) rfl ?_
  refine JL_val (.bool (decide ((3000:Int) < ((n1:Int) + (n2:Int) + (n3:Int))))) (Ev_bini rfl rfl fun _ => bin_gtr_i _ _) rfl ?_
  refine JL_nil ?_
  refine JQ_then ?_
  refine JC_condT _ rfl (decide_eq_true (by omega)) ?_
  refine JC_seq ?_
  refine JC_region ?_
  refine JL_val _ (Ev_assign rfl) rfl ?_
  refine JL_nil ?_
  refine JQ_then ?_
  refine JC_ret ?_
  refine JQ_then_ret ?_
  refine JQ_ret (.bool true) (res1 Tryd.results9 (RV_tmp rfl)) fun w1 hw1 => ?_
  exact ⟨_, [], rfl, ⟨by rw [show (true) = true from rfl], rfl⟩, hw1.sub (by simp) (by simp)⟩

theorem hmacChecksIn_c (a1 : Option Addr) (n1 c1 : Nat) (x : List UInt8) (a2 : Option Addr) (n2 c2 : Nat) (y : List UInt8) (a3 : Option Addr) (n3 c3 : Nat) (z : List UInt8) (w : World) (hL1 : x.length = n1) (hn1 : a1 = none → c1 = 0) (hc1 : n1 ≤ c1 ∧ c1 ≤ maxLen) (hr1 : RdB w [] a1 x) (hz1 : n1 ≤ 140737488351232) (hL2 : y.length = n2) (hn2 : a2 = none → c2 = 0) (hc2 : n2 ≤ c2 ∧ c2 ≤ maxLen) (hr2 : RdB w [] a2 y) (hz2 : n2 ≤ 140737488351232) (hL3 : z.length = n3) (hn3 : a3 = none → c3 = 0) (hc3 : n3 ≤ c3 ∧ c3 ≤ maxLen) (hr3 : RdB w [] a3 z) (hz3 : n3 ≤ 140737488351232) (hG : GLs w) (hGr : GLr w) (hGi : GLi w) (hn : n1 + n2 + n3 ≤ 3000) : Calls Tryd.prog 9 #[.slice a1 n1 c1, .slice a2 n2 c2, .slice a3 n3 c3] w (Post w [] (fun v L => v = .bool true ∧ L = [])) := by
  have hmx : maxLen = 9223372036854775807 := rfl
  refine enter w [] 38 [] [.slice a1 n1 c1, .slice a2 n2 c2, .slice a3 n3 c3] Tryd.func9 rfl rfl (by simp) (Hp.start (by simp) (by simp) (by simp)) ?_
  show JC _ _ _ [(0, .slice a1 n1 c1), (1, .slice a2 n2 c2), (2, .slice a3 n3 c3)] _
  refine JC_seq ?_
  refine JC_region ?_
  refine JL_val _ (Ev_assign rfl) rfl ?_
  refine JL_nil ?_
  refine JQ_then ?_
  refine JC_seq ?_
  refine JC_seq ?_
  refine JC_region ?_
  refine JL_step (Step_callP 35 [] (.bool true) (Cl_func [] Tryd.call35 rfl) (fun w1 hw1 => alive3_c  w1 (hG.at hw1))) rfl ?_
  rintro v1 L1 ⟨rfl, rfl⟩
  show JL _ _ _ _ ((9, .bool true) :: _) []
  refine JL_val (.bool (!true)) (Ev_not rfl) rfl ?_
  refine JL_nil ?_
  refine JQ_then ?_
  refine JC_condF _ rfl rfl ?_
  refine JC_skip ?_
  refine JQ_then ?_
  refine JC_seq ?_
  refine JC_seq ?_
  refine JC_region ?_
  refine JL_val _ (Ev_move rfl) rfl ?_
  refine JL_val (I64 ((n1:Int))) (Ev_len Tryd.underlying22 rfl) rfl ?_
  refine JL_val _ (Ev_move rfl) rfl ?_
  refine JL_val (I64 ((n2:Int))) (Ev_len Tryd.underlying22 rfl) rfl ?_
  refine JL_val (I64 ((n1:Int) + (n2:Int))) (Ev_bini rfl rfl fun _ => bin_add_i _ _ ((n1:Int) + (n2:Int)) (by omega) (by omega)) rfl ?_
  refine JL_val _ (Ev_move rfl) rfl ?_
  refine JL_val (I64 ((n3:Int))) (Ev_len Tryd.underlying22 rfl) rfl ?_
  refine JL_val (I64 ((n1:Int) + (n2:Int) + (n3:Int))) (Ev_bini rfl rfl fun _ => bin_add_i _ _ ((n1:Int) + (n2:Int) + (n3:Int)) (by omega) (by omega)) rfl ?_
  refine JL_val (.bool (decide ((3000:Int) < ((n1:Int) + (n2:Int) + (n3:Int))))) (Ev_bini rfl rfl fun _ => bin_gtr_i _ _) rfl ?_
  refine JL_nil ?_
  refine JQ_then ?_
  refine JC_condF _ rfl (decide_eq_false (by omega)) ?_
  refine JC_skip ?_
  refine JQ_then ?_
  refine JC_seq ?_
  refine JC_region ?_
  refine JL_val _ (Ev_move rfl) rfl ?_
  refine JL_val _ (Ev_move rfl) rfl ?_
  refine JL_step (Step_callP 37 [.slice a2 n2 c2, .slice a3 n3 c3] (.agg (cu8 (macL y z)).toArray) (Cl_func [.slice a2 n2 c2, .slice a3 n3 c3] Tryd.call37 rfl) (fun w1 hw1 => rmac_c a2 n2 c2 y a3 n3 c3 z w1 hL2 (by first | exact hn1 | exact hn2 | exact hn3) (by omega) (hr2.at (M' := []) hw1 (by simp)) hL3 (by omega) (hr3.at (M' := []) hw1 (by simp)) (GLr.at hw1 hGr) (GLi.at hw1 hGi))) rfl ?_
  rintro v1 L1 ⟨rfl, rfl⟩
  show JL _ _ _ _ ((22, .agg (cu8 (macL y z)).toArray) :: _) []
  refine JL_step (Step_alloc _ (cu8 (zr8 32)) Tryd.zeroValue25 (by kernel_rfl)) rfl ?_
  rintro v1 L1 ⟨nb1, hnb1, rfl, rfl⟩
  show JL _ _ _ _ ((7, Ptr nb1 0) :: _) [⟨nb1, cu8 (zr8 32), 25, (0, 0)⟩]
  refine JL_step (Step_store 0 nb1 0 32 (cu8 (zr8 32)) 25 (.agg (cu8 (macL y z)).toArray) (cu8 (macL y z)) (cu8 (macL y z)) rfl rfl rfl (by first | rfl | simp) Tryd.sizeOf25 (len_cu8 (macL_len _ _)) (by first | exact one_u8 | exact one_u32 | exact one_u64 | (simp [cu8, cu32, cu64, Value.oneCell']; done)) (by simp [(zr8_len 32)]) (lay_whole (by simp [(zr8_len 32), (macL_len _ _)]))) rfl ?_
  rintro v1 L1 ⟨rfl, rfl⟩
  show JL _ _ _ _ _ [⟨nb1, cu8 (macL y z), 25, (0, 0)⟩]
  refine JL_nil ?_
  refine JQ_then ?_
  refine JC_seq ?_
  refine JC_region ?_
  refine JL_val _ (Ev_move rfl) rfl ?_
  refine JL_val (Slc nb1 0 32 32) (Ev_sliceA 32 5 1 0 32 0 32 Tryd.underlying25 Tryd.sizeOf5 rfl rfl rfl (by omega) (by omega) (by omega) (by omega) (by omega) 32 (by omega)) rfl ?_
  refine JL_step (Step_callP 25 [.slice a1 n1 c1, Slc nb1 0 32 32] (.bool (decide (x = (macL y z)))) (Cl_func [.slice a1 n1 c1, Slc nb1 0 32 32] Tryd.call25 rfl) (fun w1 hw1 => bytes_c a1 (some ⟨nb1, 0, none⟩) n1 32 c1 32 x (macL y z) w1 hL1 (macL_len _ _) (hr1.at (M' := []) hw1 (by simp)) (RdB.of hw1 (MemAt.ent 0 rfl (Seg.whole _)) (by simp)))) rfl ?_
  rintro v1 L1 ⟨rfl, rfl⟩
  show JL _ _ _ _ ((25, .bool (decide (x = (macL y z)))) :: _) [⟨nb1, cu8 (macL y z), 25, (0, 0)⟩]
  refine JL_val _ (Ev_move rfl) rfl ?_
  rcases Bool.eq_false_or_eq_true (decide (x = (macL y z))) with hb1 | hb1
  ·
    have hp1 : x = (macL y z) := of_decide_eq_true hb1
    refine JL_gskip 3 26 false _ rfl rfl hb1 rfl ?_
    refine JL_gskip 3 26 false _ rfl rfl hb1 rfl ?_
    refine JL_gskip 3 26 false _ rfl rfl hb1 rfl ?_
    refine JL_val _ (Ev_pickT _ rfl hb1 rfl) rfl ?_
    refine JL_val _ (Ev_assign rfl) rfl ?_
    refine JL_nil ?_
    refine JQ_then ?_
    refine JC_seq ?_
    refine JC_region ?_
    refine JL_val _ (Ev_move rfl) rfl ?_
    refine JL_val _ (Ev_move rfl) rfl ?_
    refine JL_val _ (Ev_move rfl) rfl ?_
    refine JL_step (Step_buildSlice 22 1 _ [(0, .slice a3 n3 c3)] ([.slice a3 n3 c3]) Tryd.underlying125 Tryd.sizeOf22 Tryd.zeroValue22 rfl rfl rfl (by kernel_rfl)) rfl ?_
    rintro v1 L1 ⟨nb2, hnb2, rfl, rfl⟩
    show JL _ _ _ _ ((34, Slc nb2 0 1 1) :: _) [⟨nb1, cu8 (macL y z), 25, (0, 0)⟩, ⟨nb2, [.slice a3 n3 c3], 22, (0, 0)⟩]
    refine JL_step (Step_callP 42 [.slice a1 n1 c1, .slice a2 n2 c2, Slc nb2 0 1 1] (.bool (decide (x = macL y ([z].flatten)) || decide (x = mid (macL y ([z].flatten)) 0 16))) (Cl_func [.slice a1 n1 c1, .slice a2 n2 c2, Slc nb2 0 1 1] Tryd.call42 rfl) (fun w1 hw1 => check_c a1 n1 c1 x a2 n2 c2 y nb2 1 [.slice a3 n3 c3] [z] w1 hL1 (by omega) (hr1.at (M' := []) hw1 (by simp)) hL2 (by first | exact hn1 | exact hn2 | exact hn3) (by omega) (hr2.at (M' := []) hw1 (by simp)) (by simp) (by simp) (by simp) ⟨RdA.of hw1 (MemAt.ent 1 rfl (Seg.head)) (by simp), ⟨⟨a3, c3, congrArg (fun n => Value.slice a3 n c3) (hL3).symm, (hr3.at (M' := []) hw1 (by simp))⟩, trivial⟩⟩ (by simp only [List.flatten_cons, List.flatten_nil, List.length_append, List.length_nil, hL3]; omega) (hG.at hw1))) rfl ?_
    rintro v1 L1 ⟨rfl, rfl⟩
    show JL _ _ _ _ ((35, .bool (decide (x = macL y ([z].flatten)) || decide (x = mid (macL y ([z].flatten)) 0 16))) :: _) [⟨nb1, cu8 (macL y z), 25, (0, 0)⟩, ⟨nb2, [.slice a3 n3 c3], 22, (0, 0)⟩]
    refine JL_val _ (Ev_move rfl) rfl ?_
    refine JL_val (.bool ((decide (x = macL y ([z].flatten)) || decide (x = mid (macL y ([z].flatten)) 0 16)) == true)) (Ev_bin _ _ _ rfl rfl (fun _ => eqGuard_bool ..) fun _ => eql_bool Tryd.underlying4) rfl ?_
    refine JL_val _ (Ev_assign rfl) rfl ?_
    refine JL_nil ?_
    refine JQ_then ?_
    refine JC_ret ?_
    refine JQ_ret (.bool ((decide (x = macL y ([z].flatten)) || decide (x = mid (macL y ([z].flatten)) 0 16)) == true)) (res1 Tryd.results9 (RV_tmp rfl)) fun w1 hw1 => ?_
    exact ⟨_, [], rfl, ⟨by rw [show ((decide (x = macL y ([z].flatten)) || decide (x = mid (macL y ([z].flatten)) 0 16)) == true) = true from (by simp [(of_decide_eq_true hb1)])], rfl⟩, hw1.sub (by simp) (by simp)⟩
  ·
    have hp1 : ¬ (x = (macL y z)) := of_decide_eq_false hb1
    refine JL_gval 3 26 false _ _ rfl rfl hb1 (Ev_move rfl) rfl ?_
    refine JL_gval 3 26 false _ (Slc nb1 0 16 32) rfl rfl hb1 (Ev_sliceA 32 5 1 0 16 0 32 Tryd.underlying25 Tryd.sizeOf5 rfl rfl rfl (by omega) (by omega) (by omega) (by omega) (by omega) 16 (by omega)) rfl ?_
    have hl1 : (mid (macL y z) 0 16).length = 16 := mid_len (by rw [(macL_len _ _)]; omega)
    refine JL_gstep 3 26 false _ rfl rfl hb1 (Step_callP 25 [.slice a1 n1 c1, Slc nb1 0 16 32] (.bool (decide (x = (mid (macL y z) 0 16)))) (Cl_func [.slice a1 n1 c1, Slc nb1 0 16 32] Tryd.call25 rfl) (fun w1 hw1 => bytes_c a1 (some ⟨nb1, 0, none⟩) n1 16 c1 32 x (mid (macL y z) 0 16) w1 hL1 hl1 (hr1.at (M' := []) hw1 (by simp)) (RdB.of hw1 (MemAt.ent 0 rfl (segm_u8 0 16 (by rw [(macL_len _ _)]; omega))) (by simp)))) rfl ?_
    rintro v1 L1 ⟨rfl, rfl⟩
    show JL _ _ _ _ ((29, .bool (decide (x = (mid (macL y z) 0 16)))) :: _) [⟨nb1, cu8 (macL y z), 25, (0, 0)⟩]
    refine JL_val _ (Ev_pickF _ rfl hb1 rfl) rfl ?_
    refine JL_val _ (Ev_assign rfl) rfl ?_
    refine JL_nil ?_
    refine JQ_then ?_
    refine JC_seq ?_
    refine JC_region ?_
    refine JL_val _ (Ev_move rfl) rfl ?_
    refine JL_val _ (Ev_move rfl) rfl ?_
    refine JL_val _ (Ev_move rfl) rfl ?_
    refine JL_step (Step_buildSlice 22 1 _ [(0, .slice a3 n3 c3)] ([.slice a3 n3 c3]) Tryd.underlying125 Tryd.sizeOf22 Tryd.zeroValue22 rfl rfl rfl (by kernel_rfl)) rfl ?_
    rintro v1 L1 ⟨nb3, hnb3, rfl, rfl⟩
    show JL _ _ _ _ ((34, Slc nb3 0 1 1) :: _) [⟨nb1, cu8 (macL y z), 25, (0, 0)⟩, ⟨nb3, [.slice a3 n3 c3], 22, (0, 0)⟩]
    refine JL_step (Step_callP 42 [.slice a1 n1 c1, .slice a2 n2 c2, Slc nb3 0 1 1] (.bool (decide (x = macL y ([z].flatten)) || decide (x = mid (macL y ([z].flatten)) 0 16))) (Cl_func [.slice a1 n1 c1, .slice a2 n2 c2, Slc nb3 0 1 1] Tryd.call42 rfl) (fun w1 hw1 => check_c a1 n1 c1 x a2 n2 c2 y nb3 1 [.slice a3 n3 c3] [z] w1 hL1 (by omega) (hr1.at (M' := []) hw1 (by simp)) hL2 (by first | exact hn1 | exact hn2 | exact hn3) (by omega) (hr2.at (M' := []) hw1 (by simp)) (by simp) (by simp) (by simp) ⟨RdA.of hw1 (MemAt.ent 1 rfl (Seg.head)) (by simp), ⟨⟨a3, c3, congrArg (fun n => Value.slice a3 n c3) (hL3).symm, (hr3.at (M' := []) hw1 (by simp))⟩, trivial⟩⟩ (by simp only [List.flatten_cons, List.flatten_nil, List.length_append, List.length_nil, hL3]; omega) (hG.at hw1))) rfl ?_
    rintro v1 L1 ⟨rfl, rfl⟩
    show JL _ _ _ _ ((35, .bool (decide (x = macL y ([z].flatten)) || decide (x = mid (macL y ([z].flatten)) 0 16))) :: _) [⟨nb1, cu8 (macL y z), 25, (0, 0)⟩, ⟨nb3, [.slice a3 n3 c3], 22, (0, 0)⟩]
    refine JL_val _ (Ev_move rfl) rfl ?_
    refine JL_val (.bool ((decide (x = macL y ([z].flatten)) || decide (x = mid (macL y ([z].flatten)) 0 16)) == (decide (x = (mid (macL y z) 0 16))))) (Ev_bin _ _ _ rfl rfl (fun _ => eqGuard_bool ..) fun _ => eql_bool Tryd.underlying4) rfl ?_
    refine JL_val _ (Ev_assign rfl) rfl ?_
    refine JL_nil ?_
    refine JQ_then ?_
    refine JC_ret ?_
    refine JQ_ret (.bool ((decide (x = macL y ([z].flatten)) || decide (x = mid (macL y ([z].flatten)) 0 16)) == (decide (x = (mid (macL y z) 0 16))))) (res1 Tryd.results9 (RV_tmp rfl)) fun w1 hw1 => ?_
    exact ⟨_, [], rfl, ⟨by rw [show ((decide (x = macL y ([z].flatten)) || decide (x = mid (macL y ([z].flatten)) 0 16)) == (decide (x = (mid (macL y z) 0 16)))) = true from (by simp [(of_decide_eq_false hb1)])], rfl⟩, hw1.sub (by simp) (by simp)⟩

theorem hmacChecks_w (a1 : Option Addr) (n1 c1 : Nat) (x : List UInt8) (a2 : Option Addr) (n2 c2 : Nat) (y : List UInt8) (a3 : Option Addr) (n3 c3 : Nat) (z : List UInt8) (w : World) (hL1 : x.length = n1) (hn1 : a1 = none → c1 = 0) (hc1 : n1 ≤ c1 ∧ c1 ≤ maxLen) (hr1 : RdB w [] a1 x) (hz1 : n1 ≤ 140737488351232) (hL2 : y.length = n2) (hn2 : a2 = none → c2 = 0) (hc2 : n2 ≤ c2 ∧ c2 ≤ maxLen) (hr2 : RdB w [] a2 y) (hz2 : n2 ≤ 140737488351232) (hL3 : z.length = n3) (hn3 : a3 = none → c3 = 0) (hc3 : n3 ≤ c3 ∧ c3 ≤ maxLen) (hr3 : RdB w [] a3 z) (hz3 : n3 ≤ 140737488351232) (hG : GLs w) (hGr : GLr w) (hGi : GLi w) : Calls Tryd.prog 9 #[.slice a1 n1 c1, .slice a2 n2 c2, .slice a3 n3 c3] w (Post w [] (fun v L => v = .bool true ∧ L = [])) := by
  by_cases hn : n1 + n2 + n3 ≤ 3000
  · exact hmacChecksIn_c a1 n1 c1 x a2 n2 c2 y a3 n3 c3 z w hL1 hn1 hc1 hr1 hz1 hL2 hn2 hc2 hr2 hz2 hL3 hn3 hc3 hr3 hz3 hG hGr hGi hn
  · exact hmacChecksBig_c a1 n1 c1 x a2 n2 c2 y a3 n3 c3 z w hL1 hn1 hc1 hr1 hz1 hL2 hn2 hc2 hr2 hz2 hL3 hn3 hc3 hr3 hz3 hG hGr hGi (by omega)

end Go.Proofs.YtncoifiafklkjaaDoor
