import Derived.Test.YtkdpdgpphpngeaaDoorPkTks4
namespace Go.Proofs.YtkdpdgpphpngeaaDoor
open Go Go.Sx
set_option linter.unusedVariables false
set_option linter.unusedSimpArgs false
set_option maxRecDepth 100000
attribute [local irreducible] mid zr8 zr32 numK rnK rotr wordL spreadL comprL cpN adN spN wrdN constL initL padL stN outN routN sumG putL RightB tktT mayN idxT selT macL tkG
theorem chkK_c (key : List UInt8) (pv ep : UInt64) (k : Nat) (ai : Option Addr) (ni ci : Nat) (l : List UInt64) (sa : Option Addr) (ns sc : Nat) (ls : List SealR) (bl : UInt64) (tg : List UInt8) (tot : Nat)  (w : World) (hk32 : key.length = 32) (hl : l.length = ni) (hnm : ni ≤ 2000000) (hnc : ni ≤ ci) (hcm : ci ≤ maxLen) (hv : RdV w ai (cu64 l)) (hls : ls.length = ns) (hnn : ns ≤ 2000000) (hnd : ns ≤ sc) (hcn : sc ≤ maxLen) (hs : RdV w sa (ls.flatMap sealC)) (htg : tg.length = 16) (hmay : mayN pv ep (k:Int) l ls bl = 0) (hk : k = 1 ∨ k = 2 ∨ k = 3) (hsm : ns ≤ 300) (htot : tktN k ni ns = tot) (htb : tot ≤ 30000) (hG : GLs w) (hau : tg = tkG key pv ep k l ls bl)  : Calls Tryd.prog 48 #[.agg (cu8 key).toArray, .agg (List.toArray (α := Value) ([U64 pv, U64 ep, I64 ((k:Int)), .slice ai ni ci, .slice sa ns sc, U64 bl] ++ cu8 tg))] w (Post w [] (fun v L => v = .nilIface ∧ L = [])) := by
 have hmx : maxLen = 9223372036854775807 := rfl
 refine enter (P := Tryd.prog) (f := 48) (fn := Tryd.f48) w [] 25 [] [.agg (cu8 key).toArray, .agg (List.toArray (α := Value) ([U64 pv, U64 ep, I64 ((k:Int)), .slice ai ni ci, .slice sa ns sc, U64 bl] ++ cu8 tg))] Tryd.func48 rfl rfl (by simp) (B7 (by simp) (by simp) (by simp)) ?_
 show JC _ _ _ [(0, .agg (cu8 key).toArray), (1, .agg (List.toArray (α := Value) ([U64 pv, U64 ep, I64 ((k:Int)), .slice ai ni ci, .slice sa ns sc, U64 bl] ++ cu8 tg)))] _
 refine AL (AE (AR (CN (.agg (cu8 key).toArray) (cu8 key) rfl (by first | rfl | simp)) rfl ?_))
 rintro v1 L1 ⟨nb1, hnb1, rfl, rfl⟩
 show JL _ _ _ _ ((2, Ptr nb1 0) :: _) [⟨nb1, cu8 key, 54, (0, 0)⟩]
 refine AR (CN (.agg (List.toArray (α := Value) ([U64 pv, U64 ep, I64 ((k:Int)), .slice ai ni ci, .slice sa ns sc, U64 bl] ++ cu8 tg))) ([U64 pv, U64 ep, I64 ((k:Int)), .slice ai ni ci, .slice sa ns sc, U64 bl] ++ cu8 tg) rfl (by first | rfl | simp)) rfl ?_
 rintro v1 L1 ⟨nb2, hnb2, rfl, rfl⟩
 show JL _ _ _ _ ((3, Ptr nb2 0) :: _) [_, ⟨nb2, [U64 pv, U64 ep, I64 ((k:Int)), .slice ai ni ci, .slice sa ns sc, U64 bl] ++ cu8 tg, 29, (0, 0)⟩]
 refine AA _ (AH rfl) rfl ?_
 refine AN (AF (AL (AE (AA (.agg (List.toArray (α := Value) ([U64 pv, U64 ep, I64 ((k:Int)), .slice ai ni ci, .slice sa ns sc, U64 bl] ++ cu8 tg))) (AK rfl (BH BE AW (by simp [htg]) (MemAt.ent 1 rfl (AM _)))) rfl ?_))))
 refine AR (BG 114 [.agg (List.toArray (α := Value) ([U64 pv, U64 ep, I64 ((k:Int)), .slice ai ni ci, .slice sa ns sc, U64 bl] ++ cu8 tg))] _ (A0 [.agg (List.toArray (α := Value) ([U64 pv, U64 ep, I64 ((k:Int)), .slice ai ni ci, .slice sa ns sc, U64 bl] ++ cu8 tg))] DL rfl) (fun w1 hw1 => text_w pv ep k ai ni ci l sa ns sc ls bl tg tot w1 hl (by omega) (by omega) (by omega) (C1 hw1 rfl hv) hls (by omega) (by omega) (by omega) (C1 hw1 rfl hs) htg hmay hk hsm htot)) rfl ?_
 rintro v1 L1 ⟨_, ⟨nb3, sp1, cp1, rfl, rfl, hc1, hc2, hc3⟩, rfl⟩
 show JL _ _ _ _ ((9, .tuple #[Slc nb3 0 tot cp1, .nilIface]) :: _) [_, _, ⟨nb3, cu8 (tktT pv ep k l ls bl) ++ sp1, 5, (0, 0)⟩]
 refine AA _ (AD rfl) rfl ?_
 refine AA _ (BN rfl rfl) rfl ?_
 refine AA _ (BN rfl rfl) rfl ?_
 refine AA _ (AH rfl) rfl ?_
 refine AA _ (AH rfl) rfl ?_
 refine AN (AF (AL (B5 (AL (AE (AA _ (AD rfl) rfl ?_))))))
 refine AA (.bool false) (DC _ _ _ rfl rfl (fun _ => EC ..) fun _ => EF BB) rfl ?_
 refine AA _ (AH rfl) rfl ?_
 refine AN (AF (C0 _ rfl rfl ?_))
 refine AL (CQ 25 3 [(0, Ptr nb2 6), (1, Slc nb2 6 16 16), (2, Slc nb1 0 32 32), (3, Slc nb3 0 tot cp1)] BQ rfl (by decide +kernel) ?_)
 refine BR ⟨[], [0, 1, 2, 3], [], [0, 1, 2, 3], [4]⟩ 4 _ rfl rfl (by decide +kernel) rfl ⟨⟨_, rfl, AB rfl (AC 6 27 16 AS rfl A1 rfl rfl)⟩, ⟨_, rfl, AB rfl (BX 16 5 1 0 16 6 16 BC AX rfl rfl rfl (by omega) (by omega) (by omega) (by omega) (by omega) 16 (by omega))⟩, ⟨_, rfl, AB rfl (BX 32 5 1 0 32 0 32 BL AX rfl rfl rfl (by omega) (by omega) (by omega) (by omega) (by omega) 32 (by omega))⟩, ⟨_, rfl, AB rfl (AD rfl)⟩, trivial⟩ rfl (AZ rfl (BZ 43 1 _ [(0, Slc nb3 0 tot cp1)] ([Slc nb3 0 tot cp1]) DN CA D1 rfl rfl rfl (by kernel_rfl))) ?_
 rintro v1 L1 ⟨nb4, hnb4, rfl, rfl⟩
 refine ⟨[], ?_⟩
 show DP _ _ _ _ _ _ _ _ [_, _, _, ⟨nb4, [Slc nb3 0 tot cp1], 43, (0, 0)⟩]
 refine BR ⟨[4], [0, 1, 2, 3], [3], [0, 1, 2], [5]⟩ 5 _ rfl rfl (by decide +kernel) rfl ⟨⟨_, rfl, AB rfl (AC 6 27 16 AS rfl A1 rfl rfl)⟩, ⟨_, rfl, AB rfl (BX 16 5 1 0 16 6 16 BC AX rfl rfl rfl (by omega) (by omega) (by omega) (by omega) (by omega) 16 (by omega))⟩, ⟨_, rfl, AB rfl (BX 32 5 1 0 32 0 32 BL AX rfl rfl rfl (by omega) (by omega) (by omega) (by omega) (by omega) 32 (by omega))⟩, trivial⟩ rfl (AZ rfl (A3 107 [Slc nb2 6 16 16, Slc nb1 0 32 32, Slc nb4 0 1 1] (.bool (decide (tg = macL key ([tktT pv ep k l ls bl].flatten)) || decide (tg = mid (macL key ([tktT pv ep k l ls bl].flatten)) 0 16))) (A0 [Slc nb2 6 16 16, Slc nb1 0 32 32, Slc nb4 0 1 1] Tryd.call107 rfl) (fun w1 hw1 => check_c (some ⟨nb2, 6, none⟩) 16 16 tg (some ⟨nb1, 0, none⟩) 32 32 key nb4 1 [Slc nb3 0 tot cp1] [tktT pv ep k l ls bl] w1 htg (by omega) (RdB.of hw1 (MemAt.ent 1 rfl (Seg.right 6 0 rfl rfl (AM _))) (by simp)) hk32 (fun h => by cases h) (by omega) (RdB.of hw1 (MemAt.ent 0 rfl (AM _)) (by simp)) (by simp) (by simp) (by simp) ⟨RdA.of hw1 (MemAt.ent 3 rfl (Seg.head)) (by simp), ⟨⟨(some ⟨nb3, 0, none⟩), cp1, congrArg (fun n => Value.slice (some ⟨nb3, 0, none⟩) n cp1) ((show (tktT pv ep k l ls bl).length = tot from ((D5 hl hls).trans htot))).symm, (RdB.of hw1 (MemAt.ent 2 rfl (A2 (AM _))) (by simp))⟩, trivial⟩⟩ (by simp only [List.flatten_cons, List.flatten_nil, List.length_append, List.length_nil, (show (tktT pv ep k l ls bl).length = tot from ((D5 hl hls).trans htot))]; omega) (hG.at hw1)))) ?_
 rintro v1 L1 ⟨rfl, rfl⟩
 refine ⟨[(6, .bool (!(decide (tg = macL key ([tktT pv ep k l ls bl].flatten)) || decide (tg = mid (macL key ([tktT pv ep k l ls bl].flatten)) 0 16)))), (7, .bool (!(decide (tg = macL key ([tktT pv ep k l ls bl].flatten)) || decide (tg = mid (macL key ([tktT pv ep k l ls bl].flatten)) 0 16))))], ?_⟩
 show DP _ _ _ _ _ _ _ _ [_, _, _, _]
 refine CZ ⟨[4, 5], [0, 1, 2, 3, 6, 7], [0, 1, 2, 3], [6, 7], []⟩ rfl rfl (by decide +kernel) rfl ⟨⟨_, rfl, AB rfl (FK rfl)⟩, ⟨_, rfl, AB rfl (AH rfl)⟩, trivial⟩ ?_
 refine CC (F' := [(16, .bool (!(decide (tg = macL key ([tktT pv ep k l ls bl].flatten)) || decide (tg = mid (macL key ([tktT pv ep k l ls bl].flatten)) 0 16)))), (4, .nilIface)]) (by kernel_rfl) ?_
 refine AF (C0 _ rfl (by rw [show ((decide (tg = macL key ([tktT pv ep k l ls bl].flatten)) || decide (tg = mid (macL key ([tktT pv ep k l ls bl].flatten)) 0 16))) = true from (by rw [chk_tk _ _ _ _ _ _ _ htg]; exact decide_eq_true hau)] <;> rfl) ?_)
 refine B4 (B1 (AF (AL (AE (AA _ (AH rfl) rfl ?_)))))
 refine AN (AF (BO (B8 [false, false, false, false] ?_)))
 show JQ _ _ _ _ []
 refine BP (.nilIface) (res1 Tryd.results48 (BT rfl)) fun w1 hw1 => ?_
 exact ⟨_, [], rfl, ⟨rfl, rfl⟩, hw1.sub (by simp) (by simp)⟩
theorem chkA_c (key : List UInt8) (pv ep : UInt64) (k : Nat) (ai : Option Addr) (ni ci : Nat) (l : List UInt64) (sa : Option Addr) (ns sc : Nat) (ls : List SealR) (bl : UInt64) (tg : List UInt8) (tot : Nat)  (w : World) (hk32 : key.length = 32) (hl : l.length = ni) (hnm : ni ≤ 2000000) (hnc : ni ≤ ci) (hcm : ci ≤ maxLen) (hv : RdV w ai (cu64 l)) (hls : ls.length = ns) (hnn : ns ≤ 2000000) (hnd : ns ≤ sc) (hcn : sc ≤ maxLen) (hs : RdV w sa (ls.flatMap sealC)) (htg : tg.length = 16) (hmay : mayN pv ep (k:Int) l ls bl = 0) (hk : k = 1 ∨ k = 2 ∨ k = 3) (hsm : ns ≤ 300) (htot : tktN k ni ns = tot) (htb : tot ≤ 30000) (hG : GLs w) (hau : ¬ tg = tkG key pv ep k l ls bl)  : Calls Tryd.prog 48 #[.agg (cu8 key).toArray, .agg (List.toArray (α := Value) ([U64 pv, U64 ep, I64 ((k:Int)), .slice ai ni ci, .slice sa ns sc, U64 bl] ++ cu8 tg))] w (Post w [] (fun v L => v = .iface 50 (I64 4) ∧ L = [])) := by
 have hmx : maxLen = 9223372036854775807 := rfl
 refine enter (P := Tryd.prog) (f := 48) (fn := Tryd.f48) w [] 25 [] [.agg (cu8 key).toArray, .agg (List.toArray (α := Value) ([U64 pv, U64 ep, I64 ((k:Int)), .slice ai ni ci, .slice sa ns sc, U64 bl] ++ cu8 tg))] Tryd.func48 rfl rfl (by simp) (B7 (by simp) (by simp) (by simp)) ?_
 show JC _ _ _ [(0, .agg (cu8 key).toArray), (1, .agg (List.toArray (α := Value) ([U64 pv, U64 ep, I64 ((k:Int)), .slice ai ni ci, .slice sa ns sc, U64 bl] ++ cu8 tg)))] _
 refine AL (AE (AR (CN (.agg (cu8 key).toArray) (cu8 key) rfl (by first | rfl | simp)) rfl ?_))
 rintro v1 L1 ⟨nb1, hnb1, rfl, rfl⟩
 show JL _ _ _ _ ((2, Ptr nb1 0) :: _) [⟨nb1, cu8 key, 54, (0, 0)⟩]
 refine AR (CN (.agg (List.toArray (α := Value) ([U64 pv, U64 ep, I64 ((k:Int)), .slice ai ni ci, .slice sa ns sc, U64 bl] ++ cu8 tg))) ([U64 pv, U64 ep, I64 ((k:Int)), .slice ai ni ci, .slice sa ns sc, U64 bl] ++ cu8 tg) rfl (by first | rfl | simp)) rfl ?_
 rintro v1 L1 ⟨nb2, hnb2, rfl, rfl⟩
 show JL _ _ _ _ ((3, Ptr nb2 0) :: _) [_, ⟨nb2, [U64 pv, U64 ep, I64 ((k:Int)), .slice ai ni ci, .slice sa ns sc, U64 bl] ++ cu8 tg, 29, (0, 0)⟩]
 refine AA _ (AH rfl) rfl ?_
 refine AN (AF (AL (AE (AA (.agg (List.toArray (α := Value) ([U64 pv, U64 ep, I64 ((k:Int)), .slice ai ni ci, .slice sa ns sc, U64 bl] ++ cu8 tg))) (AK rfl (BH BE AW (by simp [htg]) (MemAt.ent 1 rfl (AM _)))) rfl ?_))))
 refine AR (BG 114 [.agg (List.toArray (α := Value) ([U64 pv, U64 ep, I64 ((k:Int)), .slice ai ni ci, .slice sa ns sc, U64 bl] ++ cu8 tg))] _ (A0 [.agg (List.toArray (α := Value) ([U64 pv, U64 ep, I64 ((k:Int)), .slice ai ni ci, .slice sa ns sc, U64 bl] ++ cu8 tg))] DL rfl) (fun w1 hw1 => text_w pv ep k ai ni ci l sa ns sc ls bl tg tot w1 hl (by omega) (by omega) (by omega) (C1 hw1 rfl hv) hls (by omega) (by omega) (by omega) (C1 hw1 rfl hs) htg hmay hk hsm htot)) rfl ?_
 rintro v1 L1 ⟨_, ⟨nb3, sp1, cp1, rfl, rfl, hc1, hc2, hc3⟩, rfl⟩
 show JL _ _ _ _ ((9, .tuple #[Slc nb3 0 tot cp1, .nilIface]) :: _) [_, _, ⟨nb3, cu8 (tktT pv ep k l ls bl) ++ sp1, 5, (0, 0)⟩]
 refine AA _ (AD rfl) rfl ?_
 refine AA _ (BN rfl rfl) rfl ?_
 refine AA _ (BN rfl rfl) rfl ?_
 refine AA _ (AH rfl) rfl ?_
 refine AA _ (AH rfl) rfl ?_
 refine AN (AF (AL (B5 (AL (AE (AA _ (AD rfl) rfl ?_))))))
 refine AA (.bool false) (DC _ _ _ rfl rfl (fun _ => EC ..) fun _ => EF BB) rfl ?_
 refine AA _ (AH rfl) rfl ?_
 refine AN (AF (C0 _ rfl rfl ?_))
 refine AL (CQ 25 3 [(0, Ptr nb2 6), (1, Slc nb2 6 16 16), (2, Slc nb1 0 32 32), (3, Slc nb3 0 tot cp1)] BQ rfl (by decide +kernel) ?_)
 refine BR ⟨[], [0, 1, 2, 3], [], [0, 1, 2, 3], [4]⟩ 4 _ rfl rfl (by decide +kernel) rfl ⟨⟨_, rfl, AB rfl (AC 6 27 16 AS rfl A1 rfl rfl)⟩, ⟨_, rfl, AB rfl (BX 16 5 1 0 16 6 16 BC AX rfl rfl rfl (by omega) (by omega) (by omega) (by omega) (by omega) 16 (by omega))⟩, ⟨_, rfl, AB rfl (BX 32 5 1 0 32 0 32 BL AX rfl rfl rfl (by omega) (by omega) (by omega) (by omega) (by omega) 32 (by omega))⟩, ⟨_, rfl, AB rfl (AD rfl)⟩, trivial⟩ rfl (AZ rfl (BZ 43 1 _ [(0, Slc nb3 0 tot cp1)] ([Slc nb3 0 tot cp1]) DN CA D1 rfl rfl rfl (by kernel_rfl))) ?_
 rintro v1 L1 ⟨nb4, hnb4, rfl, rfl⟩
 refine ⟨[], ?_⟩
 show DP _ _ _ _ _ _ _ _ [_, _, _, ⟨nb4, [Slc nb3 0 tot cp1], 43, (0, 0)⟩]
 refine BR ⟨[4], [0, 1, 2, 3], [3], [0, 1, 2], [5]⟩ 5 _ rfl rfl (by decide +kernel) rfl ⟨⟨_, rfl, AB rfl (AC 6 27 16 AS rfl A1 rfl rfl)⟩, ⟨_, rfl, AB rfl (BX 16 5 1 0 16 6 16 BC AX rfl rfl rfl (by omega) (by omega) (by omega) (by omega) (by omega) 16 (by omega))⟩, ⟨_, rfl, AB rfl (BX 32 5 1 0 32 0 32 BL AX rfl rfl rfl (by omega) (by omega) (by omega) (by omega) (by omega) 32 (by omega))⟩, trivial⟩ rfl (AZ rfl (A3 107 [Slc nb2 6 16 16, Slc nb1 0 32 32, Slc nb4 0 1 1] (.bool (decide (tg = macL key ([tktT pv ep k l ls bl].flatten)) || decide (tg = mid (macL key ([tktT pv ep k l ls bl].flatten)) 0 16))) (A0 [Slc nb2 6 16 16, Slc nb1 0 32 32, Slc nb4 0 1 1] Tryd.call107 rfl) (fun w1 hw1 => check_c (some ⟨nb2, 6, none⟩) 16 16 tg (some ⟨nb1, 0, none⟩) 32 32 key nb4 1 [Slc nb3 0 tot cp1] [tktT pv ep k l ls bl] w1 htg (by omega) (RdB.of hw1 (MemAt.ent 1 rfl (Seg.right 6 0 rfl rfl (AM _))) (by simp)) hk32 (fun h => by cases h) (by omega) (RdB.of hw1 (MemAt.ent 0 rfl (AM _)) (by simp)) (by simp) (by simp) (by simp) ⟨RdA.of hw1 (MemAt.ent 3 rfl (Seg.head)) (by simp), ⟨⟨(some ⟨nb3, 0, none⟩), cp1, congrArg (fun n => Value.slice (some ⟨nb3, 0, none⟩) n cp1) ((show (tktT pv ep k l ls bl).length = tot from ((D5 hl hls).trans htot))).symm, (RdB.of hw1 (MemAt.ent 2 rfl (A2 (AM _))) (by simp))⟩, trivial⟩⟩ (by simp only [List.flatten_cons, List.flatten_nil, List.length_append, List.length_nil, (show (tktT pv ep k l ls bl).length = tot from ((D5 hl hls).trans htot))]; omega) (hG.at hw1)))) ?_
 rintro v1 L1 ⟨rfl, rfl⟩
 refine ⟨[(6, .bool (!(decide (tg = macL key ([tktT pv ep k l ls bl].flatten)) || decide (tg = mid (macL key ([tktT pv ep k l ls bl].flatten)) 0 16)))), (7, .bool (!(decide (tg = macL key ([tktT pv ep k l ls bl].flatten)) || decide (tg = mid (macL key ([tktT pv ep k l ls bl].flatten)) 0 16))))], ?_⟩
 show DP _ _ _ _ _ _ _ _ [_, _, _, _]
 refine CZ ⟨[4, 5], [0, 1, 2, 3, 6, 7], [0, 1, 2, 3], [6, 7], []⟩ rfl rfl (by decide +kernel) rfl ⟨⟨_, rfl, AB rfl (FK rfl)⟩, ⟨_, rfl, AB rfl (AH rfl)⟩, trivial⟩ ?_
 refine CC (F' := [(16, .bool (!(decide (tg = macL key ([tktT pv ep k l ls bl].flatten)) || decide (tg = mid (macL key ([tktT pv ep k l ls bl].flatten)) 0 16)))), (4, .nilIface)]) (by kernel_rfl) ?_
 refine AF (C9 _ rfl (by rw [show ((decide (tg = macL key ([tktT pv ep k l ls bl].flatten)) || decide (tg = mid (macL key ([tktT pv ep k l ls bl].flatten)) 0 16))) = false from (by rw [chk_tk _ _ _ _ _ _ _ htg]; exact decide_eq_false hau)] <;> rfl) ?_)
 refine AL (AE (AA (.iface 50 (I64 (4:Int))) (Ev_iface Tryd.underlying50 rfl rfl) rfl ?_))
 refine AA _ (AH rfl) rfl ?_
 refine AN (AF (BO (C8 (A5 (B8 [false, false, false, false] ?_)))))
 show JQ _ _ _ _ []
 refine BP (.iface 50 (I64 (4:Int))) (res1 Tryd.results48 (BT rfl)) fun w1 hw1 => ?_
 exact ⟨_, [], rfl, ⟨rfl, rfl⟩, hw1.sub (by simp) (by simp)⟩
theorem chkB_c (key : List UInt8) (pv ep : UInt64) (kd : Int) (ai : Option Addr) (ni ci : Nat) (l : List UInt64) (sa : Option Addr) (ns sc : Nat) (ls : List SealR) (bl : UInt64) (tg : List UInt8)  (w : World) (hk32 : key.length = 32) (hl : l.length = ni) (hnm : ni ≤ 2000000) (hnc : ni ≤ ci) (hcm : ci ≤ maxLen) (hv : RdV w ai (cu64 l)) (hls : ls.length = ns) (hnn : ns ≤ 2000000) (hnd : ns ≤ sc) (hcn : sc ≤ maxLen) (hs : RdV w sa (ls.flatMap sealC)) (htg : tg.length = 16) (hm : mayN pv ep kd l ls bl ≠ 0)  : Calls Tryd.prog 48 #[.agg (cu8 key).toArray, .agg (List.toArray (α := Value) ([U64 pv, U64 ep, I64 (kd), .slice ai ni ci, .slice sa ns sc, U64 bl] ++ cu8 tg))] w (Post w [] (fun v L => v = errV 50 (mayN pv ep kd l ls bl) ∧ L = [])) := by
 have hmx : maxLen = 9223372036854775807 := rfl
 refine enter (P := Tryd.prog) (f := 48) (fn := Tryd.f48) w [] 25 [] [.agg (cu8 key).toArray, .agg (List.toArray (α := Value) ([U64 pv, U64 ep, I64 (kd), .slice ai ni ci, .slice sa ns sc, U64 bl] ++ cu8 tg))] Tryd.func48 rfl rfl (by simp) (B7 (by simp) (by simp) (by simp)) ?_
 show JC _ _ _ [(0, .agg (cu8 key).toArray), (1, .agg (List.toArray (α := Value) ([U64 pv, U64 ep, I64 (kd), .slice ai ni ci, .slice sa ns sc, U64 bl] ++ cu8 tg)))] _
 refine AL (AE (AR (CN (.agg (cu8 key).toArray) (cu8 key) rfl (by first | rfl | simp)) rfl ?_))
 rintro v1 L1 ⟨nb1, hnb1, rfl, rfl⟩
 show JL _ _ _ _ ((2, Ptr nb1 0) :: _) [⟨nb1, cu8 key, 54, (0, 0)⟩]
 refine AR (CN (.agg (List.toArray (α := Value) ([U64 pv, U64 ep, I64 (kd), .slice ai ni ci, .slice sa ns sc, U64 bl] ++ cu8 tg))) ([U64 pv, U64 ep, I64 (kd), .slice ai ni ci, .slice sa ns sc, U64 bl] ++ cu8 tg) rfl (by first | rfl | simp)) rfl ?_
 rintro v1 L1 ⟨nb2, hnb2, rfl, rfl⟩
 show JL _ _ _ _ ((3, Ptr nb2 0) :: _) [_, ⟨nb2, [U64 pv, U64 ep, I64 (kd), .slice ai ni ci, .slice sa ns sc, U64 bl] ++ cu8 tg, 29, (0, 0)⟩]
 refine AA _ (AH rfl) rfl ?_
 refine AN (AF (AL (AE (AA (.agg (List.toArray (α := Value) ([U64 pv, U64 ep, I64 (kd), .slice ai ni ci, .slice sa ns sc, U64 bl] ++ cu8 tg))) (AK rfl (BH BE AW (by simp [htg]) (MemAt.ent 1 rfl (AM _)))) rfl ?_))))
 refine AR (A3 114 [.agg (List.toArray (α := Value) ([U64 pv, U64 ep, I64 (kd), .slice ai ni ci, .slice sa ns sc, U64 bl] ++ cu8 tg))] (.tuple #[.slice none 0 0, errV 50 (mayN pv ep (kd) l ls bl)]) (A0 [.agg (List.toArray (α := Value) ([U64 pv, U64 ep, I64 (kd), .slice ai ni ci, .slice sa ns sc, U64 bl] ++ cu8 tg))] DL rfl) (fun w1 hw1 => F5 pv ep (kd) ai ni ci l sa ns sc ls bl tg w1 hl (by omega) (by omega) (by omega) (C1 hw1 rfl hv) hls (by omega) (by omega) (by omega) (C1 hw1 rfl hs) htg hm)) rfl ?_
 rintro v1 L1 ⟨rfl, rfl⟩
 show JL _ _ _ _ ((9, .tuple #[.slice none 0 0, errV 50 (mayN pv ep (kd) l ls bl)]) :: _) [_, _]
 refine AA _ (AD rfl) rfl ?_
 refine AA _ (BN rfl rfl) rfl ?_
 refine AA _ (BN rfl rfl) rfl ?_
 refine AA _ (AH rfl) rfl ?_
 refine AA _ (AH rfl) rfl ?_
 refine AN (AF (AL (B5 (AL (AE (AA _ (AD rfl) rfl ?_))))))
 refine AA (.bool (!(decide (mayN pv ep (kd) l ls bl = 0)))) (DC _ _ _ rfl rfl (fun _ => C5 ..) fun _ => EW BB _ _) rfl ?_
 refine AA _ (AH rfl) rfl ?_
 refine AN (AF (C9 _ rfl (by rw [show (decide (mayN pv ep (kd) l ls bl = 0)) = false from (decide_eq_false hm)] <;> rfl) ?_))
 refine AL (AE (AA _ (AD rfl) rfl ?_))
 refine AA _ (AH rfl) rfl ?_
 refine AN (AF (BO (C8 (A5 (B8 [false, false] ?_)))))
 show JQ _ _ _ _ []
 refine BP (errV 50 (mayN pv ep (kd) l ls bl)) (res1 Tryd.results48 (BT rfl)) fun w1 hw1 => ?_
 exact ⟨_, [], rfl, ⟨rfl, rfl⟩, hw1.sub (by simp) (by simp)⟩
theorem chk_w (key : List UInt8) (pv ep : UInt64) (k : Nat) (ai : Option Addr) (ni ci : Nat) (l : List UInt64) (sa : Option Addr) (ns sc : Nat) (ls : List SealR) (bl : UInt64) (tg : List UInt8) (tot : Nat) (w : World) (hk32 : key.length = 32) (hl : l.length = ni) (hnm : ni ≤ 2000000) (hnc : ni ≤ ci) (hcm : ci ≤ maxLen) (hv : RdV w ai (cu64 l)) (hls : ls.length = ns) (hnn : ns ≤ 2000000) (hnd : ns ≤ sc) (hcn : sc ≤ maxLen) (hs : RdV w sa (ls.flatMap sealC)) (htg : tg.length = 16) (hmay : mayN pv ep (k:Int) l ls bl = 0) (hk : k = 1 ∨ k = 2 ∨ k = 3) (hsm : ns ≤ 300) (htot : tktN k ni ns = tot) (htb : tot ≤ 30000) (hG : GLs w) : Calls Tryd.prog 48 #[.agg (cu8 key).toArray, .agg (List.toArray (α := Value) ([U64 pv, U64 ep, I64 ((k:Int)), .slice ai ni ci, .slice sa ns sc, U64 bl] ++ cu8 tg))] w (Post w [] (fun v L => v = errV 50 (chkG key pv ep k l ls bl tg) ∧ L = [])) := by
  by_cases hau : tg = tkG key pv ep k l ls bl
  · unfold chkG; rw [if_pos hau]
    exact chkK_c key pv ep k ai ni ci l sa ns sc ls bl tg tot w hk32 hl hnm hnc hcm hv hls hnn hnd hcn hs htg hmay hk hsm htot htb hG hau
  · unfold chkG; rw [if_neg hau]
    exact chkA_c key pv ep k ai ni ci l sa ns sc ls bl tg tot w hk32 hl hnm hnc hcm hv hls hnn hnd hcn hs htg hmay hk hsm htot htb hG hau

theorem rtag_c (key : List UInt8) (pv ep : UInt64) (k : Nat) (ai : Option Addr) (ni ci : Nat) (l : List UInt64) (sa : Option Addr) (ns sc : Nat) (ls : List SealR) (bl : UInt64) (tg : List UInt8) (tot : Nat)  (w : World) (hk32 : key.length = 32) (hl : l.length = ni) (hnm : ni ≤ 2000000) (hnc : ni ≤ ci) (hcm : ci ≤ maxLen) (hv : RdV w ai (cu64 l)) (hls : ls.length = ns) (hnn : ns ≤ 2000000) (hnd : ns ≤ sc) (hcn : sc ≤ maxLen) (hs : RdV w sa (ls.flatMap sealC)) (htg : tg.length = 16) (hmay : mayN pv ep (k:Int) l ls bl = 0) (hk : k = 1 ∨ k = 2 ∨ k = 3) (hsm : ns ≤ 300) (htot : tktN k ni ns = tot) (htb : tot ≤ 30000) (hGr : GLr w) (hGi : GLi w)  : Calls Tryd.prog 50 #[.agg (cu8 key).toArray, .agg (List.toArray (α := Value) ([U64 pv, U64 ep, I64 ((k:Int)), .slice ai ni ci, .slice sa ns sc, U64 bl] ++ cu8 tg))] w (Post w [] (fun v L => v = .agg (cu8 (tkG key pv ep k l ls bl)).toArray ∧ L = [])) := by
 have hmx : maxLen = 9223372036854775807 := rfl
 refine enter (P := Tryd.prog) (f := 50) (fn := Tryd.f50) w [] 15 [] [.agg (cu8 key).toArray, .agg (List.toArray (α := Value) ([U64 pv, U64 ep, I64 ((k:Int)), .slice ai ni ci, .slice sa ns sc, U64 bl] ++ cu8 tg))] Tryd.func50 rfl rfl (by simp) (B7 (by simp) (by simp) (by simp)) ?_
 show JC _ _ _ [(0, .agg (cu8 key).toArray), (1, .agg (List.toArray (α := Value) ([U64 pv, U64 ep, I64 ((k:Int)), .slice ai ni ci, .slice sa ns sc, U64 bl] ++ cu8 tg)))] _
 refine AL (AE (AR (CN (.agg (cu8 key).toArray) (cu8 key) rfl (by first | rfl | simp)) rfl ?_))
 rintro v1 L1 ⟨nb1, hnb1, rfl, rfl⟩
 show JL _ _ _ _ ((2, Ptr nb1 0) :: _) [⟨nb1, cu8 key, 54, (0, 0)⟩]
 refine AR (CN (.agg (List.toArray (α := Value) ([U64 pv, U64 ep, I64 ((k:Int)), .slice ai ni ci, .slice sa ns sc, U64 bl] ++ cu8 tg))) ([U64 pv, U64 ep, I64 ((k:Int)), .slice ai ni ci, .slice sa ns sc, U64 bl] ++ cu8 tg) rfl (by first | rfl | simp)) rfl ?_
 rintro v1 L1 ⟨nb2, hnb2, rfl, rfl⟩
 show JL _ _ _ _ ((3, Ptr nb2 0) :: _) [_, ⟨nb2, [U64 pv, U64 ep, I64 ((k:Int)), .slice ai ni ci, .slice sa ns sc, U64 bl] ++ cu8 tg, 38, (0, 0)⟩]
 refine AR (BJ _ (cu8 (zr8 16)) Tryd.zeroValue27 (by kernel_rfl)) rfl ?_
 rintro v1 L1 ⟨nb3, hnb3, rfl, rfl⟩
 show JL _ _ _ _ ((4, Ptr nb3 0) :: _) [_, _, ⟨nb3, cu8 (zr8 16), 27, (0, 0)⟩]
 refine AN (AF (AL (CQ 15 5 [(0, Slc nb1 0 32 32), (1, .agg (List.toArray (α := Value) ([U64 pv, U64 ep, I64 ((k:Int)), .slice ai ni ci, .slice sa ns sc, U64 bl] ++ cu8 tg)))] BQ rfl (by decide +kernel) ?_)))
 refine DP_two ⟨[], [0, 1], [], [0, 1], [2, 4]⟩ 2 4 _ _ rfl rfl (by decide +kernel) rfl ⟨⟨_, rfl, AB rfl (BX 32 5 1 0 32 0 32 BL AX rfl rfl rfl (by omega) (by omega) (by omega) (by omega) (by omega) 32 (by omega))⟩, ⟨_, rfl, AB rfl (AK rfl (BH DO CM (by simp [htg]) (MemAt.ent 1 rfl (AM _))))⟩, trivial⟩ rfl rfl (AZ rfl (BG 117 [.agg (List.toArray (α := Value) ([U64 pv, U64 ep, I64 ((k:Int)), .slice ai ni ci, .slice sa ns sc, U64 bl] ++ cu8 tg))] _ (A0 [.agg (List.toArray (α := Value) ([U64 pv, U64 ep, I64 ((k:Int)), .slice ai ni ci, .slice sa ns sc, U64 bl] ++ cu8 tg))] Tryd.call117 rfl) (fun w1 hw1 => rtext_w pv ep k ai ni ci l sa ns sc ls bl tg tot w1 hl (by omega) (by omega) (by omega) (C1 hw1 rfl hv) hls (by omega) (by omega) (by omega) (C1 hw1 rfl hs) htg hmay hk hsm htot))) (AZ rfl (BJ _ (cu8 (zr8 32)) DQ (by kernel_rfl))) ?_ ?_
 ·
  rintro v1 L1 ⟨_, ⟨nb4, sp1, cp1, rfl, rfl, hc1, hc2, hc3⟩, rfl⟩
  refine ⟨[], ?_⟩
  show DP _ _ _ _ _ _ _ _ [_, _, _, ⟨nb4, cu8 (tktT pv ep k l ls bl) ++ sp1, 5, (0, 0)⟩]
  refine DP_two ⟨[2], [0, 1], [1], [0], [3, 4]⟩ 3 4 _ _ rfl rfl (by decide +kernel) rfl ⟨⟨_, rfl, AB rfl (BX 32 5 1 0 32 0 32 BL AX rfl rfl rfl (by omega) (by omega) (by omega) (by omega) (by omega) 32 (by omega))⟩, trivial⟩ rfl rfl (AZ rfl (A3 92 [Slc nb1 0 32 32, Slc nb4 0 tot cp1] (.agg (cu8 (macL key (tktT pv ep k l ls bl))).toArray) (A0 [Slc nb1 0 32 32, Slc nb4 0 tot cp1] Tryd.call92 rfl) (fun w1 hw1 => rmac_c (some ⟨nb1, 0, none⟩) 32 32 key (some ⟨nb4, 0, none⟩) tot cp1 (tktT pv ep k l ls bl) w1 hk32 (fun h => by cases h) (by omega) (RdB.of hw1 (MemAt.ent 0 rfl (AM _)) (by simp)) (show (tktT pv ep k l ls bl).length = tot from ((D5 hl hls).trans htot)) (by omega) (RdB.of hw1 (MemAt.ent 3 rfl (A2 (AM _))) (by simp)) (GLr.at hw1 hGr) (GLi.at hw1 hGi)))) (AZ rfl (BJ _ (cu8 (zr8 32)) DQ (by kernel_rfl))) ?_ ?_
  ·
   rintro v1 L1 ⟨rfl, rfl⟩
   refine ⟨[], ?_⟩
   show DP _ _ _ _ _ _ _ _ [_, _, _, _]
   refine BR ⟨[2, 3], [0, 1], [0, 1], [], [4]⟩ 4 _ rfl rfl (by decide +kernel) rfl trivial rfl (AZ rfl (BJ _ (cu8 (zr8 32)) DQ (by kernel_rfl))) ?_
   rintro v1 L1 ⟨nb7, hnb7, rfl, rfl⟩
   refine ⟨[], ?_⟩
   show DP _ _ _ _ _ _ _ _ [_, _, _, _, ⟨nb7, cu8 (zr8 32), 54, (0, 0)⟩]
   refine BR ⟨[2, 3, 4], [0, 1], [0, 1], [], [5]⟩ 5 _ rfl rfl (by decide +kernel) rfl trivial rfl (AZ rfl (A6 4 nb7 0 32 (cu8 (zr8 32)) 54 (.agg (cu8 (macL key (tktT pv ep k l ls bl))).toArray) (cu8 (macL key (tktT pv ep k l ls bl))) (cu8 (macL key (tktT pv ep k l ls bl))) rfl rfl rfl (by first | rfl | simp) CD (CG (C6 _ _)) (by first | exact CK | exact DW | exact DT | (simp [cu8, cu32, cu64, Value.oneCell']; done)) (by simp [(AP 32)]) (BF (by simp [(AP 32), (C6 _ _)])))) ?_
   rintro v1 L1 ⟨rfl, rfl⟩
   refine ⟨[], ?_⟩
   show DP _ _ _ _ _ _ _ _ [_, _, _, _, ⟨nb7, cu8 (macL key (tktT pv ep k l ls bl)), 54, (0, 0)⟩]
   refine CZ ⟨[2, 3, 4, 5], [0, 1], [0, 1], [], []⟩ rfl rfl (by decide +kernel) rfl trivial ?_
   refine CC (F' := [(5, Ptr nb7 0), (4, Ptr nb3 0)]) (by kernel_rfl) ?_
   refine AF (AL (AE (AR (BJ _ (cu8 (zr8 16)) Tryd.zeroValue27 (by kernel_rfl)) rfl ?_)))
   rintro v1 L1 ⟨nb8, hnb8, rfl, rfl⟩
   show JL _ _ _ _ ((6, Ptr nb8 0) :: _) [_, _, _, _, _, ⟨nb8, cu8 (zr8 16), 27, (0, 0)⟩]
   refine AN (AF (AL (CQ 15 2 [(0, Slc nb8 0 16 16), (1, Slc nb7 0 32 32)] BQ rfl (by decide +kernel) ?_)))
   have hl1 : (mid (macL key (tktT pv ep k l ls bl)) 0 16).length = 16 := EH (by rw [(C6 _ _)]; omega)
   refine BR ⟨[], [0, 1], [], [0, 1], [2]⟩ 2 _ rfl rfl (by decide +kernel) rfl ⟨⟨_, rfl, AB rfl (BX 16 5 1 0 16 0 16 BC AX rfl rfl rfl (by omega) (by omega) (by omega) (by omega) (by omega) 16 (by omega))⟩, ⟨_, rfl, AB rfl (BX 32 5 1 0 32 0 32 BL AX rfl rfl rfl (by omega) (by omega) (by omega) (by omega) (by omega) 32 (by omega))⟩, trivial⟩ rfl (AZ rfl (FA 43 43 5 5 nb8 0 16 16 (cu8 (zr8 16)) 27 (some ⟨nb7, 0, none⟩) 32 32 16 (cu8 (mid (macL key (tktT pv ep k l ls bl)) 0 16)) (cu8 (mid (macL key (tktT pv ep k l ls bl)) 0 16)) AO EO rfl rfl rfl rfl (by simp [hl1]; try omega) (SrcAt.mem (MemAt.ent 4 rfl (segm_u8 0 16 (by rw [(C6 _ _)]; omega)))) (by simp [(AP 16)]; try omega) (by first | exact CK | exact DW | exact DT | (simp [cu8, cu32, cu64, Value.oneCell']; done)) (BF (by simp [(AP 16), hl1])))) ?_
   rintro v1 L1 ⟨rfl, rfl⟩
   refine ⟨[], ?_⟩
   show DP _ _ _ _ _ _ _ _ [_, _, _, _, _, ⟨nb8, cu8 (mid (macL key (tktT pv ep k l ls bl)) 0 16), 27, (0, 0)⟩]
   refine CZ ⟨[2], [0, 1], [0, 1], [], []⟩ rfl rfl (by decide +kernel) rfl trivial ?_
   refine CC (F' := [(4, Ptr nb3 0), (6, Ptr nb8 0)]) (by kernel_rfl) ?_
   refine AF (AL (AE (AA (.agg (cu8 (mid (macL key (tktT pv ep k l ls bl)) 0 16)).toArray) (AK rfl (BH C2 A1 (CG hl1) (MemAt.ent 5 rfl (AM _)))) rfl ?_)))
   refine AR (A6 2 nb3 0 16 (cu8 (zr8 16)) 27 (.agg (cu8 (mid (macL key (tktT pv ep k l ls bl)) 0 16)).toArray) (cu8 (mid (macL key (tktT pv ep k l ls bl)) 0 16)) (cu8 (mid (macL key (tktT pv ep k l ls bl)) 0 16)) rfl rfl rfl (by first | rfl | simp) A1 (CG hl1) (by first | exact CK | exact DW | exact DT | (simp [cu8, cu32, cu64, Value.oneCell']; done)) (by simp [(AP 16)]) (BF (by simp [(AP 16), hl1]))) rfl ?_
   rintro v1 L1 ⟨rfl, rfl⟩
   show JL _ _ _ _ _ [_, _, ⟨nb3, cu8 (mid (macL key (tktT pv ep k l ls bl)) 0 16), 27, (0, 0)⟩, _, _, _]
   refine AN (AF (BO (B8 [false, false, true, false, false, false] ?_)))
   show JQ _ _ _ _ [_]
   refine BP (.agg (cu8 (mid (macL key (tktT pv ep k l ls bl)) 0 16)).toArray) (res1 Tryd.results50 (ED rfl (BH C2 A1 (CG hl1) (MemAt.ent 0 rfl (AM _))))) fun w1 hw1 => ?_
   refine ⟨_, [], rfl, ⟨?_, rfl⟩, hw1.sub (by simp) (by simp)⟩
   first | rfl | (unfold tkG; rfl) | (unfold tkG; simp)
  ·
   rintro v1 L1 ⟨nb6, hnb6, rfl, rfl⟩
   refine ⟨[], ?_⟩
   show DP _ _ _ _ _ _ _ _ [_, _, _, _, ⟨nb6, cu8 (zr8 32), 54, (0, 0)⟩]
   refine BR ⟨[2, 4], [0, 1], [1], [0], [3]⟩ 3 _ rfl rfl (by decide +kernel) rfl ⟨⟨_, rfl, AB rfl (BX 32 5 1 0 32 0 32 BL AX rfl rfl rfl (by omega) (by omega) (by omega) (by omega) (by omega) 32 (by omega))⟩, trivial⟩ rfl (AZ rfl (A3 92 [Slc nb1 0 32 32, Slc nb4 0 tot cp1] (.agg (cu8 (macL key (tktT pv ep k l ls bl))).toArray) (A0 [Slc nb1 0 32 32, Slc nb4 0 tot cp1] Tryd.call92 rfl) (fun w1 hw1 => rmac_c (some ⟨nb1, 0, none⟩) 32 32 key (some ⟨nb4, 0, none⟩) tot cp1 (tktT pv ep k l ls bl) w1 hk32 (fun h => by cases h) (by omega) (RdB.of hw1 (MemAt.ent 0 rfl (AM _)) (by simp)) (show (tktT pv ep k l ls bl).length = tot from ((D5 hl hls).trans htot)) (by omega) (RdB.of hw1 (MemAt.ent 3 rfl (A2 (AM _))) (by simp)) (GLr.at hw1 hGr) (GLi.at hw1 hGi)))) ?_
   rintro v1 L1 ⟨rfl, rfl⟩
   refine ⟨[], ?_⟩
   show DP _ _ _ _ _ _ _ _ [_, _, _, _, _]
   refine BR ⟨[2, 4, 3], [0, 1], [0, 1], [], [5]⟩ 5 _ rfl rfl (by decide +kernel) rfl trivial rfl (AZ rfl (A6 4 nb6 0 32 (cu8 (zr8 32)) 54 (.agg (cu8 (macL key (tktT pv ep k l ls bl))).toArray) (cu8 (macL key (tktT pv ep k l ls bl))) (cu8 (macL key (tktT pv ep k l ls bl))) rfl rfl rfl (by first | rfl | simp) CD (CG (C6 _ _)) (by first | exact CK | exact DW | exact DT | (simp [cu8, cu32, cu64, Value.oneCell']; done)) (by simp [(AP 32)]) (BF (by simp [(AP 32), (C6 _ _)])))) ?_
   rintro v1 L1 ⟨rfl, rfl⟩
   refine ⟨[], ?_⟩
   show DP _ _ _ _ _ _ _ _ [_, _, _, _, ⟨nb6, cu8 (macL key (tktT pv ep k l ls bl)), 54, (0, 0)⟩]
   refine CZ ⟨[2, 4, 3, 5], [0, 1], [0, 1], [], []⟩ rfl rfl (by decide +kernel) rfl trivial ?_
   refine CC (F' := [(5, Ptr nb6 0), (4, Ptr nb3 0)]) (by kernel_rfl) ?_
   refine AF (AL (AE (AR (BJ _ (cu8 (zr8 16)) Tryd.zeroValue27 (by kernel_rfl)) rfl ?_)))
   rintro v1 L1 ⟨nb9, hnb9, rfl, rfl⟩
   show JL _ _ _ _ ((6, Ptr nb9 0) :: _) [_, _, _, _, _, ⟨nb9, cu8 (zr8 16), 27, (0, 0)⟩]
   refine AN (AF (AL (CQ 15 2 [(0, Slc nb9 0 16 16), (1, Slc nb6 0 32 32)] BQ rfl (by decide +kernel) ?_)))
   have hl2 : (mid (macL key (tktT pv ep k l ls bl)) 0 16).length = 16 := EH (by rw [(C6 _ _)]; omega)
   refine BR ⟨[], [0, 1], [], [0, 1], [2]⟩ 2 _ rfl rfl (by decide +kernel) rfl ⟨⟨_, rfl, AB rfl (BX 16 5 1 0 16 0 16 BC AX rfl rfl rfl (by omega) (by omega) (by omega) (by omega) (by omega) 16 (by omega))⟩, ⟨_, rfl, AB rfl (BX 32 5 1 0 32 0 32 BL AX rfl rfl rfl (by omega) (by omega) (by omega) (by omega) (by omega) 32 (by omega))⟩, trivial⟩ rfl (AZ rfl (FA 43 43 5 5 nb9 0 16 16 (cu8 (zr8 16)) 27 (some ⟨nb6, 0, none⟩) 32 32 16 (cu8 (mid (macL key (tktT pv ep k l ls bl)) 0 16)) (cu8 (mid (macL key (tktT pv ep k l ls bl)) 0 16)) AO EO rfl rfl rfl rfl (by simp [hl2]; try omega) (SrcAt.mem (MemAt.ent 4 rfl (segm_u8 0 16 (by rw [(C6 _ _)]; omega)))) (by simp [(AP 16)]; try omega) (by first | exact CK | exact DW | exact DT | (simp [cu8, cu32, cu64, Value.oneCell']; done)) (BF (by simp [(AP 16), hl2])))) ?_
   rintro v1 L1 ⟨rfl, rfl⟩
   refine ⟨[], ?_⟩
   show DP _ _ _ _ _ _ _ _ [_, _, _, _, _, ⟨nb9, cu8 (mid (macL key (tktT pv ep k l ls bl)) 0 16), 27, (0, 0)⟩]
   refine CZ ⟨[2], [0, 1], [0, 1], [], []⟩ rfl rfl (by decide +kernel) rfl trivial ?_
   refine CC (F' := [(4, Ptr nb3 0), (6, Ptr nb9 0)]) (by kernel_rfl) ?_
   refine AF (AL (AE (AA (.agg (cu8 (mid (macL key (tktT pv ep k l ls bl)) 0 16)).toArray) (AK rfl (BH C2 A1 (CG hl2) (MemAt.ent 5 rfl (AM _)))) rfl ?_)))
   refine AR (A6 2 nb3 0 16 (cu8 (zr8 16)) 27 (.agg (cu8 (mid (macL key (tktT pv ep k l ls bl)) 0 16)).toArray) (cu8 (mid (macL key (tktT pv ep k l ls bl)) 0 16)) (cu8 (mid (macL key (tktT pv ep k l ls bl)) 0 16)) rfl rfl rfl (by first | rfl | simp) A1 (CG hl2) (by first | exact CK | exact DW | exact DT | (simp [cu8, cu32, cu64, Value.oneCell']; done)) (by simp [(AP 16)]) (BF (by simp [(AP 16), hl2]))) rfl ?_
   rintro v1 L1 ⟨rfl, rfl⟩
   show JL _ _ _ _ _ [_, _, ⟨nb3, cu8 (mid (macL key (tktT pv ep k l ls bl)) 0 16), 27, (0, 0)⟩, _, _, _]
   refine AN (AF (BO (B8 [false, false, true, false, false, false] ?_)))
   show JQ _ _ _ _ [_]
   refine BP (.agg (cu8 (mid (macL key (tktT pv ep k l ls bl)) 0 16)).toArray) (res1 Tryd.results50 (ED rfl (BH C2 A1 (CG hl2) (MemAt.ent 0 rfl (AM _))))) fun w1 hw1 => ?_
   refine ⟨_, [], rfl, ⟨?_, rfl⟩, hw1.sub (by simp) (by simp)⟩
   first | rfl | (unfold tkG; rfl) | (unfold tkG; simp)
 ·
  rintro v1 L1 ⟨nb5, hnb5, rfl, rfl⟩
  refine ⟨[], ?_⟩
  show DP _ _ _ _ _ _ _ _ [_, _, _, ⟨nb5, cu8 (zr8 32), 54, (0, 0)⟩]
  refine BR ⟨[4], [0, 1], [], [0, 1], [2]⟩ 2 _ rfl rfl (by decide +kernel) rfl ⟨⟨_, rfl, AB rfl (BX 32 5 1 0 32 0 32 BL AX rfl rfl rfl (by omega) (by omega) (by omega) (by omega) (by omega) 32 (by omega))⟩, ⟨_, rfl, AB rfl (AK rfl (BH DO CM (by simp [htg]) (MemAt.ent 1 rfl (AM _))))⟩, trivial⟩ rfl (AZ rfl (BG 117 [.agg (List.toArray (α := Value) ([U64 pv, U64 ep, I64 ((k:Int)), .slice ai ni ci, .slice sa ns sc, U64 bl] ++ cu8 tg))] _ (A0 [.agg (List.toArray (α := Value) ([U64 pv, U64 ep, I64 ((k:Int)), .slice ai ni ci, .slice sa ns sc, U64 bl] ++ cu8 tg))] Tryd.call117 rfl) (fun w1 hw1 => rtext_w pv ep k ai ni ci l sa ns sc ls bl tg tot w1 hl (by omega) (by omega) (by omega) (C1 hw1 rfl hv) hls (by omega) (by omega) (by omega) (C1 hw1 rfl hs) htg hmay hk hsm htot))) ?_
  rintro v1 L1 ⟨_, ⟨nb10, sp2, cp2, rfl, rfl, hc4, hc5, hc6⟩, rfl⟩
  refine ⟨[], ?_⟩
  show DP _ _ _ _ _ _ _ _ [_, _, _, _, ⟨nb10, cu8 (tktT pv ep k l ls bl) ++ sp2, 5, (0, 0)⟩]
  refine BR ⟨[4, 2], [0, 1], [1], [0], [3]⟩ 3 _ rfl rfl (by decide +kernel) rfl ⟨⟨_, rfl, AB rfl (BX 32 5 1 0 32 0 32 BL AX rfl rfl rfl (by omega) (by omega) (by omega) (by omega) (by omega) 32 (by omega))⟩, trivial⟩ rfl (AZ rfl (A3 92 [Slc nb1 0 32 32, Slc nb10 0 tot cp2] (.agg (cu8 (macL key (tktT pv ep k l ls bl))).toArray) (A0 [Slc nb1 0 32 32, Slc nb10 0 tot cp2] Tryd.call92 rfl) (fun w1 hw1 => rmac_c (some ⟨nb1, 0, none⟩) 32 32 key (some ⟨nb10, 0, none⟩) tot cp2 (tktT pv ep k l ls bl) w1 hk32 (fun h => by cases h) (by omega) (RdB.of hw1 (MemAt.ent 0 rfl (AM _)) (by simp)) (show (tktT pv ep k l ls bl).length = tot from ((D5 hl hls).trans htot)) (by omega) (RdB.of hw1 (MemAt.ent 4 rfl (A2 (AM _))) (by simp)) (GLr.at hw1 hGr) (GLi.at hw1 hGi)))) ?_
  rintro v1 L1 ⟨rfl, rfl⟩
  refine ⟨[], ?_⟩
  show DP _ _ _ _ _ _ _ _ [_, _, _, _, _]
  refine BR ⟨[4, 2, 3], [0, 1], [0, 1], [], [5]⟩ 5 _ rfl rfl (by decide +kernel) rfl trivial rfl (AZ rfl (A6 3 nb5 0 32 (cu8 (zr8 32)) 54 (.agg (cu8 (macL key (tktT pv ep k l ls bl))).toArray) (cu8 (macL key (tktT pv ep k l ls bl))) (cu8 (macL key (tktT pv ep k l ls bl))) rfl rfl rfl (by first | rfl | simp) CD (CG (C6 _ _)) (by first | exact CK | exact DW | exact DT | (simp [cu8, cu32, cu64, Value.oneCell']; done)) (by simp [(AP 32)]) (BF (by simp [(AP 32), (C6 _ _)])))) ?_
  rintro v1 L1 ⟨rfl, rfl⟩
  refine ⟨[], ?_⟩
  show DP _ _ _ _ _ _ _ _ [_, _, _, ⟨nb5, cu8 (macL key (tktT pv ep k l ls bl)), 54, (0, 0)⟩, _]
  refine CZ ⟨[4, 2, 3, 5], [0, 1], [0, 1], [], []⟩ rfl rfl (by decide +kernel) rfl trivial ?_
  refine CC (F' := [(5, Ptr nb5 0), (4, Ptr nb3 0)]) (by kernel_rfl) ?_
  refine AF (AL (AE (AR (BJ _ (cu8 (zr8 16)) Tryd.zeroValue27 (by kernel_rfl)) rfl ?_)))
  rintro v1 L1 ⟨nb11, hnb11, rfl, rfl⟩
  show JL _ _ _ _ ((6, Ptr nb11 0) :: _) [_, _, _, _, _, ⟨nb11, cu8 (zr8 16), 27, (0, 0)⟩]
  refine AN (AF (AL (CQ 15 2 [(0, Slc nb11 0 16 16), (1, Slc nb5 0 32 32)] BQ rfl (by decide +kernel) ?_)))
  have hl3 : (mid (macL key (tktT pv ep k l ls bl)) 0 16).length = 16 := EH (by rw [(C6 _ _)]; omega)
  refine BR ⟨[], [0, 1], [], [0, 1], [2]⟩ 2 _ rfl rfl (by decide +kernel) rfl ⟨⟨_, rfl, AB rfl (BX 16 5 1 0 16 0 16 BC AX rfl rfl rfl (by omega) (by omega) (by omega) (by omega) (by omega) 16 (by omega))⟩, ⟨_, rfl, AB rfl (BX 32 5 1 0 32 0 32 BL AX rfl rfl rfl (by omega) (by omega) (by omega) (by omega) (by omega) 32 (by omega))⟩, trivial⟩ rfl (AZ rfl (FA 43 43 5 5 nb11 0 16 16 (cu8 (zr8 16)) 27 (some ⟨nb5, 0, none⟩) 32 32 16 (cu8 (mid (macL key (tktT pv ep k l ls bl)) 0 16)) (cu8 (mid (macL key (tktT pv ep k l ls bl)) 0 16)) AO EO rfl rfl rfl rfl (by simp [hl3]; try omega) (SrcAt.mem (MemAt.ent 3 rfl (segm_u8 0 16 (by rw [(C6 _ _)]; omega)))) (by simp [(AP 16)]; try omega) (by first | exact CK | exact DW | exact DT | (simp [cu8, cu32, cu64, Value.oneCell']; done)) (BF (by simp [(AP 16), hl3])))) ?_
  rintro v1 L1 ⟨rfl, rfl⟩
  refine ⟨[], ?_⟩
  show DP _ _ _ _ _ _ _ _ [_, _, _, _, _, ⟨nb11, cu8 (mid (macL key (tktT pv ep k l ls bl)) 0 16), 27, (0, 0)⟩]
  refine CZ ⟨[2], [0, 1], [0, 1], [], []⟩ rfl rfl (by decide +kernel) rfl trivial ?_
  refine CC (F' := [(4, Ptr nb3 0), (6, Ptr nb11 0)]) (by kernel_rfl) ?_
  refine AF (AL (AE (AA (.agg (cu8 (mid (macL key (tktT pv ep k l ls bl)) 0 16)).toArray) (AK rfl (BH C2 A1 (CG hl3) (MemAt.ent 5 rfl (AM _)))) rfl ?_)))
  refine AR (A6 2 nb3 0 16 (cu8 (zr8 16)) 27 (.agg (cu8 (mid (macL key (tktT pv ep k l ls bl)) 0 16)).toArray) (cu8 (mid (macL key (tktT pv ep k l ls bl)) 0 16)) (cu8 (mid (macL key (tktT pv ep k l ls bl)) 0 16)) rfl rfl rfl (by first | rfl | simp) A1 (CG hl3) (by first | exact CK | exact DW | exact DT | (simp [cu8, cu32, cu64, Value.oneCell']; done)) (by simp [(AP 16)]) (BF (by simp [(AP 16), hl3]))) rfl ?_
  rintro v1 L1 ⟨rfl, rfl⟩
  show JL _ _ _ _ _ [_, _, ⟨nb3, cu8 (mid (macL key (tktT pv ep k l ls bl)) 0 16), 27, (0, 0)⟩, _, _, _]
  refine AN (AF (BO (B8 [false, false, true, false, false, false] ?_)))
  show JQ _ _ _ _ [_]
  refine BP (.agg (cu8 (mid (macL key (tktT pv ep k l ls bl)) 0 16)).toArray) (res1 Tryd.results50 (ED rfl (BH C2 A1 (CG hl3) (MemAt.ent 0 rfl (AM _))))) fun w1 hw1 => ?_
  refine ⟨_, [], rfl, ⟨?_, rfl⟩, hw1.sub (by simp) (by simp)⟩
  first | rfl | (unfold tkG; rfl) | (unfold tkG; simp)
theorem DY {w : World} {v0 : Value} {v1 : Value} {v2 : Value} {v3 : Value} (h0 : v0.cells = [v0].toArray) (h1 : v1.cells = [v1].toArray) (h2 : v2.cells = [v2].toArray) (h3 : v3.cells = [v3].toArray) : (Instr.build 26 ([(0, v0), (1, v1), (2, v2), (3, v3)] : List (Nat × Value)).toArray).run Tryd.prog w = .ok (.agg (((([v0] : List Value) ++ ([v1] : List Value)) ++ ([v2] : List Value)) ++ ([v3] : List Value)).toArray) w :=
 FM (places := #[(0, 1), (1, 1), (2, 1), (3, 1)]) (Z := (([I64 (0:Int)] : List Value) ++ (([.slice none 0 0] : List Value) ++ (([.slice none 0 0] : List Value) ++ (([U64 (0:UInt64)] : List Value) ++ []))))) (fun _ => by kernel_rfl) AG (fun _ => by kernel_rfl) ((fill_start ([I64 (0:Int)] : List Value) (([.slice none 0 0] : List Value) ++ (([.slice none 0 0] : List Value) ++ (([U64 (0:UInt64)] : List Value) ++ []))) ([v0] : List Value) h0 (by simp [AP]) rfl).trans ((FR ([v0] : List Value) ([.slice none 0 0] : List Value) (([.slice none 0 0] : List Value) ++ (([U64 (0:UInt64)] : List Value) ++ [])) ([v1] : List Value) h1 (by simp [AP]) rfl).trans ((FR (([v0] : List Value) ++ ([v1] : List Value)) ([.slice none 0 0] : List Value) (([U64 (0:UInt64)] : List Value) ++ []) ([v2] : List Value) h2 (by simp [AP]) rfl).trans ((FR ((([v0] : List Value) ++ ([v1] : List Value)) ++ ([v2] : List Value)) ([U64 (0:UInt64)] : List Value) [] ([v3] : List Value) h3 (by simp [AP]) rfl).trans (by simp [Instr.fill])))))
theorem EA {w : World} {v0 : Value} {v1 : Value} {c2 : List Value} (h0 : v0.cells = [v0].toArray) (h1 : v1.cells = [v1].toArray) (h2 : c2.length = 4) : (Instr.build 29 ([(0, v0), (1, v1), (2, .agg c2.toArray)] : List (Nat × Value)).toArray).run Tryd.prog w = .ok (.agg (((([v0] : List Value) ++ ([v1] : List Value)) ++ c2) ++ (cu8 (zr8 16) : List Value)).toArray) w :=
 FM (places := #[(0, 1), (1, 1), (2, 4), (6, 16)]) (Z := (([U64 (0:UInt64)] : List Value) ++ (([U64 (0:UInt64)] : List Value) ++ (([I64 (0:Int), .slice none 0 0, .slice none 0 0, U64 (0:UInt64)] : List Value) ++ ((cu8 (zr8 16) : List Value) ++ []))))) (fun _ => by kernel_rfl) AS (fun _ => by kernel_rfl) ((fill_start ([U64 (0:UInt64)] : List Value) (([U64 (0:UInt64)] : List Value) ++ (([I64 (0:Int), .slice none 0 0, .slice none 0 0, U64 (0:UInt64)] : List Value) ++ ((cu8 (zr8 16) : List Value) ++ []))) ([v0] : List Value) h0 (by simp [AP]) rfl).trans ((FR ([v0] : List Value) ([U64 (0:UInt64)] : List Value) (([I64 (0:Int), .slice none 0 0, .slice none 0 0, U64 (0:UInt64)] : List Value) ++ ((cu8 (zr8 16) : List Value) ++ [])) ([v1] : List Value) h1 (by simp [AP]) rfl).trans ((FR (([v0] : List Value) ++ ([v1] : List Value)) ([I64 (0:Int), .slice none 0 0, .slice none 0 0, U64 (0:UInt64)] : List Value) ((cu8 (zr8 16) : List Value) ++ []) c2 rfl (by simp [AP, h2]) (by simp [h2, AP])).trans ((fill_skip ((([v0] : List Value) ++ ([v1] : List Value)) ++ c2) (cu8 (zr8 16) : List Value) []).trans (by simp [Instr.fill])))))
theorem sign1_c (key : List UInt8) (pv ep : UInt64) (k : Nat) (ai : Option Addr) (ni ci : Nat) (l : List UInt64) (sa : Option Addr) (ns sc : Nat) (ls : List SealR) (bl : UInt64) (tot : Nat)  (w : World) (hk32 : key.length = 32) (hl : l.length = ni) (hnm : ni ≤ 2000000) (hnc : ni ≤ ci) (hcm : ci ≤ maxLen) (hv : RdV w ai (cu64 l)) (hls : ls.length = ns) (hnn : ns ≤ 2000000) (hnd : ns ≤ sc) (hcn : sc ≤ maxLen) (hs : RdV w sa (ls.flatMap sealC)) (hp1 : 0 < ni) (hp0 : 0 < ns) (hmay : mayN pv ep (k:Int) l ls bl = 0) (hk : k = 1) (htot : tktN k ni ns = tot) (htb : tot ≤ 30000) (hsm : ns ≤ 300) (hnb : ni ≤ 300) (hG : GLs w)  : Calls Tryd.prog 46 #[.agg (cu8 key).toArray, U64 pv, U64 ep, .agg (List.toArray (α := Value) ([I64 ((k:Int)), .slice ai ni ci, .slice sa ns sc, U64 bl]))] w (Post w [] (fun v L => ∃ g1 sp1 cp1 g2 sp2 cp2, v = .tuple #[.agg (List.toArray (α := Value) ([U64 pv, U64 ep, I64 (k:Int), Slc g1 0 ni cp1, Slc g2 0 ns cp2, U64 bl] ++ cu8 (tkG key pv ep k l ls bl))), .nilIface] ∧ L = [⟨g1, cu64 l ++ sp1, 22, (0, 0)⟩, ⟨g2, ls.flatMap sealC ++ sp2, 161, (0, 0)⟩] ∧ sp1.length = cp1 - ni ∧ ni ≤ cp1 ∧ cp1 ≤ maxLen ∧ sp2.length = cp2 * 49 - ns * 49 ∧ ns ≤ cp2 ∧ cp2 ≤ maxLen)) := by
 have hmx : maxLen = 9223372036854775807 := rfl
 refine enter (P := Tryd.prog) (f := 46) (fn := Tryd.f46) w [] 44 [] [.agg (cu8 key).toArray, U64 pv, U64 ep, .agg (List.toArray (α := Value) ([I64 ((k:Int)), .slice ai ni ci, .slice sa ns sc, U64 bl]))] Tryd.func46 rfl rfl (by simp) (B7 (by simp) (by simp) (by simp)) ?_
 show JC _ _ _ [(0, .agg (cu8 key).toArray), (1, U64 pv), (2, U64 ep), (3, .agg (List.toArray (α := Value) ([I64 ((k:Int)), .slice ai ni ci, .slice sa ns sc, U64 bl])))] _
 refine AL (AE (AR (CN (.agg (cu8 key).toArray) (cu8 key) rfl (by first | rfl | simp)) rfl ?_))
 rintro v1 L1 ⟨nb1, hnb1, rfl, rfl⟩
 show JL _ _ _ _ ((4, Ptr nb1 0) :: _) [⟨nb1, cu8 key, 54, (0, 0)⟩]
 refine AR (CN (.agg (List.toArray (α := Value) ([I64 ((k:Int)), .slice ai ni ci, .slice sa ns sc, U64 bl]))) ([I64 ((k:Int)), .slice ai ni ci, .slice sa ns sc, U64 bl]) rfl (by first | rfl | simp)) rfl ?_
 rintro v1 L1 ⟨nb2, hnb2, rfl, rfl⟩
 show JL _ _ _ _ ((7, Ptr nb2 0) :: _) [_, ⟨nb2, [I64 ((k:Int)), .slice ai ni ci, .slice sa ns sc, U64 bl], 26, (0, 0)⟩]
 refine AR (BJ _ ([U64 (0:UInt64), U64 (0:UInt64), I64 (0:Int), .slice none 0 0, .slice none 0 0, U64 (0:UInt64)] ++ cu8 (zr8 16)) B9 (by kernel_rfl)) rfl ?_
 rintro v1 L1 ⟨nb3, hnb3, rfl, rfl⟩
 show JL _ _ _ _ ((8, Ptr nb3 0) :: _) [_, _, ⟨nb3, [U64 (0:UInt64), U64 (0:UInt64), I64 (0:Int), .slice none 0 0, .slice none 0 0, U64 (0:UInt64)] ++ cu8 (zr8 16), 29, (0, 0)⟩]
 refine AA _ (AH rfl) rfl ?_
 refine AN (AF (AL (CQ 44 5 [(0, U64 pv), (1, U64 ep), (2, Ptr nb2 0), (3, I64 ((k:Int))), (4, Ptr nb2 1), (5, .slice ai ni ci), (7, Ptr nb2 2), (8, .slice sa ns sc), (10, Ptr nb2 3), (11, U64 bl)] BQ rfl (by decide +kernel) ?_)))
 refine DP_two ⟨[], [0, 1, 2, 3, 4, 5, 7, 8, 10, 11], [], [0, 1, 2, 3, 4, 5, 7, 8, 10, 11], [6, 14]⟩ 6 14 _ _ rfl rfl (by decide +kernel) rfl ⟨⟨_, rfl, AB rfl (AD rfl)⟩, ⟨_, rfl, AB rfl (AD rfl)⟩, ⟨_, rfl, AB rfl (AC 0 3 1 AG rfl A7 rfl rfl)⟩, ⟨_, rfl, AB rfl (AK rfl (AV BA (MemAt.ent 1 rfl (Seg.head))))⟩, ⟨_, rfl, AB rfl (AC 1 23 1 AG rfl CE rfl rfl)⟩, ⟨_, rfl, AB rfl (AK rfl (AV CL (MemAt.ent 1 rfl (AJ (Seg.head)))))⟩, ⟨_, rfl, AB rfl (AC 2 24 1 AG rfl B3 rfl rfl)⟩, ⟨_, rfl, AB rfl (AK rfl (AV B6 (MemAt.ent 1 rfl (AJ (AJ (Seg.head))))))⟩, ⟨_, rfl, AB rfl (AC 3 22 1 AG rfl AT rfl rfl)⟩, ⟨_, rfl, AB rfl (AK rfl (AV AU (MemAt.ent 1 rfl (AJ (AJ (AJ (Seg.head)))))))⟩, trivial⟩ rfl rfl (AZ rfl (BG 112 [.slice ai ni ci] _ (A0 [.slice ai ni ci] EV rfl) (fun w1 hw1 => F4 ai ni ci l w1 hl (by omega) (by omega) (by omega) (C1 hw1 rfl hv) (by omega)))) (AZ rfl (BJ _ ([U64 (0:UInt64), U64 (0:UInt64), I64 (0:Int), .slice none 0 0, .slice none 0 0, U64 (0:UInt64)] ++ cu8 (zr8 16)) B9 (by kernel_rfl))) ?_ ?_
 ·
  rintro v1 L1 ⟨_, ⟨nb4, sp1, cp1, rfl, rfl, hc1, hc2, hc3⟩, rfl⟩
  refine ⟨[], ?_⟩
  show DP _ _ _ _ _ _ _ _ [_, _, _, ⟨nb4, cu64 l ++ sp1, 22, (0, 0)⟩]
  refine DP_two ⟨[6], [0, 1, 2, 3, 4, 5, 7, 8, 10, 11], [4, 5], [0, 1, 2, 3, 7, 8, 10, 11], [9, 14]⟩ 9 14 _ _ rfl rfl (by decide +kernel) rfl ⟨⟨_, rfl, AB rfl (AD rfl)⟩, ⟨_, rfl, AB rfl (AD rfl)⟩, ⟨_, rfl, AB rfl (AC 0 3 1 AG rfl A7 rfl rfl)⟩, ⟨_, rfl, AB rfl (AK rfl (AV BA (MemAt.ent 1 rfl (Seg.head))))⟩, ⟨_, rfl, AB rfl (AC 2 24 1 AG rfl B3 rfl rfl)⟩, ⟨_, rfl, AB rfl (AK rfl (AV B6 (MemAt.ent 1 rfl (AJ (AJ (Seg.head))))))⟩, ⟨_, rfl, AB rfl (AC 3 22 1 AG rfl AT rfl rfl)⟩, ⟨_, rfl, AB rfl (AK rfl (AV AU (MemAt.ent 1 rfl (AJ (AJ (AJ (Seg.head)))))))⟩, trivial⟩ rfl rfl (AZ rfl (BG 113 [.slice sa ns sc] _ (A0 [.slice sa ns sc] D2 rfl) (fun w1 hw1 => F7 sa ns sc ls w1 hls (by omega) (by omega) (by omega) (C1 hw1 rfl hs) (by omega)))) (AZ rfl (BJ _ ([U64 (0:UInt64), U64 (0:UInt64), I64 (0:Int), .slice none 0 0, .slice none 0 0, U64 (0:UInt64)] ++ cu8 (zr8 16)) B9 (by kernel_rfl))) ?_ ?_
  ·
   rintro v1 L1 ⟨_, ⟨nb6, sp2, cp2, rfl, rfl, hc4, hc5, hc6⟩, rfl⟩
   refine ⟨[(12, .agg (List.toArray (α := Value) ([I64 ((k:Int)), Slc nb4 0 ni cp1, Slc nb6 0 ns cp2, U64 bl]))), (13, .agg (List.toArray (α := Value) ([U64 pv, U64 ep, I64 ((k:Int)), Slc nb4 0 ni cp1, Slc nb6 0 ns cp2, U64 bl] ++ cu8 (zr8 16))))], ?_⟩
   show DP _ _ _ _ _ _ _ _ [_, _, _, _, ⟨nb6, ls.flatMap sealC ++ sp2, 161, (0, 0)⟩]
   refine BR ⟨[6, 9], [0, 1, 2, 3, 4, 5, 7, 8, 10, 11, 12, 13], [4, 5, 7, 8], [0, 1, 2, 3, 10, 11, 12, 13], [14]⟩ 14 _ rfl rfl (by decide +kernel) rfl ⟨⟨_, rfl, AB rfl (AD rfl)⟩, ⟨_, rfl, AB rfl (AD rfl)⟩, ⟨_, rfl, AB rfl (AC 0 3 1 AG rfl A7 rfl rfl)⟩, ⟨_, rfl, AB rfl (AK rfl (AV BA (MemAt.ent 1 rfl (Seg.head))))⟩, ⟨_, rfl, AB rfl (AC 3 22 1 AG rfl AT rfl rfl)⟩, ⟨_, rfl, AB rfl (AK rfl (AV AU (MemAt.ent 1 rfl (AJ (AJ (AJ (Seg.head)))))))⟩, ⟨_, rfl, AB rfl (CB [(0, I64 ((k:Int))), (1, Slc nb4 0 ni cp1), (2, Slc nb6 0 ns cp2), (3, U64 bl)] _ rfl (fun _ => DY rfl rfl rfl rfl))⟩, ⟨_, rfl, AB rfl (CB [(0, U64 pv), (1, U64 ep), (2, .agg (List.toArray (α := Value) ([I64 ((k:Int)), Slc nb4 0 ni cp1, Slc nb6 0 ns cp2, U64 bl])))] _ rfl (fun _ => EA rfl rfl (by simp [AP])))⟩, trivial⟩ rfl (AZ rfl (BJ _ ([U64 (0:UInt64), U64 (0:UInt64), I64 (0:Int), .slice none 0 0, .slice none 0 0, U64 (0:UInt64)] ++ cu8 (zr8 16)) B9 (by kernel_rfl))) ?_
   rintro v1 L1 ⟨nb8, hnb8, rfl, rfl⟩
   refine ⟨[], ?_⟩
   show DP _ _ _ _ _ _ _ _ [_, _, _, _, _, ⟨nb8, [U64 (0:UInt64), U64 (0:UInt64), I64 (0:Int), .slice none 0 0, .slice none 0 0, U64 (0:UInt64)] ++ cu8 (zr8 16), 29, (0, 0)⟩]
   refine BR ⟨[6, 9, 14], [0, 1, 2, 3, 4, 5, 7, 8, 10, 11, 12, 13], [4, 5, 7, 8], [0, 1, 2, 3, 10, 11, 12, 13], [15]⟩ 15 _ rfl rfl (by decide +kernel) rfl ⟨⟨_, rfl, AB rfl (AD rfl)⟩, ⟨_, rfl, AB rfl (AD rfl)⟩, ⟨_, rfl, AB rfl (AC 0 3 1 AG rfl A7 rfl rfl)⟩, ⟨_, rfl, AB rfl (AK rfl (AV BA (MemAt.ent 1 rfl (Seg.head))))⟩, ⟨_, rfl, AB rfl (AC 3 22 1 AG rfl AT rfl rfl)⟩, ⟨_, rfl, AB rfl (AK rfl (AV AU (MemAt.ent 1 rfl (AJ (AJ (AJ (Seg.head)))))))⟩, ⟨_, rfl, AB rfl (CB [(0, I64 ((k:Int))), (1, Slc nb4 0 ni cp1), (2, Slc nb6 0 ns cp2), (3, U64 bl)] _ rfl (fun _ => DY rfl rfl rfl rfl))⟩, ⟨_, rfl, AB rfl (CB [(0, U64 pv), (1, U64 ep), (2, .agg (List.toArray (α := Value) ([I64 ((k:Int)), Slc nb4 0 ni cp1, Slc nb6 0 ns cp2, U64 bl])))] _ rfl (fun _ => EA rfl rfl (by simp [AP])))⟩, trivial⟩ rfl (AZ rfl (A6 5 nb8 0 22 ([U64 (0:UInt64), U64 (0:UInt64), I64 (0:Int), .slice none 0 0, .slice none 0 0, U64 (0:UInt64)] ++ cu8 (zr8 16)) 29 (.agg (List.toArray (α := Value) ([U64 pv, U64 ep, I64 ((k:Int)), Slc nb4 0 ni cp1, Slc nb6 0 ns cp2, U64 bl] ++ cu8 (zr8 16)))) ([U64 pv, U64 ep, I64 ((k:Int)), Slc nb4 0 ni cp1, Slc nb6 0 ns cp2, U64 bl] ++ cu8 (zr8 16)) ([U64 pv, U64 ep, I64 ((k:Int)), Slc nb4 0 ni cp1, Slc nb6 0 ns cp2, U64 bl] ++ cu8 (zr8 16)) rfl rfl rfl (by first | rfl | simp) AW (by simp [(AP 16)]) (DA (by simp [Value.oneCell']) CK) (by simp [(AP 16)]) (BF (by simp [(AP 16), (AP 16)])))) ?_
   rintro v1 L1 ⟨rfl, rfl⟩
   refine ⟨[], ?_⟩
   show DP _ _ _ _ _ _ _ _ [_, _, _, _, _, ⟨nb8, [U64 pv, U64 ep, I64 ((k:Int)), Slc nb4 0 ni cp1, Slc nb6 0 ns cp2, U64 bl] ++ cu8 (zr8 16), 29, (0, 0)⟩]
   refine CZ ⟨[6, 9, 14, 15], [0, 1, 2, 3, 4, 5, 7, 8, 10, 11, 12, 13], [0, 1, 2, 3, 4, 5, 7, 8, 10, 11, 12, 13], [], []⟩ rfl rfl (by decide +kernel) rfl trivial ?_
   refine CC (F' := [(10, Ptr nb8 0), (4, Ptr nb1 0), (8, Ptr nb3 0), (9, .nilIface)]) (by kernel_rfl) ?_
   refine AF (AL (AE (AA (.agg (List.toArray (α := Value) ([U64 pv, U64 ep, I64 ((k:Int)), Slc nb4 0 ni cp1, Slc nb6 0 ns cp2, U64 bl] ++ cu8 (zr8 16)))) (AK rfl (BH BE AW (by simp [(AP 16)]) (MemAt.ent 5 rfl (AM _)))) rfl ?_)))
   refine AR (BG 114 [.agg (List.toArray (α := Value) ([U64 pv, U64 ep, I64 ((k:Int)), Slc nb4 0 ni cp1, Slc nb6 0 ns cp2, U64 bl] ++ cu8 (zr8 16)))] _ (A0 [.agg (List.toArray (α := Value) ([U64 pv, U64 ep, I64 ((k:Int)), Slc nb4 0 ni cp1, Slc nb6 0 ns cp2, U64 bl] ++ cu8 (zr8 16)))] DL rfl) (fun w1 hw1 => text_w pv ep k (some ⟨nb4, 0, none⟩) ni cp1 l (some ⟨nb6, 0, none⟩) ns cp2 ls bl (zr8 16) tot w1 hl (by omega) (by omega) (by omega) (RdV.of hw1 (MemAt.ent 3 rfl (A2 (AM _)))) hls (by omega) (by omega) (by omega) (RdV.of hw1 (MemAt.ent 4 rfl (A2 (AM _)))) (AP 16) hmay (by omega) (by omega) htot)) rfl ?_
   rintro v1 L1 ⟨_, ⟨nb9, sp3, cp3, rfl, rfl, hc7, hc8, hc9⟩, rfl⟩
   show JL _ _ _ _ ((29, .tuple #[Slc nb9 0 tot cp3, .nilIface]) :: _) [_, _, _, _, _, _, ⟨nb9, cu8 (tktT pv ep k l ls bl) ++ sp3, 5, (0, 0)⟩]
   refine AA _ (AD rfl) rfl ?_
   refine AA _ (BN rfl rfl) rfl ?_
   refine AA _ (BN rfl rfl) rfl ?_
   refine AA _ (AH rfl) rfl ?_
   refine AA _ (AH rfl) rfl ?_
   refine AN (AF (AL (AL (AE (AA _ (AD rfl) rfl ?_)))))
   refine AA (.bool false) (DC _ _ _ rfl rfl (fun _ => EC ..) fun _ => EF BB) rfl ?_
   refine AN (AF (C0 _ rfl rfl ?_))
   refine B4 (AF (AL (CQ 44 4 [(0, Ptr nb8 6), (1, Slc nb8 6 16 16), (2, Slc nb1 0 32 32), (3, Slc nb9 0 tot cp3)] BQ rfl (by decide +kernel) ?_)))
   refine BR ⟨[], [0, 1, 2, 3], [], [0, 1, 2, 3], [4]⟩ 4 _ rfl rfl (by decide +kernel) rfl ⟨⟨_, rfl, AB rfl (AC 6 27 16 AS rfl A1 rfl rfl)⟩, ⟨_, rfl, AB rfl (BX 16 5 1 0 16 6 16 BC AX rfl rfl rfl (by omega) (by omega) (by omega) (by omega) (by omega) 16 (by omega))⟩, ⟨_, rfl, AB rfl (BX 32 5 1 0 32 0 32 BL AX rfl rfl rfl (by omega) (by omega) (by omega) (by omega) (by omega) 32 (by omega))⟩, ⟨_, rfl, AB rfl (AD rfl)⟩, trivial⟩ rfl (AZ rfl (BZ 43 1 _ [(0, Slc nb9 0 tot cp3)] ([Slc nb9 0 tot cp3]) DN CA D1 rfl rfl rfl (by kernel_rfl))) ?_
   rintro v1 L1 ⟨nb10, hnb10, rfl, rfl⟩
   refine ⟨[], ?_⟩
   show DP _ _ _ _ _ _ _ _ [_, _, _, _, _, _, _, ⟨nb10, [Slc nb9 0 tot cp3], 43, (0, 0)⟩]
   refine BR ⟨[4], [0, 1, 2, 3], [3], [0, 1, 2], [5]⟩ 5 _ rfl rfl (by decide +kernel) rfl ⟨⟨_, rfl, AB rfl (AC 6 27 16 AS rfl A1 rfl rfl)⟩, ⟨_, rfl, AB rfl (BX 16 5 1 0 16 6 16 BC AX rfl rfl rfl (by omega) (by omega) (by omega) (by omega) (by omega) 16 (by omega))⟩, ⟨_, rfl, AB rfl (BX 32 5 1 0 32 0 32 BL AX rfl rfl rfl (by omega) (by omega) (by omega) (by omega) (by omega) 32 (by omega))⟩, trivial⟩ rfl (AZ rfl (BG 90 [Slc nb1 0 32 32, Slc nb10 0 1 1] _ (A0 [Slc nb1 0 32 32, Slc nb10 0 1 1] Tryd.call90 rfl) (fun w1 hw1 => short_c (some ⟨nb1, 0, none⟩) 32 32 key nb10 1 [Slc nb9 0 tot cp3] [tktT pv ep k l ls bl] w1 hk32 (fun h => by cases h) (by omega) (RdB.of hw1 (MemAt.ent 0 rfl (AM _)) (by simp)) (by simp) (by simp) (by simp) ⟨RdA.of hw1 (MemAt.ent 7 rfl (Seg.head)) (by simp), ⟨⟨(some ⟨nb9, 0, none⟩), cp3, congrArg (fun n => Value.slice (some ⟨nb9, 0, none⟩) n cp3) ((show (tktT pv ep k l ls bl).length = tot from ((D5 hl hls).trans htot))).symm, (RdB.of hw1 (MemAt.ent 6 rfl (A2 (AM _))) (by simp))⟩, trivial⟩⟩ (by simp only [List.flatten_cons, List.flatten_nil, List.length_append, List.length_nil, (show (tktT pv ep k l ls bl).length = tot from ((D5 hl hls).trans htot))]; omega) (hG.at hw1)))) ?_
   rintro v1 L1 ⟨_, ⟨nb11, sp4, cp4, rfl, rfl, hc10, hc11, hc12⟩, rfl⟩
   refine ⟨[], ?_⟩
   show DP _ _ _ _ _ _ _ _ [_, _, _, _, _, _, _, _, ⟨nb11, cu8 (mid (macL key ([tktT pv ep k l ls bl].flatten)) 0 16) ++ sp4, 5, (0, 0)⟩]
   refine BR ⟨[4, 5], [0, 1, 2, 3], [2, 3], [0, 1], [6]⟩ 6 _ rfl rfl (by decide +kernel) rfl ⟨⟨_, rfl, AB rfl (AC 6 27 16 AS rfl A1 rfl rfl)⟩, ⟨_, rfl, AB rfl (BX 16 5 1 0 16 6 16 BC AX rfl rfl rfl (by omega) (by omega) (by omega) (by omega) (by omega) 16 (by omega))⟩, trivial⟩ rfl (AZ rfl (FA 43 43 5 5 nb8 6 16 16 ([U64 pv, U64 ep, I64 ((k:Int)), Slc nb4 0 ni cp1, Slc nb6 0 ns cp2, U64 bl] ++ cu8 (zr8 16)) 29 (some ⟨nb11, 0, none⟩) 16 cp4 16 (cu8 (mid (macL key ([tktT pv ep k l ls bl].flatten)) 0 16)) ([U64 pv, U64 ep, I64 ((k:Int)), Slc nb4 0 ni cp1, Slc nb6 0 ns cp2, U64 bl] ++ cu8 (mid (macL key ([tktT pv ep k l ls bl].flatten)) 0 16)) AO EO rfl rfl rfl rfl (by rw [DX]; exact (show (mid (macL key ([tktT pv ep k l ls bl].flatten)) 0 16).length = 16 from EH (by rw [C6]; omega))) (SrcAt.mem (MemAt.ent 8 rfl (A2 (AM _)))) (by simp [(AP 16)]; try omega) (by first | exact CK | exact DW | exact DT | (simp [cu8, cu32, cu64, Value.oneCell']; done)) (FQ 6 0 rfl rfl (BF (by rw [DX, DX]; first | exact ((show (mid (macL key ([tktT pv ep k l ls bl].flatten)) 0 16).length = 16 from EH (by rw [C6]; omega))).trans ((AP 16)).symm | exact ((AP 16)).trans ((show (mid (macL key ([tktT pv ep k l ls bl].flatten)) 0 16).length = 16 from EH (by rw [C6]; omega))).symm))))) ?_
   rintro v1 L1 ⟨rfl, rfl⟩
   refine ⟨[], ?_⟩
   show DP _ _ _ _ _ _ _ _ [_, _, _, _, _, ⟨nb8, [U64 pv, U64 ep, I64 ((k:Int)), Slc nb4 0 ni cp1, Slc nb6 0 ns cp2, U64 bl] ++ cu8 (mid (macL key ([tktT pv ep k l ls bl].flatten)) 0 16), 29, (0, 0)⟩, _, _, _]
   refine CZ ⟨[4, 5, 6], [0, 1, 2, 3], [0, 1, 2, 3], [], []⟩ rfl rfl (by decide +kernel) rfl trivial ?_
   refine CC (F' := [(10, Ptr nb8 0), (8, Ptr nb3 0), (9, .nilIface)]) (by kernel_rfl) ?_
   refine AF (AL ?_)
   rw [tkG_of key pv ep k l ls bl]
   show JC _ _ _ _ [⟨nb1, cu8 key, 54, (0, 0)⟩, ⟨nb2, [I64 ((k:Int)), .slice ai ni ci, .slice sa ns sc, U64 bl], 26, (0, 0)⟩, ⟨nb3, [U64 (0:UInt64), U64 (0:UInt64), I64 (0:Int), .slice none 0 0, .slice none 0 0, U64 (0:UInt64)] ++ cu8 (zr8 16), 29, (0, 0)⟩, ⟨nb4, cu64 l ++ sp1, 22, (0, 0)⟩, ⟨nb6, ls.flatMap sealC ++ sp2, 161, (0, 0)⟩, ⟨nb8, [U64 pv, U64 ep, I64 ((k:Int)), Slc nb4 0 ni cp1, Slc nb6 0 ns cp2, U64 bl] ++ cu8 (tkG key pv ep k l ls bl), 29, (0, 0)⟩, ⟨nb9, cu8 (tktT pv ep k l ls bl) ++ sp3, 5, (0, 0)⟩, ⟨nb10, [Slc nb9 0 tot cp3], 43, (0, 0)⟩, ⟨nb11, cu8 (tkG key pv ep k l ls bl) ++ sp4, 5, (0, 0)⟩]
   refine AE (AA (.agg (List.toArray (α := Value) ([U64 pv, U64 ep, I64 ((k:Int)), Slc nb4 0 ni cp1, Slc nb6 0 ns cp2, U64 bl] ++ cu8 (tkG key pv ep k l ls bl)))) (AK rfl (BH BE AW (by simp [(CO _ _ _ _ _ _ _)]) (MemAt.ent 5 rfl (AM _)))) rfl ?_)
   refine AR (A6 2 nb3 0 22 ([U64 (0:UInt64), U64 (0:UInt64), I64 (0:Int), .slice none 0 0, .slice none 0 0, U64 (0:UInt64)] ++ cu8 (zr8 16)) 29 (.agg (List.toArray (α := Value) ([U64 pv, U64 ep, I64 ((k:Int)), Slc nb4 0 ni cp1, Slc nb6 0 ns cp2, U64 bl] ++ cu8 (tkG key pv ep k l ls bl)))) ([U64 pv, U64 ep, I64 ((k:Int)), Slc nb4 0 ni cp1, Slc nb6 0 ns cp2, U64 bl] ++ cu8 (tkG key pv ep k l ls bl)) ([U64 pv, U64 ep, I64 ((k:Int)), Slc nb4 0 ni cp1, Slc nb6 0 ns cp2, U64 bl] ++ cu8 (tkG key pv ep k l ls bl)) rfl rfl rfl (by first | rfl | simp) AW (by simp [(CO _ _ _ _ _ _ _)]) (DA (by simp [Value.oneCell']) CK) (by simp [(AP 16)]) (BF (by simp [(AP 16), (CO _ _ _ _ _ _ _)]))) rfl ?_
   rintro v1 L1 ⟨rfl, rfl⟩
   show JL _ _ _ _ _ [_, _, ⟨nb3, [U64 pv, U64 ep, I64 ((k:Int)), Slc nb4 0 ni cp1, Slc nb6 0 ns cp2, U64 bl] ++ cu8 (tkG key pv ep k l ls bl), 29, (0, 0)⟩, _, _, _, _, _, _]
   refine AA _ (AH rfl) rfl ?_
   refine AN (AF (BO (B8 [false, false, true, true, true, false, false, false, false] ?_)))
   show JQ _ _ _ _ [_, _, _]
   refine BP (.tuple #[.agg (List.toArray (α := Value) ([U64 pv, U64 ep, I64 ((k:Int)), Slc nb4 0 ni cp1, Slc nb6 0 ns cp2, U64 bl] ++ cu8 (tkG key pv ep k l ls bl))), .nilIface]) (res2 DM (ED rfl (BH BE AW (by simp [(CO _ _ _ _ _ _ _)]) (MemAt.ent 0 rfl (AM _)))) (BT rfl)) fun w1 hw1 => ?_
   exact ⟨_, _, rfl, ⟨nb4, sp1, cp1, nb6, sp2, cp2, rfl, rfl, hc1, hc2, hc3, hc4, hc5, hc6⟩, hw1.sub (by simp) (by simpa using hw1.ne (i := 1) (j := 2) rfl rfl (by decide))⟩
  ·
   rintro v1 L1 ⟨nb7, hnb7, rfl, rfl⟩
   refine ⟨[], ?_⟩
   show DP _ _ _ _ _ _ _ _ [_, _, _, _, ⟨nb7, [U64 (0:UInt64), U64 (0:UInt64), I64 (0:Int), .slice none 0 0, .slice none 0 0, U64 (0:UInt64)] ++ cu8 (zr8 16), 29, (0, 0)⟩]
   refine BR ⟨[6, 14], [0, 1, 2, 3, 4, 5, 7, 8, 10, 11], [4, 5], [0, 1, 2, 3, 7, 8, 10, 11], [9]⟩ 9 _ rfl rfl (by decide +kernel) rfl ⟨⟨_, rfl, AB rfl (AD rfl)⟩, ⟨_, rfl, AB rfl (AD rfl)⟩, ⟨_, rfl, AB rfl (AC 0 3 1 AG rfl A7 rfl rfl)⟩, ⟨_, rfl, AB rfl (AK rfl (AV BA (MemAt.ent 1 rfl (Seg.head))))⟩, ⟨_, rfl, AB rfl (AC 2 24 1 AG rfl B3 rfl rfl)⟩, ⟨_, rfl, AB rfl (AK rfl (AV B6 (MemAt.ent 1 rfl (AJ (AJ (Seg.head))))))⟩, ⟨_, rfl, AB rfl (AC 3 22 1 AG rfl AT rfl rfl)⟩, ⟨_, rfl, AB rfl (AK rfl (AV AU (MemAt.ent 1 rfl (AJ (AJ (AJ (Seg.head)))))))⟩, trivial⟩ rfl (AZ rfl (BG 113 [.slice sa ns sc] _ (A0 [.slice sa ns sc] D2 rfl) (fun w1 hw1 => F7 sa ns sc ls w1 hls (by omega) (by omega) (by omega) (C1 hw1 rfl hs) (by omega)))) ?_
   rintro v1 L1 ⟨_, ⟨nb12, sp5, cp5, rfl, rfl, hc13, hc14, hc15⟩, rfl⟩
   refine ⟨[(12, .agg (List.toArray (α := Value) ([I64 ((k:Int)), Slc nb4 0 ni cp1, Slc nb12 0 ns cp5, U64 bl]))), (13, .agg (List.toArray (α := Value) ([U64 pv, U64 ep, I64 ((k:Int)), Slc nb4 0 ni cp1, Slc nb12 0 ns cp5, U64 bl] ++ cu8 (zr8 16))))], ?_⟩
   show DP _ _ _ _ _ _ _ _ [_, _, _, _, _, ⟨nb12, ls.flatMap sealC ++ sp5, 161, (0, 0)⟩]
   refine BR ⟨[6, 14, 9], [0, 1, 2, 3, 4, 5, 7, 8, 10, 11, 12, 13], [4, 5, 7, 8], [0, 1, 2, 3, 10, 11, 12, 13], [15]⟩ 15 _ rfl rfl (by decide +kernel) rfl ⟨⟨_, rfl, AB rfl (AD rfl)⟩, ⟨_, rfl, AB rfl (AD rfl)⟩, ⟨_, rfl, AB rfl (AC 0 3 1 AG rfl A7 rfl rfl)⟩, ⟨_, rfl, AB rfl (AK rfl (AV BA (MemAt.ent 1 rfl (Seg.head))))⟩, ⟨_, rfl, AB rfl (AC 3 22 1 AG rfl AT rfl rfl)⟩, ⟨_, rfl, AB rfl (AK rfl (AV AU (MemAt.ent 1 rfl (AJ (AJ (AJ (Seg.head)))))))⟩, ⟨_, rfl, AB rfl (CB [(0, I64 ((k:Int))), (1, Slc nb4 0 ni cp1), (2, Slc nb12 0 ns cp5), (3, U64 bl)] _ rfl (fun _ => DY rfl rfl rfl rfl))⟩, ⟨_, rfl, AB rfl (CB [(0, U64 pv), (1, U64 ep), (2, .agg (List.toArray (α := Value) ([I64 ((k:Int)), Slc nb4 0 ni cp1, Slc nb12 0 ns cp5, U64 bl])))] _ rfl (fun _ => EA rfl rfl (by simp [AP])))⟩, trivial⟩ rfl (AZ rfl (A6 4 nb7 0 22 ([U64 (0:UInt64), U64 (0:UInt64), I64 (0:Int), .slice none 0 0, .slice none 0 0, U64 (0:UInt64)] ++ cu8 (zr8 16)) 29 (.agg (List.toArray (α := Value) ([U64 pv, U64 ep, I64 ((k:Int)), Slc nb4 0 ni cp1, Slc nb12 0 ns cp5, U64 bl] ++ cu8 (zr8 16)))) ([U64 pv, U64 ep, I64 ((k:Int)), Slc nb4 0 ni cp1, Slc nb12 0 ns cp5, U64 bl] ++ cu8 (zr8 16)) ([U64 pv, U64 ep, I64 ((k:Int)), Slc nb4 0 ni cp1, Slc nb12 0 ns cp5, U64 bl] ++ cu8 (zr8 16)) rfl rfl rfl (by first | rfl | simp) AW (by simp [(AP 16)]) (DA (by simp [Value.oneCell']) CK) (by simp [(AP 16)]) (BF (by simp [(AP 16), (AP 16)])))) ?_
   rintro v1 L1 ⟨rfl, rfl⟩
   refine ⟨[], ?_⟩
   show DP _ _ _ _ _ _ _ _ [_, _, _, _, ⟨nb7, [U64 pv, U64 ep, I64 ((k:Int)), Slc nb4 0 ni cp1, Slc nb12 0 ns cp5, U64 bl] ++ cu8 (zr8 16), 29, (0, 0)⟩, _]
   refine CZ ⟨[6, 14, 9, 15], [0, 1, 2, 3, 4, 5, 7, 8, 10, 11, 12, 13], [0, 1, 2, 3, 4, 5, 7, 8, 10, 11, 12, 13], [], []⟩ rfl rfl (by decide +kernel) rfl trivial ?_
   refine CC (F' := [(10, Ptr nb7 0), (4, Ptr nb1 0), (8, Ptr nb3 0), (9, .nilIface)]) (by kernel_rfl) ?_
   refine AF (AL (AE (AA (.agg (List.toArray (α := Value) ([U64 pv, U64 ep, I64 ((k:Int)), Slc nb4 0 ni cp1, Slc nb12 0 ns cp5, U64 bl] ++ cu8 (zr8 16)))) (AK rfl (BH BE AW (by simp [(AP 16)]) (MemAt.ent 4 rfl (AM _)))) rfl ?_)))
   refine AR (BG 114 [.agg (List.toArray (α := Value) ([U64 pv, U64 ep, I64 ((k:Int)), Slc nb4 0 ni cp1, Slc nb12 0 ns cp5, U64 bl] ++ cu8 (zr8 16)))] _ (A0 [.agg (List.toArray (α := Value) ([U64 pv, U64 ep, I64 ((k:Int)), Slc nb4 0 ni cp1, Slc nb12 0 ns cp5, U64 bl] ++ cu8 (zr8 16)))] DL rfl) (fun w1 hw1 => text_w pv ep k (some ⟨nb4, 0, none⟩) ni cp1 l (some ⟨nb12, 0, none⟩) ns cp5 ls bl (zr8 16) tot w1 hl (by omega) (by omega) (by omega) (RdV.of hw1 (MemAt.ent 3 rfl (A2 (AM _)))) hls (by omega) (by omega) (by omega) (RdV.of hw1 (MemAt.ent 5 rfl (A2 (AM _)))) (AP 16) hmay (by omega) (by omega) htot)) rfl ?_
   rintro v1 L1 ⟨_, ⟨nb13, sp6, cp6, rfl, rfl, hc16, hc17, hc18⟩, rfl⟩
   show JL _ _ _ _ ((29, .tuple #[Slc nb13 0 tot cp6, .nilIface]) :: _) [_, _, _, _, _, _, ⟨nb13, cu8 (tktT pv ep k l ls bl) ++ sp6, 5, (0, 0)⟩]
   refine AA _ (AD rfl) rfl ?_
   refine AA _ (BN rfl rfl) rfl ?_
   refine AA _ (BN rfl rfl) rfl ?_
   refine AA _ (AH rfl) rfl ?_
   refine AA _ (AH rfl) rfl ?_
   refine AN (AF (AL (AL (AE (AA _ (AD rfl) rfl ?_)))))
   refine AA (.bool false) (DC _ _ _ rfl rfl (fun _ => EC ..) fun _ => EF BB) rfl ?_
   refine AN (AF (C0 _ rfl rfl ?_))
   refine B4 (AF (AL (CQ 44 4 [(0, Ptr nb7 6), (1, Slc nb7 6 16 16), (2, Slc nb1 0 32 32), (3, Slc nb13 0 tot cp6)] BQ rfl (by decide +kernel) ?_)))
   refine BR ⟨[], [0, 1, 2, 3], [], [0, 1, 2, 3], [4]⟩ 4 _ rfl rfl (by decide +kernel) rfl ⟨⟨_, rfl, AB rfl (AC 6 27 16 AS rfl A1 rfl rfl)⟩, ⟨_, rfl, AB rfl (BX 16 5 1 0 16 6 16 BC AX rfl rfl rfl (by omega) (by omega) (by omega) (by omega) (by omega) 16 (by omega))⟩, ⟨_, rfl, AB rfl (BX 32 5 1 0 32 0 32 BL AX rfl rfl rfl (by omega) (by omega) (by omega) (by omega) (by omega) 32 (by omega))⟩, ⟨_, rfl, AB rfl (AD rfl)⟩, trivial⟩ rfl (AZ rfl (BZ 43 1 _ [(0, Slc nb13 0 tot cp6)] ([Slc nb13 0 tot cp6]) DN CA D1 rfl rfl rfl (by kernel_rfl))) ?_
   rintro v1 L1 ⟨nb14, hnb14, rfl, rfl⟩
   refine ⟨[], ?_⟩
   show DP _ _ _ _ _ _ _ _ [_, _, _, _, _, _, _, ⟨nb14, [Slc nb13 0 tot cp6], 43, (0, 0)⟩]
   refine BR ⟨[4], [0, 1, 2, 3], [3], [0, 1, 2], [5]⟩ 5 _ rfl rfl (by decide +kernel) rfl ⟨⟨_, rfl, AB rfl (AC 6 27 16 AS rfl A1 rfl rfl)⟩, ⟨_, rfl, AB rfl (BX 16 5 1 0 16 6 16 BC AX rfl rfl rfl (by omega) (by omega) (by omega) (by omega) (by omega) 16 (by omega))⟩, ⟨_, rfl, AB rfl (BX 32 5 1 0 32 0 32 BL AX rfl rfl rfl (by omega) (by omega) (by omega) (by omega) (by omega) 32 (by omega))⟩, trivial⟩ rfl (AZ rfl (BG 90 [Slc nb1 0 32 32, Slc nb14 0 1 1] _ (A0 [Slc nb1 0 32 32, Slc nb14 0 1 1] Tryd.call90 rfl) (fun w1 hw1 => short_c (some ⟨nb1, 0, none⟩) 32 32 key nb14 1 [Slc nb13 0 tot cp6] [tktT pv ep k l ls bl] w1 hk32 (fun h => by cases h) (by omega) (RdB.of hw1 (MemAt.ent 0 rfl (AM _)) (by simp)) (by simp) (by simp) (by simp) ⟨RdA.of hw1 (MemAt.ent 7 rfl (Seg.head)) (by simp), ⟨⟨(some ⟨nb13, 0, none⟩), cp6, congrArg (fun n => Value.slice (some ⟨nb13, 0, none⟩) n cp6) ((show (tktT pv ep k l ls bl).length = tot from ((D5 hl hls).trans htot))).symm, (RdB.of hw1 (MemAt.ent 6 rfl (A2 (AM _))) (by simp))⟩, trivial⟩⟩ (by simp only [List.flatten_cons, List.flatten_nil, List.length_append, List.length_nil, (show (tktT pv ep k l ls bl).length = tot from ((D5 hl hls).trans htot))]; omega) (hG.at hw1)))) ?_
   rintro v1 L1 ⟨_, ⟨nb15, sp7, cp7, rfl, rfl, hc19, hc20, hc21⟩, rfl⟩
   refine ⟨[], ?_⟩
   show DP _ _ _ _ _ _ _ _ [_, _, _, _, _, _, _, _, ⟨nb15, cu8 (mid (macL key ([tktT pv ep k l ls bl].flatten)) 0 16) ++ sp7, 5, (0, 0)⟩]
   refine BR ⟨[4, 5], [0, 1, 2, 3], [2, 3], [0, 1], [6]⟩ 6 _ rfl rfl (by decide +kernel) rfl ⟨⟨_, rfl, AB rfl (AC 6 27 16 AS rfl A1 rfl rfl)⟩, ⟨_, rfl, AB rfl (BX 16 5 1 0 16 6 16 BC AX rfl rfl rfl (by omega) (by omega) (by omega) (by omega) (by omega) 16 (by omega))⟩, trivial⟩ rfl (AZ rfl (FA 43 43 5 4 nb7 6 16 16 ([U64 pv, U64 ep, I64 ((k:Int)), Slc nb4 0 ni cp1, Slc nb12 0 ns cp5, U64 bl] ++ cu8 (zr8 16)) 29 (some ⟨nb15, 0, none⟩) 16 cp7 16 (cu8 (mid (macL key ([tktT pv ep k l ls bl].flatten)) 0 16)) ([U64 pv, U64 ep, I64 ((k:Int)), Slc nb4 0 ni cp1, Slc nb12 0 ns cp5, U64 bl] ++ cu8 (mid (macL key ([tktT pv ep k l ls bl].flatten)) 0 16)) AO EO rfl rfl rfl rfl (by rw [DX]; exact (show (mid (macL key ([tktT pv ep k l ls bl].flatten)) 0 16).length = 16 from EH (by rw [C6]; omega))) (SrcAt.mem (MemAt.ent 8 rfl (A2 (AM _)))) (by simp [(AP 16)]; try omega) (by first | exact CK | exact DW | exact DT | (simp [cu8, cu32, cu64, Value.oneCell']; done)) (FQ 6 0 rfl rfl (BF (by rw [DX, DX]; first | exact ((show (mid (macL key ([tktT pv ep k l ls bl].flatten)) 0 16).length = 16 from EH (by rw [C6]; omega))).trans ((AP 16)).symm | exact ((AP 16)).trans ((show (mid (macL key ([tktT pv ep k l ls bl].flatten)) 0 16).length = 16 from EH (by rw [C6]; omega))).symm))))) ?_
   rintro v1 L1 ⟨rfl, rfl⟩
   refine ⟨[], ?_⟩
   show DP _ _ _ _ _ _ _ _ [_, _, _, _, ⟨nb7, [U64 pv, U64 ep, I64 ((k:Int)), Slc nb4 0 ni cp1, Slc nb12 0 ns cp5, U64 bl] ++ cu8 (mid (macL key ([tktT pv ep k l ls bl].flatten)) 0 16), 29, (0, 0)⟩, _, _, _, _]
   refine CZ ⟨[4, 5, 6], [0, 1, 2, 3], [0, 1, 2, 3], [], []⟩ rfl rfl (by decide +kernel) rfl trivial ?_
   refine CC (F' := [(10, Ptr nb7 0), (8, Ptr nb3 0), (9, .nilIface)]) (by kernel_rfl) ?_
   refine AF (AL ?_)
   rw [tkG_of key pv ep k l ls bl]
   show JC _ _ _ _ [⟨nb1, cu8 key, 54, (0, 0)⟩, ⟨nb2, [I64 ((k:Int)), .slice ai ni ci, .slice sa ns sc, U64 bl], 26, (0, 0)⟩, ⟨nb3, [U64 (0:UInt64), U64 (0:UInt64), I64 (0:Int), .slice none 0 0, .slice none 0 0, U64 (0:UInt64)] ++ cu8 (zr8 16), 29, (0, 0)⟩, ⟨nb4, cu64 l ++ sp1, 22, (0, 0)⟩, ⟨nb7, [U64 pv, U64 ep, I64 ((k:Int)), Slc nb4 0 ni cp1, Slc nb12 0 ns cp5, U64 bl] ++ cu8 (tkG key pv ep k l ls bl), 29, (0, 0)⟩, ⟨nb12, ls.flatMap sealC ++ sp5, 161, (0, 0)⟩, ⟨nb13, cu8 (tktT pv ep k l ls bl) ++ sp6, 5, (0, 0)⟩, ⟨nb14, [Slc nb13 0 tot cp6], 43, (0, 0)⟩, ⟨nb15, cu8 (tkG key pv ep k l ls bl) ++ sp7, 5, (0, 0)⟩]
   refine AE (AA (.agg (List.toArray (α := Value) ([U64 pv, U64 ep, I64 ((k:Int)), Slc nb4 0 ni cp1, Slc nb12 0 ns cp5, U64 bl] ++ cu8 (tkG key pv ep k l ls bl)))) (AK rfl (BH BE AW (by simp [(CO _ _ _ _ _ _ _)]) (MemAt.ent 4 rfl (AM _)))) rfl ?_)
   refine AR (A6 2 nb3 0 22 ([U64 (0:UInt64), U64 (0:UInt64), I64 (0:Int), .slice none 0 0, .slice none 0 0, U64 (0:UInt64)] ++ cu8 (zr8 16)) 29 (.agg (List.toArray (α := Value) ([U64 pv, U64 ep, I64 ((k:Int)), Slc nb4 0 ni cp1, Slc nb12 0 ns cp5, U64 bl] ++ cu8 (tkG key pv ep k l ls bl)))) ([U64 pv, U64 ep, I64 ((k:Int)), Slc nb4 0 ni cp1, Slc nb12 0 ns cp5, U64 bl] ++ cu8 (tkG key pv ep k l ls bl)) ([U64 pv, U64 ep, I64 ((k:Int)), Slc nb4 0 ni cp1, Slc nb12 0 ns cp5, U64 bl] ++ cu8 (tkG key pv ep k l ls bl)) rfl rfl rfl (by first | rfl | simp) AW (by simp [(CO _ _ _ _ _ _ _)]) (DA (by simp [Value.oneCell']) CK) (by simp [(AP 16)]) (BF (by simp [(AP 16), (CO _ _ _ _ _ _ _)]))) rfl ?_
   rintro v1 L1 ⟨rfl, rfl⟩
   show JL _ _ _ _ _ [_, _, ⟨nb3, [U64 pv, U64 ep, I64 ((k:Int)), Slc nb4 0 ni cp1, Slc nb12 0 ns cp5, U64 bl] ++ cu8 (tkG key pv ep k l ls bl), 29, (0, 0)⟩, _, _, _, _, _, _]
   refine AA _ (AH rfl) rfl ?_
   refine AN (AF (BO (B8 [false, false, true, true, false, true, false, false, false] ?_)))
   show JQ _ _ _ _ [_, _, _]
   refine BP (.tuple #[.agg (List.toArray (α := Value) ([U64 pv, U64 ep, I64 ((k:Int)), Slc nb4 0 ni cp1, Slc nb12 0 ns cp5, U64 bl] ++ cu8 (tkG key pv ep k l ls bl))), .nilIface]) (res2 DM (ED rfl (BH BE AW (by simp [(CO _ _ _ _ _ _ _)]) (MemAt.ent 0 rfl (AM _)))) (BT rfl)) fun w1 hw1 => ?_
   exact ⟨_, _, rfl, ⟨nb4, sp1, cp1, nb12, sp5, cp5, rfl, rfl, hc1, hc2, hc3, hc13, hc14, hc15⟩, hw1.sub (by simp) (by simpa using hw1.ne (i := 1) (j := 2) rfl rfl (by decide))⟩
 ·
  rintro v1 L1 ⟨nb5, hnb5, rfl, rfl⟩
  refine ⟨[], ?_⟩
  show DP _ _ _ _ _ _ _ _ [_, _, _, ⟨nb5, [U64 (0:UInt64), U64 (0:UInt64), I64 (0:Int), .slice none 0 0, .slice none 0 0, U64 (0:UInt64)] ++ cu8 (zr8 16), 29, (0, 0)⟩]
  refine BR ⟨[14], [0, 1, 2, 3, 4, 5, 7, 8, 10, 11], [], [0, 1, 2, 3, 4, 5, 7, 8, 10, 11], [6]⟩ 6 _ rfl rfl (by decide +kernel) rfl ⟨⟨_, rfl, AB rfl (AD rfl)⟩, ⟨_, rfl, AB rfl (AD rfl)⟩, ⟨_, rfl, AB rfl (AC 0 3 1 AG rfl A7 rfl rfl)⟩, ⟨_, rfl, AB rfl (AK rfl (AV BA (MemAt.ent 1 rfl (Seg.head))))⟩, ⟨_, rfl, AB rfl (AC 1 23 1 AG rfl CE rfl rfl)⟩, ⟨_, rfl, AB rfl (AK rfl (AV CL (MemAt.ent 1 rfl (AJ (Seg.head)))))⟩, ⟨_, rfl, AB rfl (AC 2 24 1 AG rfl B3 rfl rfl)⟩, ⟨_, rfl, AB rfl (AK rfl (AV B6 (MemAt.ent 1 rfl (AJ (AJ (Seg.head))))))⟩, ⟨_, rfl, AB rfl (AC 3 22 1 AG rfl AT rfl rfl)⟩, ⟨_, rfl, AB rfl (AK rfl (AV AU (MemAt.ent 1 rfl (AJ (AJ (AJ (Seg.head)))))))⟩, trivial⟩ rfl (AZ rfl (BG 112 [.slice ai ni ci] _ (A0 [.slice ai ni ci] EV rfl) (fun w1 hw1 => F4 ai ni ci l w1 hl (by omega) (by omega) (by omega) (C1 hw1 rfl hv) (by omega)))) ?_
  rintro v1 L1 ⟨_, ⟨nb16, sp8, cp8, rfl, rfl, hc22, hc23, hc24⟩, rfl⟩
  refine ⟨[], ?_⟩
  show DP _ _ _ _ _ _ _ _ [_, _, _, _, ⟨nb16, cu64 l ++ sp8, 22, (0, 0)⟩]
  refine BR ⟨[14, 6], [0, 1, 2, 3, 4, 5, 7, 8, 10, 11], [4, 5], [0, 1, 2, 3, 7, 8, 10, 11], [9]⟩ 9 _ rfl rfl (by decide +kernel) rfl ⟨⟨_, rfl, AB rfl (AD rfl)⟩, ⟨_, rfl, AB rfl (AD rfl)⟩, ⟨_, rfl, AB rfl (AC 0 3 1 AG rfl A7 rfl rfl)⟩, ⟨_, rfl, AB rfl (AK rfl (AV BA (MemAt.ent 1 rfl (Seg.head))))⟩, ⟨_, rfl, AB rfl (AC 2 24 1 AG rfl B3 rfl rfl)⟩, ⟨_, rfl, AB rfl (AK rfl (AV B6 (MemAt.ent 1 rfl (AJ (AJ (Seg.head))))))⟩, ⟨_, rfl, AB rfl (AC 3 22 1 AG rfl AT rfl rfl)⟩, ⟨_, rfl, AB rfl (AK rfl (AV AU (MemAt.ent 1 rfl (AJ (AJ (AJ (Seg.head)))))))⟩, trivial⟩ rfl (AZ rfl (BG 113 [.slice sa ns sc] _ (A0 [.slice sa ns sc] D2 rfl) (fun w1 hw1 => F7 sa ns sc ls w1 hls (by omega) (by omega) (by omega) (C1 hw1 rfl hs) (by omega)))) ?_
  rintro v1 L1 ⟨_, ⟨nb17, sp9, cp9, rfl, rfl, hc25, hc26, hc27⟩, rfl⟩
  refine ⟨[(12, .agg (List.toArray (α := Value) ([I64 ((k:Int)), Slc nb16 0 ni cp8, Slc nb17 0 ns cp9, U64 bl]))), (13, .agg (List.toArray (α := Value) ([U64 pv, U64 ep, I64 ((k:Int)), Slc nb16 0 ni cp8, Slc nb17 0 ns cp9, U64 bl] ++ cu8 (zr8 16))))], ?_⟩
  show DP _ _ _ _ _ _ _ _ [_, _, _, _, _, ⟨nb17, ls.flatMap sealC ++ sp9, 161, (0, 0)⟩]
  refine BR ⟨[14, 6, 9], [0, 1, 2, 3, 4, 5, 7, 8, 10, 11, 12, 13], [4, 5, 7, 8], [0, 1, 2, 3, 10, 11, 12, 13], [15]⟩ 15 _ rfl rfl (by decide +kernel) rfl ⟨⟨_, rfl, AB rfl (AD rfl)⟩, ⟨_, rfl, AB rfl (AD rfl)⟩, ⟨_, rfl, AB rfl (AC 0 3 1 AG rfl A7 rfl rfl)⟩, ⟨_, rfl, AB rfl (AK rfl (AV BA (MemAt.ent 1 rfl (Seg.head))))⟩, ⟨_, rfl, AB rfl (AC 3 22 1 AG rfl AT rfl rfl)⟩, ⟨_, rfl, AB rfl (AK rfl (AV AU (MemAt.ent 1 rfl (AJ (AJ (AJ (Seg.head)))))))⟩, ⟨_, rfl, AB rfl (CB [(0, I64 ((k:Int))), (1, Slc nb16 0 ni cp8), (2, Slc nb17 0 ns cp9), (3, U64 bl)] _ rfl (fun _ => DY rfl rfl rfl rfl))⟩, ⟨_, rfl, AB rfl (CB [(0, U64 pv), (1, U64 ep), (2, .agg (List.toArray (α := Value) ([I64 ((k:Int)), Slc nb16 0 ni cp8, Slc nb17 0 ns cp9, U64 bl])))] _ rfl (fun _ => EA rfl rfl (by simp [AP])))⟩, trivial⟩ rfl (AZ rfl (A6 3 nb5 0 22 ([U64 (0:UInt64), U64 (0:UInt64), I64 (0:Int), .slice none 0 0, .slice none 0 0, U64 (0:UInt64)] ++ cu8 (zr8 16)) 29 (.agg (List.toArray (α := Value) ([U64 pv, U64 ep, I64 ((k:Int)), Slc nb16 0 ni cp8, Slc nb17 0 ns cp9, U64 bl] ++ cu8 (zr8 16)))) ([U64 pv, U64 ep, I64 ((k:Int)), Slc nb16 0 ni cp8, Slc nb17 0 ns cp9, U64 bl] ++ cu8 (zr8 16)) ([U64 pv, U64 ep, I64 ((k:Int)), Slc nb16 0 ni cp8, Slc nb17 0 ns cp9, U64 bl] ++ cu8 (zr8 16)) rfl rfl rfl (by first | rfl | simp) AW (by simp [(AP 16)]) (DA (by simp [Value.oneCell']) CK) (by simp [(AP 16)]) (BF (by simp [(AP 16), (AP 16)])))) ?_
  rintro v1 L1 ⟨rfl, rfl⟩
  refine ⟨[], ?_⟩
  show DP _ _ _ _ _ _ _ _ [_, _, _, ⟨nb5, [U64 pv, U64 ep, I64 ((k:Int)), Slc nb16 0 ni cp8, Slc nb17 0 ns cp9, U64 bl] ++ cu8 (zr8 16), 29, (0, 0)⟩, _, _]
  refine CZ ⟨[14, 6, 9, 15], [0, 1, 2, 3, 4, 5, 7, 8, 10, 11, 12, 13], [0, 1, 2, 3, 4, 5, 7, 8, 10, 11, 12, 13], [], []⟩ rfl rfl (by decide +kernel) rfl trivial ?_
  refine CC (F' := [(10, Ptr nb5 0), (4, Ptr nb1 0), (8, Ptr nb3 0), (9, .nilIface)]) (by kernel_rfl) ?_
  refine AF (AL (AE (AA (.agg (List.toArray (α := Value) ([U64 pv, U64 ep, I64 ((k:Int)), Slc nb16 0 ni cp8, Slc nb17 0 ns cp9, U64 bl] ++ cu8 (zr8 16)))) (AK rfl (BH BE AW (by simp [(AP 16)]) (MemAt.ent 3 rfl (AM _)))) rfl ?_)))
  refine AR (BG 114 [.agg (List.toArray (α := Value) ([U64 pv, U64 ep, I64 ((k:Int)), Slc nb16 0 ni cp8, Slc nb17 0 ns cp9, U64 bl] ++ cu8 (zr8 16)))] _ (A0 [.agg (List.toArray (α := Value) ([U64 pv, U64 ep, I64 ((k:Int)), Slc nb16 0 ni cp8, Slc nb17 0 ns cp9, U64 bl] ++ cu8 (zr8 16)))] DL rfl) (fun w1 hw1 => text_w pv ep k (some ⟨nb16, 0, none⟩) ni cp8 l (some ⟨nb17, 0, none⟩) ns cp9 ls bl (zr8 16) tot w1 hl (by omega) (by omega) (by omega) (RdV.of hw1 (MemAt.ent 4 rfl (A2 (AM _)))) hls (by omega) (by omega) (by omega) (RdV.of hw1 (MemAt.ent 5 rfl (A2 (AM _)))) (AP 16) hmay (by omega) (by omega) htot)) rfl ?_
  rintro v1 L1 ⟨_, ⟨nb18, sp10, cp10, rfl, rfl, hc28, hc29, hc30⟩, rfl⟩
  show JL _ _ _ _ ((29, .tuple #[Slc nb18 0 tot cp10, .nilIface]) :: _) [_, _, _, _, _, _, ⟨nb18, cu8 (tktT pv ep k l ls bl) ++ sp10, 5, (0, 0)⟩]
  refine AA _ (AD rfl) rfl ?_
  refine AA _ (BN rfl rfl) rfl ?_
  refine AA _ (BN rfl rfl) rfl ?_
  refine AA _ (AH rfl) rfl ?_
  refine AA _ (AH rfl) rfl ?_
  refine AN (AF (AL (AL (AE (AA _ (AD rfl) rfl ?_)))))
  refine AA (.bool false) (DC _ _ _ rfl rfl (fun _ => EC ..) fun _ => EF BB) rfl ?_
  refine AN (AF (C0 _ rfl rfl ?_))
  refine B4 (AF (AL (CQ 44 4 [(0, Ptr nb5 6), (1, Slc nb5 6 16 16), (2, Slc nb1 0 32 32), (3, Slc nb18 0 tot cp10)] BQ rfl (by decide +kernel) ?_)))
  refine BR ⟨[], [0, 1, 2, 3], [], [0, 1, 2, 3], [4]⟩ 4 _ rfl rfl (by decide +kernel) rfl ⟨⟨_, rfl, AB rfl (AC 6 27 16 AS rfl A1 rfl rfl)⟩, ⟨_, rfl, AB rfl (BX 16 5 1 0 16 6 16 BC AX rfl rfl rfl (by omega) (by omega) (by omega) (by omega) (by omega) 16 (by omega))⟩, ⟨_, rfl, AB rfl (BX 32 5 1 0 32 0 32 BL AX rfl rfl rfl (by omega) (by omega) (by omega) (by omega) (by omega) 32 (by omega))⟩, ⟨_, rfl, AB rfl (AD rfl)⟩, trivial⟩ rfl (AZ rfl (BZ 43 1 _ [(0, Slc nb18 0 tot cp10)] ([Slc nb18 0 tot cp10]) DN CA D1 rfl rfl rfl (by kernel_rfl))) ?_
  rintro v1 L1 ⟨nb19, hnb19, rfl, rfl⟩
  refine ⟨[], ?_⟩
  show DP _ _ _ _ _ _ _ _ [_, _, _, _, _, _, _, ⟨nb19, [Slc nb18 0 tot cp10], 43, (0, 0)⟩]
  refine BR ⟨[4], [0, 1, 2, 3], [3], [0, 1, 2], [5]⟩ 5 _ rfl rfl (by decide +kernel) rfl ⟨⟨_, rfl, AB rfl (AC 6 27 16 AS rfl A1 rfl rfl)⟩, ⟨_, rfl, AB rfl (BX 16 5 1 0 16 6 16 BC AX rfl rfl rfl (by omega) (by omega) (by omega) (by omega) (by omega) 16 (by omega))⟩, ⟨_, rfl, AB rfl (BX 32 5 1 0 32 0 32 BL AX rfl rfl rfl (by omega) (by omega) (by omega) (by omega) (by omega) 32 (by omega))⟩, trivial⟩ rfl (AZ rfl (BG 90 [Slc nb1 0 32 32, Slc nb19 0 1 1] _ (A0 [Slc nb1 0 32 32, Slc nb19 0 1 1] Tryd.call90 rfl) (fun w1 hw1 => short_c (some ⟨nb1, 0, none⟩) 32 32 key nb19 1 [Slc nb18 0 tot cp10] [tktT pv ep k l ls bl] w1 hk32 (fun h => by cases h) (by omega) (RdB.of hw1 (MemAt.ent 0 rfl (AM _)) (by simp)) (by simp) (by simp) (by simp) ⟨RdA.of hw1 (MemAt.ent 7 rfl (Seg.head)) (by simp), ⟨⟨(some ⟨nb18, 0, none⟩), cp10, congrArg (fun n => Value.slice (some ⟨nb18, 0, none⟩) n cp10) ((show (tktT pv ep k l ls bl).length = tot from ((D5 hl hls).trans htot))).symm, (RdB.of hw1 (MemAt.ent 6 rfl (A2 (AM _))) (by simp))⟩, trivial⟩⟩ (by simp only [List.flatten_cons, List.flatten_nil, List.length_append, List.length_nil, (show (tktT pv ep k l ls bl).length = tot from ((D5 hl hls).trans htot))]; omega) (hG.at hw1)))) ?_
  rintro v1 L1 ⟨_, ⟨nb20, sp11, cp11, rfl, rfl, hc31, hc32, hc33⟩, rfl⟩
  refine ⟨[], ?_⟩
  show DP _ _ _ _ _ _ _ _ [_, _, _, _, _, _, _, _, ⟨nb20, cu8 (mid (macL key ([tktT pv ep k l ls bl].flatten)) 0 16) ++ sp11, 5, (0, 0)⟩]
  refine BR ⟨[4, 5], [0, 1, 2, 3], [2, 3], [0, 1], [6]⟩ 6 _ rfl rfl (by decide +kernel) rfl ⟨⟨_, rfl, AB rfl (AC 6 27 16 AS rfl A1 rfl rfl)⟩, ⟨_, rfl, AB rfl (BX 16 5 1 0 16 6 16 BC AX rfl rfl rfl (by omega) (by omega) (by omega) (by omega) (by omega) 16 (by omega))⟩, trivial⟩ rfl (AZ rfl (FA 43 43 5 3 nb5 6 16 16 ([U64 pv, U64 ep, I64 ((k:Int)), Slc nb16 0 ni cp8, Slc nb17 0 ns cp9, U64 bl] ++ cu8 (zr8 16)) 29 (some ⟨nb20, 0, none⟩) 16 cp11 16 (cu8 (mid (macL key ([tktT pv ep k l ls bl].flatten)) 0 16)) ([U64 pv, U64 ep, I64 ((k:Int)), Slc nb16 0 ni cp8, Slc nb17 0 ns cp9, U64 bl] ++ cu8 (mid (macL key ([tktT pv ep k l ls bl].flatten)) 0 16)) AO EO rfl rfl rfl rfl (by rw [DX]; exact (show (mid (macL key ([tktT pv ep k l ls bl].flatten)) 0 16).length = 16 from EH (by rw [C6]; omega))) (SrcAt.mem (MemAt.ent 8 rfl (A2 (AM _)))) (by simp [(AP 16)]; try omega) (by first | exact CK | exact DW | exact DT | (simp [cu8, cu32, cu64, Value.oneCell']; done)) (FQ 6 0 rfl rfl (BF (by rw [DX, DX]; first | exact ((show (mid (macL key ([tktT pv ep k l ls bl].flatten)) 0 16).length = 16 from EH (by rw [C6]; omega))).trans ((AP 16)).symm | exact ((AP 16)).trans ((show (mid (macL key ([tktT pv ep k l ls bl].flatten)) 0 16).length = 16 from EH (by rw [C6]; omega))).symm))))) ?_
  rintro v1 L1 ⟨rfl, rfl⟩
  refine ⟨[], ?_⟩
  show DP _ _ _ _ _ _ _ _ [_, _, _, ⟨nb5, [U64 pv, U64 ep, I64 ((k:Int)), Slc nb16 0 ni cp8, Slc nb17 0 ns cp9, U64 bl] ++ cu8 (mid (macL key ([tktT pv ep k l ls bl].flatten)) 0 16), 29, (0, 0)⟩, _, _, _, _, _]
  refine CZ ⟨[4, 5, 6], [0, 1, 2, 3], [0, 1, 2, 3], [], []⟩ rfl rfl (by decide +kernel) rfl trivial ?_
  refine CC (F' := [(10, Ptr nb5 0), (8, Ptr nb3 0), (9, .nilIface)]) (by kernel_rfl) ?_
  refine AF (AL ?_)
  rw [tkG_of key pv ep k l ls bl]
  show JC _ _ _ _ [⟨nb1, cu8 key, 54, (0, 0)⟩, ⟨nb2, [I64 ((k:Int)), .slice ai ni ci, .slice sa ns sc, U64 bl], 26, (0, 0)⟩, ⟨nb3, [U64 (0:UInt64), U64 (0:UInt64), I64 (0:Int), .slice none 0 0, .slice none 0 0, U64 (0:UInt64)] ++ cu8 (zr8 16), 29, (0, 0)⟩, ⟨nb5, [U64 pv, U64 ep, I64 ((k:Int)), Slc nb16 0 ni cp8, Slc nb17 0 ns cp9, U64 bl] ++ cu8 (tkG key pv ep k l ls bl), 29, (0, 0)⟩, ⟨nb16, cu64 l ++ sp8, 22, (0, 0)⟩, ⟨nb17, ls.flatMap sealC ++ sp9, 161, (0, 0)⟩, ⟨nb18, cu8 (tktT pv ep k l ls bl) ++ sp10, 5, (0, 0)⟩, ⟨nb19, [Slc nb18 0 tot cp10], 43, (0, 0)⟩, ⟨nb20, cu8 (tkG key pv ep k l ls bl) ++ sp11, 5, (0, 0)⟩]
  refine AE (AA (.agg (List.toArray (α := Value) ([U64 pv, U64 ep, I64 ((k:Int)), Slc nb16 0 ni cp8, Slc nb17 0 ns cp9, U64 bl] ++ cu8 (tkG key pv ep k l ls bl)))) (AK rfl (BH BE AW (by simp [(CO _ _ _ _ _ _ _)]) (MemAt.ent 3 rfl (AM _)))) rfl ?_)
  refine AR (A6 2 nb3 0 22 ([U64 (0:UInt64), U64 (0:UInt64), I64 (0:Int), .slice none 0 0, .slice none 0 0, U64 (0:UInt64)] ++ cu8 (zr8 16)) 29 (.agg (List.toArray (α := Value) ([U64 pv, U64 ep, I64 ((k:Int)), Slc nb16 0 ni cp8, Slc nb17 0 ns cp9, U64 bl] ++ cu8 (tkG key pv ep k l ls bl)))) ([U64 pv, U64 ep, I64 ((k:Int)), Slc nb16 0 ni cp8, Slc nb17 0 ns cp9, U64 bl] ++ cu8 (tkG key pv ep k l ls bl)) ([U64 pv, U64 ep, I64 ((k:Int)), Slc nb16 0 ni cp8, Slc nb17 0 ns cp9, U64 bl] ++ cu8 (tkG key pv ep k l ls bl)) rfl rfl rfl (by first | rfl | simp) AW (by simp [(CO _ _ _ _ _ _ _)]) (DA (by simp [Value.oneCell']) CK) (by simp [(AP 16)]) (BF (by simp [(AP 16), (CO _ _ _ _ _ _ _)]))) rfl ?_
  rintro v1 L1 ⟨rfl, rfl⟩
  show JL _ _ _ _ _ [_, _, ⟨nb3, [U64 pv, U64 ep, I64 ((k:Int)), Slc nb16 0 ni cp8, Slc nb17 0 ns cp9, U64 bl] ++ cu8 (tkG key pv ep k l ls bl), 29, (0, 0)⟩, _, _, _, _, _, _]
  refine AA _ (AH rfl) rfl ?_
  refine AN (AF (BO (B8 [false, false, true, false, true, true, false, false, false] ?_)))
  show JQ _ _ _ _ [_, _, _]
  refine BP (.tuple #[.agg (List.toArray (α := Value) ([U64 pv, U64 ep, I64 ((k:Int)), Slc nb16 0 ni cp8, Slc nb17 0 ns cp9, U64 bl] ++ cu8 (tkG key pv ep k l ls bl))), .nilIface]) (res2 DM (ED rfl (BH BE AW (by simp [(CO _ _ _ _ _ _ _)]) (MemAt.ent 0 rfl (AM _)))) (BT rfl)) fun w1 hw1 => ?_
  exact ⟨_, _, rfl, ⟨nb16, sp8, cp8, nb17, sp9, cp9, rfl, rfl, hc22, hc23, hc24, hc25, hc26, hc27⟩, hw1.sub (by simp) (by simpa using hw1.ne (i := 1) (j := 2) rfl rfl (by decide))⟩
theorem sign2_c (key : List UInt8) (pv ep : UInt64) (k : Nat) (ai : Option Addr) (ni ci : Nat) (l : List UInt64) (sa : Option Addr) (sc : Nat) (bl : UInt64) (tot : Nat)  (w : World) (hk32 : key.length = 32) (hl : l.length = ni) (hnm : ni ≤ 2000000) (hnc : ni ≤ ci) (hcm : ci ≤ maxLen) (hv : RdV w ai (cu64 l)) (hcs : sc ≤ maxLen) (hnS : sa = none → sc = 0) (hp1 : 0 < ni) (hmay : mayN pv ep (k:Int) l ([] : List SealR) bl = 0) (hk : k = 2) (htot : tktN k ni 0 = tot) (htb : tot ≤ 30000) (hnb : ni ≤ 300) (hG : GLs w)  : Calls Tryd.prog 46 #[.agg (cu8 key).toArray, U64 pv, U64 ep, .agg (List.toArray (α := Value) ([I64 ((k:Int)), .slice ai ni ci, .slice sa 0 sc, U64 bl]))] w (Post w [] (fun v L => ∃ g1 sp1 cp1 a2 c2, v = .tuple #[.agg (List.toArray (α := Value) ([U64 pv, U64 ep, I64 (k:Int), Slc g1 0 ni cp1, .slice a2 0 c2, U64 bl] ++ cu8 (tkG key pv ep k l ([] : List SealR) bl))), .nilIface] ∧ L = [⟨g1, cu64 l ++ sp1, 22, (0, 0)⟩] ∧ sp1.length = cp1 - ni ∧ ni ≤ cp1 ∧ cp1 ≤ maxLen ∧ c2 ≤ maxLen ∧ (a2 = none → c2 = 0))) := by
 have hmx : maxLen = 9223372036854775807 := rfl
 refine enter (P := Tryd.prog) (f := 46) (fn := Tryd.f46) w [] 44 [] [.agg (cu8 key).toArray, U64 pv, U64 ep, .agg (List.toArray (α := Value) ([I64 ((k:Int)), .slice ai ni ci, .slice sa 0 sc, U64 bl]))] Tryd.func46 rfl rfl (by simp) (B7 (by simp) (by simp) (by simp)) ?_
 show JC _ _ _ [(0, .agg (cu8 key).toArray), (1, U64 pv), (2, U64 ep), (3, .agg (List.toArray (α := Value) ([I64 ((k:Int)), .slice ai ni ci, .slice sa 0 sc, U64 bl])))] _
 refine AL (AE (AR (CN (.agg (cu8 key).toArray) (cu8 key) rfl (by first | rfl | simp)) rfl ?_))
 rintro v1 L1 ⟨nb1, hnb1, rfl, rfl⟩
 show JL _ _ _ _ ((4, Ptr nb1 0) :: _) [⟨nb1, cu8 key, 54, (0, 0)⟩]
 refine AR (CN (.agg (List.toArray (α := Value) ([I64 ((k:Int)), .slice ai ni ci, .slice sa 0 sc, U64 bl]))) ([I64 ((k:Int)), .slice ai ni ci, .slice sa 0 sc, U64 bl]) rfl (by first | rfl | simp)) rfl ?_
 rintro v1 L1 ⟨nb2, hnb2, rfl, rfl⟩
 show JL _ _ _ _ ((7, Ptr nb2 0) :: _) [_, ⟨nb2, [I64 ((k:Int)), .slice ai ni ci, .slice sa 0 sc, U64 bl], 26, (0, 0)⟩]
 refine AR (BJ _ ([U64 (0:UInt64), U64 (0:UInt64), I64 (0:Int), .slice none 0 0, .slice none 0 0, U64 (0:UInt64)] ++ cu8 (zr8 16)) B9 (by kernel_rfl)) rfl ?_
 rintro v1 L1 ⟨nb3, hnb3, rfl, rfl⟩
 show JL _ _ _ _ ((8, Ptr nb3 0) :: _) [_, _, ⟨nb3, [U64 (0:UInt64), U64 (0:UInt64), I64 (0:Int), .slice none 0 0, .slice none 0 0, U64 (0:UInt64)] ++ cu8 (zr8 16), 29, (0, 0)⟩]
 refine AA _ (AH rfl) rfl ?_
 refine AN (AF (AL (CQ 44 5 [(0, U64 pv), (1, U64 ep), (2, Ptr nb2 0), (3, I64 ((k:Int))), (4, Ptr nb2 1), (5, .slice ai ni ci), (7, Ptr nb2 2), (8, .slice sa 0 sc), (10, Ptr nb2 3), (11, U64 bl)] BQ rfl (by decide +kernel) ?_)))
 refine DP_two ⟨[], [0, 1, 2, 3, 4, 5, 7, 8, 10, 11], [], [0, 1, 2, 3, 4, 5, 7, 8, 10, 11], [6, 14]⟩ 6 14 _ _ rfl rfl (by decide +kernel) rfl ⟨⟨_, rfl, AB rfl (AD rfl)⟩, ⟨_, rfl, AB rfl (AD rfl)⟩, ⟨_, rfl, AB rfl (AC 0 3 1 AG rfl A7 rfl rfl)⟩, ⟨_, rfl, AB rfl (AK rfl (AV BA (MemAt.ent 1 rfl (Seg.head))))⟩, ⟨_, rfl, AB rfl (AC 1 23 1 AG rfl CE rfl rfl)⟩, ⟨_, rfl, AB rfl (AK rfl (AV CL (MemAt.ent 1 rfl (AJ (Seg.head)))))⟩, ⟨_, rfl, AB rfl (AC 2 24 1 AG rfl B3 rfl rfl)⟩, ⟨_, rfl, AB rfl (AK rfl (AV B6 (MemAt.ent 1 rfl (AJ (AJ (Seg.head))))))⟩, ⟨_, rfl, AB rfl (AC 3 22 1 AG rfl AT rfl rfl)⟩, ⟨_, rfl, AB rfl (AK rfl (AV AU (MemAt.ent 1 rfl (AJ (AJ (AJ (Seg.head)))))))⟩, trivial⟩ rfl rfl (AZ rfl (BG 112 [.slice ai ni ci] _ (A0 [.slice ai ni ci] EV rfl) (fun w1 hw1 => F4 ai ni ci l w1 hl (by omega) (by omega) (by omega) (C1 hw1 rfl hv) (by omega)))) (AZ rfl (BJ _ ([U64 (0:UInt64), U64 (0:UInt64), I64 (0:Int), .slice none 0 0, .slice none 0 0, U64 (0:UInt64)] ++ cu8 (zr8 16)) B9 (by kernel_rfl))) ?_ ?_
 ·
  rintro v1 L1 ⟨_, ⟨nb4, sp1, cp1, rfl, rfl, hc1, hc2, hc3⟩, rfl⟩
  refine ⟨[], ?_⟩
  show DP _ _ _ _ _ _ _ _ [_, _, _, ⟨nb4, cu64 l ++ sp1, 22, (0, 0)⟩]
  refine DP_two ⟨[6], [0, 1, 2, 3, 4, 5, 7, 8, 10, 11], [4, 5], [0, 1, 2, 3, 7, 8, 10, 11], [9, 14]⟩ 9 14 _ _ rfl rfl (by decide +kernel) rfl ⟨⟨_, rfl, AB rfl (AD rfl)⟩, ⟨_, rfl, AB rfl (AD rfl)⟩, ⟨_, rfl, AB rfl (AC 0 3 1 AG rfl A7 rfl rfl)⟩, ⟨_, rfl, AB rfl (AK rfl (AV BA (MemAt.ent 1 rfl (Seg.head))))⟩, ⟨_, rfl, AB rfl (AC 2 24 1 AG rfl B3 rfl rfl)⟩, ⟨_, rfl, AB rfl (AK rfl (AV B6 (MemAt.ent 1 rfl (AJ (AJ (Seg.head))))))⟩, ⟨_, rfl, AB rfl (AC 3 22 1 AG rfl AT rfl rfl)⟩, ⟨_, rfl, AB rfl (AK rfl (AV AU (MemAt.ent 1 rfl (AJ (AJ (AJ (Seg.head)))))))⟩, trivial⟩ rfl rfl (AZ rfl (BG 113 [.slice sa 0 sc] _ (A0 [.slice sa 0 sc] D2 rfl) (fun w1 hw1 => FS sa sc w1 (by omega) hnS))) (AZ rfl (BJ _ ([U64 (0:UInt64), U64 (0:UInt64), I64 (0:Int), .slice none 0 0, .slice none 0 0, U64 (0:UInt64)] ++ cu8 (zr8 16)) B9 (by kernel_rfl))) ?_ ?_
  ·
   rintro v1 L1 ⟨_, ⟨ao1, ca1, rfl, rfl, hc4, hc5⟩, rfl⟩
   refine ⟨[(12, .agg (List.toArray (α := Value) ([I64 ((k:Int)), Slc nb4 0 ni cp1, .slice ao1 0 ca1, U64 bl]))), (13, .agg (List.toArray (α := Value) ([U64 pv, U64 ep, I64 ((k:Int)), Slc nb4 0 ni cp1, .slice ao1 0 ca1, U64 bl] ++ cu8 (zr8 16))))], ?_⟩
   show DP _ _ _ _ _ _ _ _ [_, _, _, _]
   refine BR ⟨[6, 9], [0, 1, 2, 3, 4, 5, 7, 8, 10, 11, 12, 13], [4, 5, 7, 8], [0, 1, 2, 3, 10, 11, 12, 13], [14]⟩ 14 _ rfl rfl (by decide +kernel) rfl ⟨⟨_, rfl, AB rfl (AD rfl)⟩, ⟨_, rfl, AB rfl (AD rfl)⟩, ⟨_, rfl, AB rfl (AC 0 3 1 AG rfl A7 rfl rfl)⟩, ⟨_, rfl, AB rfl (AK rfl (AV BA (MemAt.ent 1 rfl (Seg.head))))⟩, ⟨_, rfl, AB rfl (AC 3 22 1 AG rfl AT rfl rfl)⟩, ⟨_, rfl, AB rfl (AK rfl (AV AU (MemAt.ent 1 rfl (AJ (AJ (AJ (Seg.head)))))))⟩, ⟨_, rfl, AB rfl (CB [(0, I64 ((k:Int))), (1, Slc nb4 0 ni cp1), (2, .slice ao1 0 ca1), (3, U64 bl)] _ rfl (fun _ => DY rfl rfl rfl rfl))⟩, ⟨_, rfl, AB rfl (CB [(0, U64 pv), (1, U64 ep), (2, .agg (List.toArray (α := Value) ([I64 ((k:Int)), Slc nb4 0 ni cp1, .slice ao1 0 ca1, U64 bl])))] _ rfl (fun _ => EA rfl rfl (by simp [AP])))⟩, trivial⟩ rfl (AZ rfl (BJ _ ([U64 (0:UInt64), U64 (0:UInt64), I64 (0:Int), .slice none 0 0, .slice none 0 0, U64 (0:UInt64)] ++ cu8 (zr8 16)) B9 (by kernel_rfl))) ?_
   rintro v1 L1 ⟨nb7, hnb7, rfl, rfl⟩
   refine ⟨[], ?_⟩
   show DP _ _ _ _ _ _ _ _ [_, _, _, _, ⟨nb7, [U64 (0:UInt64), U64 (0:UInt64), I64 (0:Int), .slice none 0 0, .slice none 0 0, U64 (0:UInt64)] ++ cu8 (zr8 16), 29, (0, 0)⟩]
   refine BR ⟨[6, 9, 14], [0, 1, 2, 3, 4, 5, 7, 8, 10, 11, 12, 13], [4, 5, 7, 8], [0, 1, 2, 3, 10, 11, 12, 13], [15]⟩ 15 _ rfl rfl (by decide +kernel) rfl ⟨⟨_, rfl, AB rfl (AD rfl)⟩, ⟨_, rfl, AB rfl (AD rfl)⟩, ⟨_, rfl, AB rfl (AC 0 3 1 AG rfl A7 rfl rfl)⟩, ⟨_, rfl, AB rfl (AK rfl (AV BA (MemAt.ent 1 rfl (Seg.head))))⟩, ⟨_, rfl, AB rfl (AC 3 22 1 AG rfl AT rfl rfl)⟩, ⟨_, rfl, AB rfl (AK rfl (AV AU (MemAt.ent 1 rfl (AJ (AJ (AJ (Seg.head)))))))⟩, ⟨_, rfl, AB rfl (CB [(0, I64 ((k:Int))), (1, Slc nb4 0 ni cp1), (2, .slice ao1 0 ca1), (3, U64 bl)] _ rfl (fun _ => DY rfl rfl rfl rfl))⟩, ⟨_, rfl, AB rfl (CB [(0, U64 pv), (1, U64 ep), (2, .agg (List.toArray (α := Value) ([I64 ((k:Int)), Slc nb4 0 ni cp1, .slice ao1 0 ca1, U64 bl])))] _ rfl (fun _ => EA rfl rfl (by simp [AP])))⟩, trivial⟩ rfl (AZ rfl (A6 4 nb7 0 22 ([U64 (0:UInt64), U64 (0:UInt64), I64 (0:Int), .slice none 0 0, .slice none 0 0, U64 (0:UInt64)] ++ cu8 (zr8 16)) 29 (.agg (List.toArray (α := Value) ([U64 pv, U64 ep, I64 ((k:Int)), Slc nb4 0 ni cp1, .slice ao1 0 ca1, U64 bl] ++ cu8 (zr8 16)))) ([U64 pv, U64 ep, I64 ((k:Int)), Slc nb4 0 ni cp1, .slice ao1 0 ca1, U64 bl] ++ cu8 (zr8 16)) ([U64 pv, U64 ep, I64 ((k:Int)), Slc nb4 0 ni cp1, .slice ao1 0 ca1, U64 bl] ++ cu8 (zr8 16)) rfl rfl rfl (by first | rfl | simp) AW (by simp [(AP 16)]) (DA (by simp [Value.oneCell']) CK) (by simp [(AP 16)]) (BF (by simp [(AP 16), (AP 16)])))) ?_
   rintro v1 L1 ⟨rfl, rfl⟩
   refine ⟨[], ?_⟩
   show DP _ _ _ _ _ _ _ _ [_, _, _, _, ⟨nb7, [U64 pv, U64 ep, I64 ((k:Int)), Slc nb4 0 ni cp1, .slice ao1 0 ca1, U64 bl] ++ cu8 (zr8 16), 29, (0, 0)⟩]
   refine CZ ⟨[6, 9, 14, 15], [0, 1, 2, 3, 4, 5, 7, 8, 10, 11, 12, 13], [0, 1, 2, 3, 4, 5, 7, 8, 10, 11, 12, 13], [], []⟩ rfl rfl (by decide +kernel) rfl trivial ?_
   refine CC (F' := [(10, Ptr nb7 0), (4, Ptr nb1 0), (8, Ptr nb3 0), (9, .nilIface)]) (by kernel_rfl) ?_
   refine AF (AL (AE (AA (.agg (List.toArray (α := Value) ([U64 pv, U64 ep, I64 ((k:Int)), Slc nb4 0 ni cp1, .slice ao1 0 ca1, U64 bl] ++ cu8 (zr8 16)))) (AK rfl (BH BE AW (by simp [(AP 16)]) (MemAt.ent 4 rfl (AM _)))) rfl ?_)))
   refine AR (BG 114 [.agg (List.toArray (α := Value) ([U64 pv, U64 ep, I64 ((k:Int)), Slc nb4 0 ni cp1, .slice ao1 0 ca1, U64 bl] ++ cu8 (zr8 16)))] _ (A0 [.agg (List.toArray (α := Value) ([U64 pv, U64 ep, I64 ((k:Int)), Slc nb4 0 ni cp1, .slice ao1 0 ca1, U64 bl] ++ cu8 (zr8 16)))] DL rfl) (fun w1 hw1 => text_w pv ep k (some ⟨nb4, 0, none⟩) ni cp1 l ao1 0 ca1 ([] : List SealR) bl (zr8 16) tot w1 hl (by omega) (by omega) (by omega) (RdV.of hw1 (MemAt.ent 3 rfl (A2 (AM _)))) rfl (by omega) (by omega) (by omega) RdV.nil (AP 16) hmay (by omega) (by omega) htot)) rfl ?_
   rintro v1 L1 ⟨_, ⟨nb8, sp2, cp2, rfl, rfl, hc6, hc7, hc8⟩, rfl⟩
   show JL _ _ _ _ ((29, .tuple #[Slc nb8 0 tot cp2, .nilIface]) :: _) [_, _, _, _, _, ⟨nb8, cu8 (tktT pv ep k l ([] : List SealR) bl) ++ sp2, 5, (0, 0)⟩]
   refine AA _ (AD rfl) rfl ?_
   refine AA _ (BN rfl rfl) rfl ?_
   refine AA _ (BN rfl rfl) rfl ?_
   refine AA _ (AH rfl) rfl ?_
   refine AA _ (AH rfl) rfl ?_
   refine AN (AF (AL (AL (AE (AA _ (AD rfl) rfl ?_)))))
   refine AA (.bool false) (DC _ _ _ rfl rfl (fun _ => EC ..) fun _ => EF BB) rfl ?_
   refine AN (AF (C0 _ rfl rfl ?_))
   refine B4 (AF (AL (CQ 44 4 [(0, Ptr nb7 6), (1, Slc nb7 6 16 16), (2, Slc nb1 0 32 32), (3, Slc nb8 0 tot cp2)] BQ rfl (by decide +kernel) ?_)))
   refine BR ⟨[], [0, 1, 2, 3], [], [0, 1, 2, 3], [4]⟩ 4 _ rfl rfl (by decide +kernel) rfl ⟨⟨_, rfl, AB rfl (AC 6 27 16 AS rfl A1 rfl rfl)⟩, ⟨_, rfl, AB rfl (BX 16 5 1 0 16 6 16 BC AX rfl rfl rfl (by omega) (by omega) (by omega) (by omega) (by omega) 16 (by omega))⟩, ⟨_, rfl, AB rfl (BX 32 5 1 0 32 0 32 BL AX rfl rfl rfl (by omega) (by omega) (by omega) (by omega) (by omega) 32 (by omega))⟩, ⟨_, rfl, AB rfl (AD rfl)⟩, trivial⟩ rfl (AZ rfl (BZ 43 1 _ [(0, Slc nb8 0 tot cp2)] ([Slc nb8 0 tot cp2]) DN CA D1 rfl rfl rfl (by kernel_rfl))) ?_
   rintro v1 L1 ⟨nb9, hnb9, rfl, rfl⟩
   refine ⟨[], ?_⟩
   show DP _ _ _ _ _ _ _ _ [_, _, _, _, _, _, ⟨nb9, [Slc nb8 0 tot cp2], 43, (0, 0)⟩]
   refine BR ⟨[4], [0, 1, 2, 3], [3], [0, 1, 2], [5]⟩ 5 _ rfl rfl (by decide +kernel) rfl ⟨⟨_, rfl, AB rfl (AC 6 27 16 AS rfl A1 rfl rfl)⟩, ⟨_, rfl, AB rfl (BX 16 5 1 0 16 6 16 BC AX rfl rfl rfl (by omega) (by omega) (by omega) (by omega) (by omega) 16 (by omega))⟩, ⟨_, rfl, AB rfl (BX 32 5 1 0 32 0 32 BL AX rfl rfl rfl (by omega) (by omega) (by omega) (by omega) (by omega) 32 (by omega))⟩, trivial⟩ rfl (AZ rfl (BG 90 [Slc nb1 0 32 32, Slc nb9 0 1 1] _ (A0 [Slc nb1 0 32 32, Slc nb9 0 1 1] Tryd.call90 rfl) (fun w1 hw1 => short_c (some ⟨nb1, 0, none⟩) 32 32 key nb9 1 [Slc nb8 0 tot cp2] [tktT pv ep k l ([] : List SealR) bl] w1 hk32 (fun h => by cases h) (by omega) (RdB.of hw1 (MemAt.ent 0 rfl (AM _)) (by simp)) (by simp) (by simp) (by simp) ⟨RdA.of hw1 (MemAt.ent 6 rfl (Seg.head)) (by simp), ⟨⟨(some ⟨nb8, 0, none⟩), cp2, congrArg (fun n => Value.slice (some ⟨nb8, 0, none⟩) n cp2) ((show (tktT pv ep k l ([] : List SealR) bl).length = tot from ((D5 hl rfl).trans htot))).symm, (RdB.of hw1 (MemAt.ent 5 rfl (A2 (AM _))) (by simp))⟩, trivial⟩⟩ (by simp only [List.flatten_cons, List.flatten_nil, List.length_append, List.length_nil, (show (tktT pv ep k l ([] : List SealR) bl).length = tot from ((D5 hl rfl).trans htot))]; omega) (hG.at hw1)))) ?_
   rintro v1 L1 ⟨_, ⟨nb10, sp3, cp3, rfl, rfl, hc9, hc10, hc11⟩, rfl⟩
   refine ⟨[], ?_⟩
   show DP _ _ _ _ _ _ _ _ [_, _, _, _, _, _, _, ⟨nb10, cu8 (mid (macL key ([tktT pv ep k l ([] : List SealR) bl].flatten)) 0 16) ++ sp3, 5, (0, 0)⟩]
   refine BR ⟨[4, 5], [0, 1, 2, 3], [2, 3], [0, 1], [6]⟩ 6 _ rfl rfl (by decide +kernel) rfl ⟨⟨_, rfl, AB rfl (AC 6 27 16 AS rfl A1 rfl rfl)⟩, ⟨_, rfl, AB rfl (BX 16 5 1 0 16 6 16 BC AX rfl rfl rfl (by omega) (by omega) (by omega) (by omega) (by omega) 16 (by omega))⟩, trivial⟩ rfl (AZ rfl (FA 43 43 5 4 nb7 6 16 16 ([U64 pv, U64 ep, I64 ((k:Int)), Slc nb4 0 ni cp1, .slice ao1 0 ca1, U64 bl] ++ cu8 (zr8 16)) 29 (some ⟨nb10, 0, none⟩) 16 cp3 16 (cu8 (mid (macL key ([tktT pv ep k l ([] : List SealR) bl].flatten)) 0 16)) ([U64 pv, U64 ep, I64 ((k:Int)), Slc nb4 0 ni cp1, .slice ao1 0 ca1, U64 bl] ++ cu8 (mid (macL key ([tktT pv ep k l ([] : List SealR) bl].flatten)) 0 16)) AO EO rfl rfl rfl rfl (by rw [DX]; exact (show (mid (macL key ([tktT pv ep k l ([] : List SealR) bl].flatten)) 0 16).length = 16 from EH (by rw [C6]; omega))) (SrcAt.mem (MemAt.ent 7 rfl (A2 (AM _)))) (by simp [(AP 16)]; try omega) (by first | exact CK | exact DW | exact DT | (simp [cu8, cu32, cu64, Value.oneCell']; done)) (FQ 6 0 rfl rfl (BF (by rw [DX, DX]; first | exact ((show (mid (macL key ([tktT pv ep k l ([] : List SealR) bl].flatten)) 0 16).length = 16 from EH (by rw [C6]; omega))).trans ((AP 16)).symm | exact ((AP 16)).trans ((show (mid (macL key ([tktT pv ep k l ([] : List SealR) bl].flatten)) 0 16).length = 16 from EH (by rw [C6]; omega))).symm))))) ?_
   rintro v1 L1 ⟨rfl, rfl⟩
   refine ⟨[], ?_⟩
   show DP _ _ _ _ _ _ _ _ [_, _, _, _, ⟨nb7, [U64 pv, U64 ep, I64 ((k:Int)), Slc nb4 0 ni cp1, .slice ao1 0 ca1, U64 bl] ++ cu8 (mid (macL key ([tktT pv ep k l ([] : List SealR) bl].flatten)) 0 16), 29, (0, 0)⟩, _, _, _]
   refine CZ ⟨[4, 5, 6], [0, 1, 2, 3], [0, 1, 2, 3], [], []⟩ rfl rfl (by decide +kernel) rfl trivial ?_
   refine CC (F' := [(10, Ptr nb7 0), (8, Ptr nb3 0), (9, .nilIface)]) (by kernel_rfl) ?_
   refine AF (AL ?_)
   rw [tkG_of key pv ep k l ([] : List SealR) bl]
   show JC _ _ _ _ [⟨nb1, cu8 key, 54, (0, 0)⟩, ⟨nb2, [I64 ((k:Int)), .slice ai ni ci, .slice sa 0 sc, U64 bl], 26, (0, 0)⟩, ⟨nb3, [U64 (0:UInt64), U64 (0:UInt64), I64 (0:Int), .slice none 0 0, .slice none 0 0, U64 (0:UInt64)] ++ cu8 (zr8 16), 29, (0, 0)⟩, ⟨nb4, cu64 l ++ sp1, 22, (0, 0)⟩, ⟨nb7, [U64 pv, U64 ep, I64 ((k:Int)), Slc nb4 0 ni cp1, .slice ao1 0 ca1, U64 bl] ++ cu8 (tkG key pv ep k l ([] : List SealR) bl), 29, (0, 0)⟩, ⟨nb8, cu8 (tktT pv ep k l ([] : List SealR) bl) ++ sp2, 5, (0, 0)⟩, ⟨nb9, [Slc nb8 0 tot cp2], 43, (0, 0)⟩, ⟨nb10, cu8 (tkG key pv ep k l ([] : List SealR) bl) ++ sp3, 5, (0, 0)⟩]
   refine AE (AA (.agg (List.toArray (α := Value) ([U64 pv, U64 ep, I64 ((k:Int)), Slc nb4 0 ni cp1, .slice ao1 0 ca1, U64 bl] ++ cu8 (tkG key pv ep k l ([] : List SealR) bl)))) (AK rfl (BH BE AW (by simp [(CO _ _ _ _ _ _ _)]) (MemAt.ent 4 rfl (AM _)))) rfl ?_)
   refine AR (A6 2 nb3 0 22 ([U64 (0:UInt64), U64 (0:UInt64), I64 (0:Int), .slice none 0 0, .slice none 0 0, U64 (0:UInt64)] ++ cu8 (zr8 16)) 29 (.agg (List.toArray (α := Value) ([U64 pv, U64 ep, I64 ((k:Int)), Slc nb4 0 ni cp1, .slice ao1 0 ca1, U64 bl] ++ cu8 (tkG key pv ep k l ([] : List SealR) bl)))) ([U64 pv, U64 ep, I64 ((k:Int)), Slc nb4 0 ni cp1, .slice ao1 0 ca1, U64 bl] ++ cu8 (tkG key pv ep k l ([] : List SealR) bl)) ([U64 pv, U64 ep, I64 ((k:Int)), Slc nb4 0 ni cp1, .slice ao1 0 ca1, U64 bl] ++ cu8 (tkG key pv ep k l ([] : List SealR) bl)) rfl rfl rfl (by first | rfl | simp) AW (by simp [(CO _ _ _ _ _ _ _)]) (DA (by simp [Value.oneCell']) CK) (by simp [(AP 16)]) (BF (by simp [(AP 16), (CO _ _ _ _ _ _ _)]))) rfl ?_
   rintro v1 L1 ⟨rfl, rfl⟩
   show JL _ _ _ _ _ [_, _, ⟨nb3, [U64 pv, U64 ep, I64 ((k:Int)), Slc nb4 0 ni cp1, .slice ao1 0 ca1, U64 bl] ++ cu8 (tkG key pv ep k l ([] : List SealR) bl), 29, (0, 0)⟩, _, _, _, _, _]
   refine AA _ (AH rfl) rfl ?_
   refine AN (AF (BO (B8 [false, false, true, true, false, false, false, false] ?_)))
   show JQ _ _ _ _ [_, _]
   refine BP (.tuple #[.agg (List.toArray (α := Value) ([U64 pv, U64 ep, I64 ((k:Int)), Slc nb4 0 ni cp1, .slice ao1 0 ca1, U64 bl] ++ cu8 (tkG key pv ep k l ([] : List SealR) bl))), .nilIface]) (res2 DM (ED rfl (BH BE AW (by simp [(CO _ _ _ _ _ _ _)]) (MemAt.ent 0 rfl (AM _)))) (BT rfl)) fun w1 hw1 => ?_
   exact ⟨_, _, rfl, ⟨nb4, sp1, cp1, ao1, ca1, rfl, rfl, hc1, hc2, hc3, (by omega), hc5⟩, hw1.sub (by simp) (by simp)⟩
  ·
   rintro v1 L1 ⟨nb6, hnb6, rfl, rfl⟩
   refine ⟨[], ?_⟩
   show DP _ _ _ _ _ _ _ _ [_, _, _, _, ⟨nb6, [U64 (0:UInt64), U64 (0:UInt64), I64 (0:Int), .slice none 0 0, .slice none 0 0, U64 (0:UInt64)] ++ cu8 (zr8 16), 29, (0, 0)⟩]
   refine BR ⟨[6, 14], [0, 1, 2, 3, 4, 5, 7, 8, 10, 11], [4, 5], [0, 1, 2, 3, 7, 8, 10, 11], [9]⟩ 9 _ rfl rfl (by decide +kernel) rfl ⟨⟨_, rfl, AB rfl (AD rfl)⟩, ⟨_, rfl, AB rfl (AD rfl)⟩, ⟨_, rfl, AB rfl (AC 0 3 1 AG rfl A7 rfl rfl)⟩, ⟨_, rfl, AB rfl (AK rfl (AV BA (MemAt.ent 1 rfl (Seg.head))))⟩, ⟨_, rfl, AB rfl (AC 2 24 1 AG rfl B3 rfl rfl)⟩, ⟨_, rfl, AB rfl (AK rfl (AV B6 (MemAt.ent 1 rfl (AJ (AJ (Seg.head))))))⟩, ⟨_, rfl, AB rfl (AC 3 22 1 AG rfl AT rfl rfl)⟩, ⟨_, rfl, AB rfl (AK rfl (AV AU (MemAt.ent 1 rfl (AJ (AJ (AJ (Seg.head)))))))⟩, trivial⟩ rfl (AZ rfl (BG 113 [.slice sa 0 sc] _ (A0 [.slice sa 0 sc] D2 rfl) (fun w1 hw1 => FS sa sc w1 (by omega) hnS))) ?_
   rintro v1 L1 ⟨_, ⟨ao2, ca2, rfl, rfl, hc12, hc13⟩, rfl⟩
   refine ⟨[(12, .agg (List.toArray (α := Value) ([I64 ((k:Int)), Slc nb4 0 ni cp1, .slice ao2 0 ca2, U64 bl]))), (13, .agg (List.toArray (α := Value) ([U64 pv, U64 ep, I64 ((k:Int)), Slc nb4 0 ni cp1, .slice ao2 0 ca2, U64 bl] ++ cu8 (zr8 16))))], ?_⟩
   show DP _ _ _ _ _ _ _ _ [_, _, _, _, _]
   refine BR ⟨[6, 14, 9], [0, 1, 2, 3, 4, 5, 7, 8, 10, 11, 12, 13], [4, 5, 7, 8], [0, 1, 2, 3, 10, 11, 12, 13], [15]⟩ 15 _ rfl rfl (by decide +kernel) rfl ⟨⟨_, rfl, AB rfl (AD rfl)⟩, ⟨_, rfl, AB rfl (AD rfl)⟩, ⟨_, rfl, AB rfl (AC 0 3 1 AG rfl A7 rfl rfl)⟩, ⟨_, rfl, AB rfl (AK rfl (AV BA (MemAt.ent 1 rfl (Seg.head))))⟩, ⟨_, rfl, AB rfl (AC 3 22 1 AG rfl AT rfl rfl)⟩, ⟨_, rfl, AB rfl (AK rfl (AV AU (MemAt.ent 1 rfl (AJ (AJ (AJ (Seg.head)))))))⟩, ⟨_, rfl, AB rfl (CB [(0, I64 ((k:Int))), (1, Slc nb4 0 ni cp1), (2, .slice ao2 0 ca2), (3, U64 bl)] _ rfl (fun _ => DY rfl rfl rfl rfl))⟩, ⟨_, rfl, AB rfl (CB [(0, U64 pv), (1, U64 ep), (2, .agg (List.toArray (α := Value) ([I64 ((k:Int)), Slc nb4 0 ni cp1, .slice ao2 0 ca2, U64 bl])))] _ rfl (fun _ => EA rfl rfl (by simp [AP])))⟩, trivial⟩ rfl (AZ rfl (A6 4 nb6 0 22 ([U64 (0:UInt64), U64 (0:UInt64), I64 (0:Int), .slice none 0 0, .slice none 0 0, U64 (0:UInt64)] ++ cu8 (zr8 16)) 29 (.agg (List.toArray (α := Value) ([U64 pv, U64 ep, I64 ((k:Int)), Slc nb4 0 ni cp1, .slice ao2 0 ca2, U64 bl] ++ cu8 (zr8 16)))) ([U64 pv, U64 ep, I64 ((k:Int)), Slc nb4 0 ni cp1, .slice ao2 0 ca2, U64 bl] ++ cu8 (zr8 16)) ([U64 pv, U64 ep, I64 ((k:Int)), Slc nb4 0 ni cp1, .slice ao2 0 ca2, U64 bl] ++ cu8 (zr8 16)) rfl rfl rfl (by first | rfl | simp) AW (by simp [(AP 16)]) (DA (by simp [Value.oneCell']) CK) (by simp [(AP 16)]) (BF (by simp [(AP 16), (AP 16)])))) ?_
   rintro v1 L1 ⟨rfl, rfl⟩
   refine ⟨[], ?_⟩
   show DP _ _ _ _ _ _ _ _ [_, _, _, _, ⟨nb6, [U64 pv, U64 ep, I64 ((k:Int)), Slc nb4 0 ni cp1, .slice ao2 0 ca2, U64 bl] ++ cu8 (zr8 16), 29, (0, 0)⟩]
   refine CZ ⟨[6, 14, 9, 15], [0, 1, 2, 3, 4, 5, 7, 8, 10, 11, 12, 13], [0, 1, 2, 3, 4, 5, 7, 8, 10, 11, 12, 13], [], []⟩ rfl rfl (by decide +kernel) rfl trivial ?_
   refine CC (F' := [(10, Ptr nb6 0), (4, Ptr nb1 0), (8, Ptr nb3 0), (9, .nilIface)]) (by kernel_rfl) ?_
   refine AF (AL (AE (AA (.agg (List.toArray (α := Value) ([U64 pv, U64 ep, I64 ((k:Int)), Slc nb4 0 ni cp1, .slice ao2 0 ca2, U64 bl] ++ cu8 (zr8 16)))) (AK rfl (BH BE AW (by simp [(AP 16)]) (MemAt.ent 4 rfl (AM _)))) rfl ?_)))
   refine AR (BG 114 [.agg (List.toArray (α := Value) ([U64 pv, U64 ep, I64 ((k:Int)), Slc nb4 0 ni cp1, .slice ao2 0 ca2, U64 bl] ++ cu8 (zr8 16)))] _ (A0 [.agg (List.toArray (α := Value) ([U64 pv, U64 ep, I64 ((k:Int)), Slc nb4 0 ni cp1, .slice ao2 0 ca2, U64 bl] ++ cu8 (zr8 16)))] DL rfl) (fun w1 hw1 => text_w pv ep k (some ⟨nb4, 0, none⟩) ni cp1 l ao2 0 ca2 ([] : List SealR) bl (zr8 16) tot w1 hl (by omega) (by omega) (by omega) (RdV.of hw1 (MemAt.ent 3 rfl (A2 (AM _)))) rfl (by omega) (by omega) (by omega) RdV.nil (AP 16) hmay (by omega) (by omega) htot)) rfl ?_
   rintro v1 L1 ⟨_, ⟨nb11, sp4, cp4, rfl, rfl, hc14, hc15, hc16⟩, rfl⟩
   show JL _ _ _ _ ((29, .tuple #[Slc nb11 0 tot cp4, .nilIface]) :: _) [_, _, _, _, _, ⟨nb11, cu8 (tktT pv ep k l ([] : List SealR) bl) ++ sp4, 5, (0, 0)⟩]
   refine AA _ (AD rfl) rfl ?_
   refine AA _ (BN rfl rfl) rfl ?_
   refine AA _ (BN rfl rfl) rfl ?_
   refine AA _ (AH rfl) rfl ?_
   refine AA _ (AH rfl) rfl ?_
   refine AN (AF (AL (AL (AE (AA _ (AD rfl) rfl ?_)))))
   refine AA (.bool false) (DC _ _ _ rfl rfl (fun _ => EC ..) fun _ => EF BB) rfl ?_
   refine AN (AF (C0 _ rfl rfl ?_))
   refine B4 (AF (AL (CQ 44 4 [(0, Ptr nb6 6), (1, Slc nb6 6 16 16), (2, Slc nb1 0 32 32), (3, Slc nb11 0 tot cp4)] BQ rfl (by decide +kernel) ?_)))
   refine BR ⟨[], [0, 1, 2, 3], [], [0, 1, 2, 3], [4]⟩ 4 _ rfl rfl (by decide +kernel) rfl ⟨⟨_, rfl, AB rfl (AC 6 27 16 AS rfl A1 rfl rfl)⟩, ⟨_, rfl, AB rfl (BX 16 5 1 0 16 6 16 BC AX rfl rfl rfl (by omega) (by omega) (by omega) (by omega) (by omega) 16 (by omega))⟩, ⟨_, rfl, AB rfl (BX 32 5 1 0 32 0 32 BL AX rfl rfl rfl (by omega) (by omega) (by omega) (by omega) (by omega) 32 (by omega))⟩, ⟨_, rfl, AB rfl (AD rfl)⟩, trivial⟩ rfl (AZ rfl (BZ 43 1 _ [(0, Slc nb11 0 tot cp4)] ([Slc nb11 0 tot cp4]) DN CA D1 rfl rfl rfl (by kernel_rfl))) ?_
   rintro v1 L1 ⟨nb12, hnb12, rfl, rfl⟩
   refine ⟨[], ?_⟩
   show DP _ _ _ _ _ _ _ _ [_, _, _, _, _, _, ⟨nb12, [Slc nb11 0 tot cp4], 43, (0, 0)⟩]
   refine BR ⟨[4], [0, 1, 2, 3], [3], [0, 1, 2], [5]⟩ 5 _ rfl rfl (by decide +kernel) rfl ⟨⟨_, rfl, AB rfl (AC 6 27 16 AS rfl A1 rfl rfl)⟩, ⟨_, rfl, AB rfl (BX 16 5 1 0 16 6 16 BC AX rfl rfl rfl (by omega) (by omega) (by omega) (by omega) (by omega) 16 (by omega))⟩, ⟨_, rfl, AB rfl (BX 32 5 1 0 32 0 32 BL AX rfl rfl rfl (by omega) (by omega) (by omega) (by omega) (by omega) 32 (by omega))⟩, trivial⟩ rfl (AZ rfl (BG 90 [Slc nb1 0 32 32, Slc nb12 0 1 1] _ (A0 [Slc nb1 0 32 32, Slc nb12 0 1 1] Tryd.call90 rfl) (fun w1 hw1 => short_c (some ⟨nb1, 0, none⟩) 32 32 key nb12 1 [Slc nb11 0 tot cp4] [tktT pv ep k l ([] : List SealR) bl] w1 hk32 (fun h => by cases h) (by omega) (RdB.of hw1 (MemAt.ent 0 rfl (AM _)) (by simp)) (by simp) (by simp) (by simp) ⟨RdA.of hw1 (MemAt.ent 6 rfl (Seg.head)) (by simp), ⟨⟨(some ⟨nb11, 0, none⟩), cp4, congrArg (fun n => Value.slice (some ⟨nb11, 0, none⟩) n cp4) ((show (tktT pv ep k l ([] : List SealR) bl).length = tot from ((D5 hl rfl).trans htot))).symm, (RdB.of hw1 (MemAt.ent 5 rfl (A2 (AM _))) (by simp))⟩, trivial⟩⟩ (by simp only [List.flatten_cons, List.flatten_nil, List.length_append, List.length_nil, (show (tktT pv ep k l ([] : List SealR) bl).length = tot from ((D5 hl rfl).trans htot))]; omega) (hG.at hw1)))) ?_
   rintro v1 L1 ⟨_, ⟨nb13, sp5, cp5, rfl, rfl, hc17, hc18, hc19⟩, rfl⟩
   refine ⟨[], ?_⟩
   show DP _ _ _ _ _ _ _ _ [_, _, _, _, _, _, _, ⟨nb13, cu8 (mid (macL key ([tktT pv ep k l ([] : List SealR) bl].flatten)) 0 16) ++ sp5, 5, (0, 0)⟩]
   refine BR ⟨[4, 5], [0, 1, 2, 3], [2, 3], [0, 1], [6]⟩ 6 _ rfl rfl (by decide +kernel) rfl ⟨⟨_, rfl, AB rfl (AC 6 27 16 AS rfl A1 rfl rfl)⟩, ⟨_, rfl, AB rfl (BX 16 5 1 0 16 6 16 BC AX rfl rfl rfl (by omega) (by omega) (by omega) (by omega) (by omega) 16 (by omega))⟩, trivial⟩ rfl (AZ rfl (FA 43 43 5 4 nb6 6 16 16 ([U64 pv, U64 ep, I64 ((k:Int)), Slc nb4 0 ni cp1, .slice ao2 0 ca2, U64 bl] ++ cu8 (zr8 16)) 29 (some ⟨nb13, 0, none⟩) 16 cp5 16 (cu8 (mid (macL key ([tktT pv ep k l ([] : List SealR) bl].flatten)) 0 16)) ([U64 pv, U64 ep, I64 ((k:Int)), Slc nb4 0 ni cp1, .slice ao2 0 ca2, U64 bl] ++ cu8 (mid (macL key ([tktT pv ep k l ([] : List SealR) bl].flatten)) 0 16)) AO EO rfl rfl rfl rfl (by rw [DX]; exact (show (mid (macL key ([tktT pv ep k l ([] : List SealR) bl].flatten)) 0 16).length = 16 from EH (by rw [C6]; omega))) (SrcAt.mem (MemAt.ent 7 rfl (A2 (AM _)))) (by simp [(AP 16)]; try omega) (by first | exact CK | exact DW | exact DT | (simp [cu8, cu32, cu64, Value.oneCell']; done)) (FQ 6 0 rfl rfl (BF (by rw [DX, DX]; first | exact ((show (mid (macL key ([tktT pv ep k l ([] : List SealR) bl].flatten)) 0 16).length = 16 from EH (by rw [C6]; omega))).trans ((AP 16)).symm | exact ((AP 16)).trans ((show (mid (macL key ([tktT pv ep k l ([] : List SealR) bl].flatten)) 0 16).length = 16 from EH (by rw [C6]; omega))).symm))))) ?_
   rintro v1 L1 ⟨rfl, rfl⟩
   refine ⟨[], ?_⟩
   show DP _ _ _ _ _ _ _ _ [_, _, _, _, ⟨nb6, [U64 pv, U64 ep, I64 ((k:Int)), Slc nb4 0 ni cp1, .slice ao2 0 ca2, U64 bl] ++ cu8 (mid (macL key ([tktT pv ep k l ([] : List SealR) bl].flatten)) 0 16), 29, (0, 0)⟩, _, _, _]
   refine CZ ⟨[4, 5, 6], [0, 1, 2, 3], [0, 1, 2, 3], [], []⟩ rfl rfl (by decide +kernel) rfl trivial ?_
   refine CC (F' := [(10, Ptr nb6 0), (8, Ptr nb3 0), (9, .nilIface)]) (by kernel_rfl) ?_
   refine AF (AL ?_)
   rw [tkG_of key pv ep k l ([] : List SealR) bl]
   show JC _ _ _ _ [⟨nb1, cu8 key, 54, (0, 0)⟩, ⟨nb2, [I64 ((k:Int)), .slice ai ni ci, .slice sa 0 sc, U64 bl], 26, (0, 0)⟩, ⟨nb3, [U64 (0:UInt64), U64 (0:UInt64), I64 (0:Int), .slice none 0 0, .slice none 0 0, U64 (0:UInt64)] ++ cu8 (zr8 16), 29, (0, 0)⟩, ⟨nb4, cu64 l ++ sp1, 22, (0, 0)⟩, ⟨nb6, [U64 pv, U64 ep, I64 ((k:Int)), Slc nb4 0 ni cp1, .slice ao2 0 ca2, U64 bl] ++ cu8 (tkG key pv ep k l ([] : List SealR) bl), 29, (0, 0)⟩, ⟨nb11, cu8 (tktT pv ep k l ([] : List SealR) bl) ++ sp4, 5, (0, 0)⟩, ⟨nb12, [Slc nb11 0 tot cp4], 43, (0, 0)⟩, ⟨nb13, cu8 (tkG key pv ep k l ([] : List SealR) bl) ++ sp5, 5, (0, 0)⟩]
   refine AE (AA (.agg (List.toArray (α := Value) ([U64 pv, U64 ep, I64 ((k:Int)), Slc nb4 0 ni cp1, .slice ao2 0 ca2, U64 bl] ++ cu8 (tkG key pv ep k l ([] : List SealR) bl)))) (AK rfl (BH BE AW (by simp [(CO _ _ _ _ _ _ _)]) (MemAt.ent 4 rfl (AM _)))) rfl ?_)
   refine AR (A6 2 nb3 0 22 ([U64 (0:UInt64), U64 (0:UInt64), I64 (0:Int), .slice none 0 0, .slice none 0 0, U64 (0:UInt64)] ++ cu8 (zr8 16)) 29 (.agg (List.toArray (α := Value) ([U64 pv, U64 ep, I64 ((k:Int)), Slc nb4 0 ni cp1, .slice ao2 0 ca2, U64 bl] ++ cu8 (tkG key pv ep k l ([] : List SealR) bl)))) ([U64 pv, U64 ep, I64 ((k:Int)), Slc nb4 0 ni cp1, .slice ao2 0 ca2, U64 bl] ++ cu8 (tkG key pv ep k l ([] : List SealR) bl)) ([U64 pv, U64 ep, I64 ((k:Int)), Slc nb4 0 ni cp1, .slice ao2 0 ca2, U64 bl] ++ cu8 (tkG key pv ep k l ([] : List SealR) bl)) rfl rfl rfl (by first | rfl | simp) AW (by simp [(CO _ _ _ _ _ _ _)]) (DA (by simp [Value.oneCell']) CK) (by simp [(AP 16)]) (BF (by simp [(AP 16), (CO _ _ _ _ _ _ _)]))) rfl ?_
   rintro v1 L1 ⟨rfl, rfl⟩
   show JL _ _ _ _ _ [_, _, ⟨nb3, [U64 pv, U64 ep, I64 ((k:Int)), Slc nb4 0 ni cp1, .slice ao2 0 ca2, U64 bl] ++ cu8 (tkG key pv ep k l ([] : List SealR) bl), 29, (0, 0)⟩, _, _, _, _, _]
   refine AA _ (AH rfl) rfl ?_
   refine AN (AF (BO (B8 [false, false, true, true, false, false, false, false] ?_)))
   show JQ _ _ _ _ [_, _]
   refine BP (.tuple #[.agg (List.toArray (α := Value) ([U64 pv, U64 ep, I64 ((k:Int)), Slc nb4 0 ni cp1, .slice ao2 0 ca2, U64 bl] ++ cu8 (tkG key pv ep k l ([] : List SealR) bl))), .nilIface]) (res2 DM (ED rfl (BH BE AW (by simp [(CO _ _ _ _ _ _ _)]) (MemAt.ent 0 rfl (AM _)))) (BT rfl)) fun w1 hw1 => ?_
   exact ⟨_, _, rfl, ⟨nb4, sp1, cp1, ao2, ca2, rfl, rfl, hc1, hc2, hc3, (by omega), hc13⟩, hw1.sub (by simp) (by simp)⟩
 ·
  rintro v1 L1 ⟨nb5, hnb5, rfl, rfl⟩
  refine ⟨[], ?_⟩
  show DP _ _ _ _ _ _ _ _ [_, _, _, ⟨nb5, [U64 (0:UInt64), U64 (0:UInt64), I64 (0:Int), .slice none 0 0, .slice none 0 0, U64 (0:UInt64)] ++ cu8 (zr8 16), 29, (0, 0)⟩]
  refine BR ⟨[14], [0, 1, 2, 3, 4, 5, 7, 8, 10, 11], [], [0, 1, 2, 3, 4, 5, 7, 8, 10, 11], [6]⟩ 6 _ rfl rfl (by decide +kernel) rfl ⟨⟨_, rfl, AB rfl (AD rfl)⟩, ⟨_, rfl, AB rfl (AD rfl)⟩, ⟨_, rfl, AB rfl (AC 0 3 1 AG rfl A7 rfl rfl)⟩, ⟨_, rfl, AB rfl (AK rfl (AV BA (MemAt.ent 1 rfl (Seg.head))))⟩, ⟨_, rfl, AB rfl (AC 1 23 1 AG rfl CE rfl rfl)⟩, ⟨_, rfl, AB rfl (AK rfl (AV CL (MemAt.ent 1 rfl (AJ (Seg.head)))))⟩, ⟨_, rfl, AB rfl (AC 2 24 1 AG rfl B3 rfl rfl)⟩, ⟨_, rfl, AB rfl (AK rfl (AV B6 (MemAt.ent 1 rfl (AJ (AJ (Seg.head))))))⟩, ⟨_, rfl, AB rfl (AC 3 22 1 AG rfl AT rfl rfl)⟩, ⟨_, rfl, AB rfl (AK rfl (AV AU (MemAt.ent 1 rfl (AJ (AJ (AJ (Seg.head)))))))⟩, trivial⟩ rfl (AZ rfl (BG 112 [.slice ai ni ci] _ (A0 [.slice ai ni ci] EV rfl) (fun w1 hw1 => F4 ai ni ci l w1 hl (by omega) (by omega) (by omega) (C1 hw1 rfl hv) (by omega)))) ?_
  rintro v1 L1 ⟨_, ⟨nb14, sp6, cp6, rfl, rfl, hc20, hc21, hc22⟩, rfl⟩
  refine ⟨[], ?_⟩
  show DP _ _ _ _ _ _ _ _ [_, _, _, _, ⟨nb14, cu64 l ++ sp6, 22, (0, 0)⟩]
  refine BR ⟨[14, 6], [0, 1, 2, 3, 4, 5, 7, 8, 10, 11], [4, 5], [0, 1, 2, 3, 7, 8, 10, 11], [9]⟩ 9 _ rfl rfl (by decide +kernel) rfl ⟨⟨_, rfl, AB rfl (AD rfl)⟩, ⟨_, rfl, AB rfl (AD rfl)⟩, ⟨_, rfl, AB rfl (AC 0 3 1 AG rfl A7 rfl rfl)⟩, ⟨_, rfl, AB rfl (AK rfl (AV BA (MemAt.ent 1 rfl (Seg.head))))⟩, ⟨_, rfl, AB rfl (AC 2 24 1 AG rfl B3 rfl rfl)⟩, ⟨_, rfl, AB rfl (AK rfl (AV B6 (MemAt.ent 1 rfl (AJ (AJ (Seg.head))))))⟩, ⟨_, rfl, AB rfl (AC 3 22 1 AG rfl AT rfl rfl)⟩, ⟨_, rfl, AB rfl (AK rfl (AV AU (MemAt.ent 1 rfl (AJ (AJ (AJ (Seg.head)))))))⟩, trivial⟩ rfl (AZ rfl (BG 113 [.slice sa 0 sc] _ (A0 [.slice sa 0 sc] D2 rfl) (fun w1 hw1 => FS sa sc w1 (by omega) hnS))) ?_
  rintro v1 L1 ⟨_, ⟨ao3, ca3, rfl, rfl, hc23, hc24⟩, rfl⟩
  refine ⟨[(12, .agg (List.toArray (α := Value) ([I64 ((k:Int)), Slc nb14 0 ni cp6, .slice ao3 0 ca3, U64 bl]))), (13, .agg (List.toArray (α := Value) ([U64 pv, U64 ep, I64 ((k:Int)), Slc nb14 0 ni cp6, .slice ao3 0 ca3, U64 bl] ++ cu8 (zr8 16))))], ?_⟩
  show DP _ _ _ _ _ _ _ _ [_, _, _, _, _]
  refine BR ⟨[14, 6, 9], [0, 1, 2, 3, 4, 5, 7, 8, 10, 11, 12, 13], [4, 5, 7, 8], [0, 1, 2, 3, 10, 11, 12, 13], [15]⟩ 15 _ rfl rfl (by decide +kernel) rfl ⟨⟨_, rfl, AB rfl (AD rfl)⟩, ⟨_, rfl, AB rfl (AD rfl)⟩, ⟨_, rfl, AB rfl (AC 0 3 1 AG rfl A7 rfl rfl)⟩, ⟨_, rfl, AB rfl (AK rfl (AV BA (MemAt.ent 1 rfl (Seg.head))))⟩, ⟨_, rfl, AB rfl (AC 3 22 1 AG rfl AT rfl rfl)⟩, ⟨_, rfl, AB rfl (AK rfl (AV AU (MemAt.ent 1 rfl (AJ (AJ (AJ (Seg.head)))))))⟩, ⟨_, rfl, AB rfl (CB [(0, I64 ((k:Int))), (1, Slc nb14 0 ni cp6), (2, .slice ao3 0 ca3), (3, U64 bl)] _ rfl (fun _ => DY rfl rfl rfl rfl))⟩, ⟨_, rfl, AB rfl (CB [(0, U64 pv), (1, U64 ep), (2, .agg (List.toArray (α := Value) ([I64 ((k:Int)), Slc nb14 0 ni cp6, .slice ao3 0 ca3, U64 bl])))] _ rfl (fun _ => EA rfl rfl (by simp [AP])))⟩, trivial⟩ rfl (AZ rfl (A6 3 nb5 0 22 ([U64 (0:UInt64), U64 (0:UInt64), I64 (0:Int), .slice none 0 0, .slice none 0 0, U64 (0:UInt64)] ++ cu8 (zr8 16)) 29 (.agg (List.toArray (α := Value) ([U64 pv, U64 ep, I64 ((k:Int)), Slc nb14 0 ni cp6, .slice ao3 0 ca3, U64 bl] ++ cu8 (zr8 16)))) ([U64 pv, U64 ep, I64 ((k:Int)), Slc nb14 0 ni cp6, .slice ao3 0 ca3, U64 bl] ++ cu8 (zr8 16)) ([U64 pv, U64 ep, I64 ((k:Int)), Slc nb14 0 ni cp6, .slice ao3 0 ca3, U64 bl] ++ cu8 (zr8 16)) rfl rfl rfl (by first | rfl | simp) AW (by simp [(AP 16)]) (DA (by simp [Value.oneCell']) CK) (by simp [(AP 16)]) (BF (by simp [(AP 16), (AP 16)])))) ?_
  rintro v1 L1 ⟨rfl, rfl⟩
  refine ⟨[], ?_⟩
  show DP _ _ _ _ _ _ _ _ [_, _, _, ⟨nb5, [U64 pv, U64 ep, I64 ((k:Int)), Slc nb14 0 ni cp6, .slice ao3 0 ca3, U64 bl] ++ cu8 (zr8 16), 29, (0, 0)⟩, _]
  refine CZ ⟨[14, 6, 9, 15], [0, 1, 2, 3, 4, 5, 7, 8, 10, 11, 12, 13], [0, 1, 2, 3, 4, 5, 7, 8, 10, 11, 12, 13], [], []⟩ rfl rfl (by decide +kernel) rfl trivial ?_
  refine CC (F' := [(10, Ptr nb5 0), (4, Ptr nb1 0), (8, Ptr nb3 0), (9, .nilIface)]) (by kernel_rfl) ?_
  refine AF (AL (AE (AA (.agg (List.toArray (α := Value) ([U64 pv, U64 ep, I64 ((k:Int)), Slc nb14 0 ni cp6, .slice ao3 0 ca3, U64 bl] ++ cu8 (zr8 16)))) (AK rfl (BH BE AW (by simp [(AP 16)]) (MemAt.ent 3 rfl (AM _)))) rfl ?_)))
  refine AR (BG 114 [.agg (List.toArray (α := Value) ([U64 pv, U64 ep, I64 ((k:Int)), Slc nb14 0 ni cp6, .slice ao3 0 ca3, U64 bl] ++ cu8 (zr8 16)))] _ (A0 [.agg (List.toArray (α := Value) ([U64 pv, U64 ep, I64 ((k:Int)), Slc nb14 0 ni cp6, .slice ao3 0 ca3, U64 bl] ++ cu8 (zr8 16)))] DL rfl) (fun w1 hw1 => text_w pv ep k (some ⟨nb14, 0, none⟩) ni cp6 l ao3 0 ca3 ([] : List SealR) bl (zr8 16) tot w1 hl (by omega) (by omega) (by omega) (RdV.of hw1 (MemAt.ent 4 rfl (A2 (AM _)))) rfl (by omega) (by omega) (by omega) RdV.nil (AP 16) hmay (by omega) (by omega) htot)) rfl ?_
  rintro v1 L1 ⟨_, ⟨nb15, sp7, cp7, rfl, rfl, hc25, hc26, hc27⟩, rfl⟩
  show JL _ _ _ _ ((29, .tuple #[Slc nb15 0 tot cp7, .nilIface]) :: _) [_, _, _, _, _, ⟨nb15, cu8 (tktT pv ep k l ([] : List SealR) bl) ++ sp7, 5, (0, 0)⟩]
  refine AA _ (AD rfl) rfl ?_
  refine AA _ (BN rfl rfl) rfl ?_
  refine AA _ (BN rfl rfl) rfl ?_
  refine AA _ (AH rfl) rfl ?_
  refine AA _ (AH rfl) rfl ?_
  refine AN (AF (AL (AL (AE (AA _ (AD rfl) rfl ?_)))))
  refine AA (.bool false) (DC _ _ _ rfl rfl (fun _ => EC ..) fun _ => EF BB) rfl ?_
  refine AN (AF (C0 _ rfl rfl ?_))
  refine B4 (AF (AL (CQ 44 4 [(0, Ptr nb5 6), (1, Slc nb5 6 16 16), (2, Slc nb1 0 32 32), (3, Slc nb15 0 tot cp7)] BQ rfl (by decide +kernel) ?_)))
  refine BR ⟨[], [0, 1, 2, 3], [], [0, 1, 2, 3], [4]⟩ 4 _ rfl rfl (by decide +kernel) rfl ⟨⟨_, rfl, AB rfl (AC 6 27 16 AS rfl A1 rfl rfl)⟩, ⟨_, rfl, AB rfl (BX 16 5 1 0 16 6 16 BC AX rfl rfl rfl (by omega) (by omega) (by omega) (by omega) (by omega) 16 (by omega))⟩, ⟨_, rfl, AB rfl (BX 32 5 1 0 32 0 32 BL AX rfl rfl rfl (by omega) (by omega) (by omega) (by omega) (by omega) 32 (by omega))⟩, ⟨_, rfl, AB rfl (AD rfl)⟩, trivial⟩ rfl (AZ rfl (BZ 43 1 _ [(0, Slc nb15 0 tot cp7)] ([Slc nb15 0 tot cp7]) DN CA D1 rfl rfl rfl (by kernel_rfl))) ?_
  rintro v1 L1 ⟨nb16, hnb16, rfl, rfl⟩
  refine ⟨[], ?_⟩
  show DP _ _ _ _ _ _ _ _ [_, _, _, _, _, _, ⟨nb16, [Slc nb15 0 tot cp7], 43, (0, 0)⟩]
  refine BR ⟨[4], [0, 1, 2, 3], [3], [0, 1, 2], [5]⟩ 5 _ rfl rfl (by decide +kernel) rfl ⟨⟨_, rfl, AB rfl (AC 6 27 16 AS rfl A1 rfl rfl)⟩, ⟨_, rfl, AB rfl (BX 16 5 1 0 16 6 16 BC AX rfl rfl rfl (by omega) (by omega) (by omega) (by omega) (by omega) 16 (by omega))⟩, ⟨_, rfl, AB rfl (BX 32 5 1 0 32 0 32 BL AX rfl rfl rfl (by omega) (by omega) (by omega) (by omega) (by omega) 32 (by omega))⟩, trivial⟩ rfl (AZ rfl (BG 90 [Slc nb1 0 32 32, Slc nb16 0 1 1] _ (A0 [Slc nb1 0 32 32, Slc nb16 0 1 1] Tryd.call90 rfl) (fun w1 hw1 => short_c (some ⟨nb1, 0, none⟩) 32 32 key nb16 1 [Slc nb15 0 tot cp7] [tktT pv ep k l ([] : List SealR) bl] w1 hk32 (fun h => by cases h) (by omega) (RdB.of hw1 (MemAt.ent 0 rfl (AM _)) (by simp)) (by simp) (by simp) (by simp) ⟨RdA.of hw1 (MemAt.ent 6 rfl (Seg.head)) (by simp), ⟨⟨(some ⟨nb15, 0, none⟩), cp7, congrArg (fun n => Value.slice (some ⟨nb15, 0, none⟩) n cp7) ((show (tktT pv ep k l ([] : List SealR) bl).length = tot from ((D5 hl rfl).trans htot))).symm, (RdB.of hw1 (MemAt.ent 5 rfl (A2 (AM _))) (by simp))⟩, trivial⟩⟩ (by simp only [List.flatten_cons, List.flatten_nil, List.length_append, List.length_nil, (show (tktT pv ep k l ([] : List SealR) bl).length = tot from ((D5 hl rfl).trans htot))]; omega) (hG.at hw1)))) ?_
  rintro v1 L1 ⟨_, ⟨nb17, sp8, cp8, rfl, rfl, hc28, hc29, hc30⟩, rfl⟩
  refine ⟨[], ?_⟩
  show DP _ _ _ _ _ _ _ _ [_, _, _, _, _, _, _, ⟨nb17, cu8 (mid (macL key ([tktT pv ep k l ([] : List SealR) bl].flatten)) 0 16) ++ sp8, 5, (0, 0)⟩]
  refine BR ⟨[4, 5], [0, 1, 2, 3], [2, 3], [0, 1], [6]⟩ 6 _ rfl rfl (by decide +kernel) rfl ⟨⟨_, rfl, AB rfl (AC 6 27 16 AS rfl A1 rfl rfl)⟩, ⟨_, rfl, AB rfl (BX 16 5 1 0 16 6 16 BC AX rfl rfl rfl (by omega) (by omega) (by omega) (by omega) (by omega) 16 (by omega))⟩, trivial⟩ rfl (AZ rfl (FA 43 43 5 3 nb5 6 16 16 ([U64 pv, U64 ep, I64 ((k:Int)), Slc nb14 0 ni cp6, .slice ao3 0 ca3, U64 bl] ++ cu8 (zr8 16)) 29 (some ⟨nb17, 0, none⟩) 16 cp8 16 (cu8 (mid (macL key ([tktT pv ep k l ([] : List SealR) bl].flatten)) 0 16)) ([U64 pv, U64 ep, I64 ((k:Int)), Slc nb14 0 ni cp6, .slice ao3 0 ca3, U64 bl] ++ cu8 (mid (macL key ([tktT pv ep k l ([] : List SealR) bl].flatten)) 0 16)) AO EO rfl rfl rfl rfl (by rw [DX]; exact (show (mid (macL key ([tktT pv ep k l ([] : List SealR) bl].flatten)) 0 16).length = 16 from EH (by rw [C6]; omega))) (SrcAt.mem (MemAt.ent 7 rfl (A2 (AM _)))) (by simp [(AP 16)]; try omega) (by first | exact CK | exact DW | exact DT | (simp [cu8, cu32, cu64, Value.oneCell']; done)) (FQ 6 0 rfl rfl (BF (by rw [DX, DX]; first | exact ((show (mid (macL key ([tktT pv ep k l ([] : List SealR) bl].flatten)) 0 16).length = 16 from EH (by rw [C6]; omega))).trans ((AP 16)).symm | exact ((AP 16)).trans ((show (mid (macL key ([tktT pv ep k l ([] : List SealR) bl].flatten)) 0 16).length = 16 from EH (by rw [C6]; omega))).symm))))) ?_
  rintro v1 L1 ⟨rfl, rfl⟩
  refine ⟨[], ?_⟩
  show DP _ _ _ _ _ _ _ _ [_, _, _, ⟨nb5, [U64 pv, U64 ep, I64 ((k:Int)), Slc nb14 0 ni cp6, .slice ao3 0 ca3, U64 bl] ++ cu8 (mid (macL key ([tktT pv ep k l ([] : List SealR) bl].flatten)) 0 16), 29, (0, 0)⟩, _, _, _, _]
  refine CZ ⟨[4, 5, 6], [0, 1, 2, 3], [0, 1, 2, 3], [], []⟩ rfl rfl (by decide +kernel) rfl trivial ?_
  refine CC (F' := [(10, Ptr nb5 0), (8, Ptr nb3 0), (9, .nilIface)]) (by kernel_rfl) ?_
  refine AF (AL ?_)
  rw [tkG_of key pv ep k l ([] : List SealR) bl]
  show JC _ _ _ _ [⟨nb1, cu8 key, 54, (0, 0)⟩, ⟨nb2, [I64 ((k:Int)), .slice ai ni ci, .slice sa 0 sc, U64 bl], 26, (0, 0)⟩, ⟨nb3, [U64 (0:UInt64), U64 (0:UInt64), I64 (0:Int), .slice none 0 0, .slice none 0 0, U64 (0:UInt64)] ++ cu8 (zr8 16), 29, (0, 0)⟩, ⟨nb5, [U64 pv, U64 ep, I64 ((k:Int)), Slc nb14 0 ni cp6, .slice ao3 0 ca3, U64 bl] ++ cu8 (tkG key pv ep k l ([] : List SealR) bl), 29, (0, 0)⟩, ⟨nb14, cu64 l ++ sp6, 22, (0, 0)⟩, ⟨nb15, cu8 (tktT pv ep k l ([] : List SealR) bl) ++ sp7, 5, (0, 0)⟩, ⟨nb16, [Slc nb15 0 tot cp7], 43, (0, 0)⟩, ⟨nb17, cu8 (tkG key pv ep k l ([] : List SealR) bl) ++ sp8, 5, (0, 0)⟩]
  refine AE (AA (.agg (List.toArray (α := Value) ([U64 pv, U64 ep, I64 ((k:Int)), Slc nb14 0 ni cp6, .slice ao3 0 ca3, U64 bl] ++ cu8 (tkG key pv ep k l ([] : List SealR) bl)))) (AK rfl (BH BE AW (by simp [(CO _ _ _ _ _ _ _)]) (MemAt.ent 3 rfl (AM _)))) rfl ?_)
  refine AR (A6 2 nb3 0 22 ([U64 (0:UInt64), U64 (0:UInt64), I64 (0:Int), .slice none 0 0, .slice none 0 0, U64 (0:UInt64)] ++ cu8 (zr8 16)) 29 (.agg (List.toArray (α := Value) ([U64 pv, U64 ep, I64 ((k:Int)), Slc nb14 0 ni cp6, .slice ao3 0 ca3, U64 bl] ++ cu8 (tkG key pv ep k l ([] : List SealR) bl)))) ([U64 pv, U64 ep, I64 ((k:Int)), Slc nb14 0 ni cp6, .slice ao3 0 ca3, U64 bl] ++ cu8 (tkG key pv ep k l ([] : List SealR) bl)) ([U64 pv, U64 ep, I64 ((k:Int)), Slc nb14 0 ni cp6, .slice ao3 0 ca3, U64 bl] ++ cu8 (tkG key pv ep k l ([] : List SealR) bl)) rfl rfl rfl (by first | rfl | simp) AW (by simp [(CO _ _ _ _ _ _ _)]) (DA (by simp [Value.oneCell']) CK) (by simp [(AP 16)]) (BF (by simp [(AP 16), (CO _ _ _ _ _ _ _)]))) rfl ?_
  rintro v1 L1 ⟨rfl, rfl⟩
  show JL _ _ _ _ _ [_, _, ⟨nb3, [U64 pv, U64 ep, I64 ((k:Int)), Slc nb14 0 ni cp6, .slice ao3 0 ca3, U64 bl] ++ cu8 (tkG key pv ep k l ([] : List SealR) bl), 29, (0, 0)⟩, _, _, _, _, _]
  refine AA _ (AH rfl) rfl ?_
  refine AN (AF (BO (B8 [false, false, true, false, true, false, false, false] ?_)))
  show JQ _ _ _ _ [_, _]
  refine BP (.tuple #[.agg (List.toArray (α := Value) ([U64 pv, U64 ep, I64 ((k:Int)), Slc nb14 0 ni cp6, .slice ao3 0 ca3, U64 bl] ++ cu8 (tkG key pv ep k l ([] : List SealR) bl))), .nilIface]) (res2 DM (ED rfl (BH BE AW (by simp [(CO _ _ _ _ _ _ _)]) (MemAt.ent 0 rfl (AM _)))) (BT rfl)) fun w1 hw1 => ?_
  exact ⟨_, _, rfl, ⟨nb14, sp6, cp6, ao3, ca3, rfl, rfl, hc20, hc21, hc22, (by omega), hc24⟩, hw1.sub (by simp) (by simp)⟩
theorem sign3_c (key : List UInt8) (pv ep : UInt64) (k : Nat) (ai : Option Addr) (ci : Nat) (sa : Option Addr) (sc : Nat) (bl : UInt64) (tot : Nat)  (w : World) (hk32 : key.length = 32) (hci : ci ≤ maxLen) (hnI : ai = none → ci = 0) (hcs : sc ≤ maxLen) (hnS : sa = none → sc = 0) (hmay : mayN pv ep (k:Int) ([] : List UInt64) ([] : List SealR) bl = 0) (hk : k = 3) (htot : tktN k 0 0 = tot) (htb : tot ≤ 30000) (hG : GLs w)  : Calls Tryd.prog 46 #[.agg (cu8 key).toArray, U64 pv, U64 ep, .agg (List.toArray (α := Value) ([I64 ((k:Int)), .slice ai 0 ci, .slice sa 0 sc, U64 bl]))] w (Post w [] (fun v L => ∃ a1 c1 a2 c2, v = .tuple #[.agg (List.toArray (α := Value) ([U64 pv, U64 ep, I64 (k:Int), .slice a1 0 c1, .slice a2 0 c2, U64 bl] ++ cu8 (tkG key pv ep k ([] : List UInt64) ([] : List SealR) bl))), .nilIface] ∧ L = [] ∧ c1 ≤ maxLen ∧ (a1 = none → c1 = 0) ∧ c2 ≤ maxLen ∧ (a2 = none → c2 = 0))) := by
 have hmx : maxLen = 9223372036854775807 := rfl
 refine enter (P := Tryd.prog) (f := 46) (fn := Tryd.f46) w [] 44 [] [.agg (cu8 key).toArray, U64 pv, U64 ep, .agg (List.toArray (α := Value) ([I64 ((k:Int)), .slice ai 0 ci, .slice sa 0 sc, U64 bl]))] Tryd.func46 rfl rfl (by simp) (B7 (by simp) (by simp) (by simp)) ?_
 show JC _ _ _ [(0, .agg (cu8 key).toArray), (1, U64 pv), (2, U64 ep), (3, .agg (List.toArray (α := Value) ([I64 ((k:Int)), .slice ai 0 ci, .slice sa 0 sc, U64 bl])))] _
 refine AL (AE (AR (CN (.agg (cu8 key).toArray) (cu8 key) rfl (by first | rfl | simp)) rfl ?_))
 rintro v1 L1 ⟨nb1, hnb1, rfl, rfl⟩
 show JL _ _ _ _ ((4, Ptr nb1 0) :: _) [⟨nb1, cu8 key, 54, (0, 0)⟩]
 refine AR (CN (.agg (List.toArray (α := Value) ([I64 ((k:Int)), .slice ai 0 ci, .slice sa 0 sc, U64 bl]))) ([I64 ((k:Int)), .slice ai 0 ci, .slice sa 0 sc, U64 bl]) rfl (by first | rfl | simp)) rfl ?_
 rintro v1 L1 ⟨nb2, hnb2, rfl, rfl⟩
 show JL _ _ _ _ ((7, Ptr nb2 0) :: _) [_, ⟨nb2, [I64 ((k:Int)), .slice ai 0 ci, .slice sa 0 sc, U64 bl], 26, (0, 0)⟩]
 refine AR (BJ _ ([U64 (0:UInt64), U64 (0:UInt64), I64 (0:Int), .slice none 0 0, .slice none 0 0, U64 (0:UInt64)] ++ cu8 (zr8 16)) B9 (by kernel_rfl)) rfl ?_
 rintro v1 L1 ⟨nb3, hnb3, rfl, rfl⟩
 show JL _ _ _ _ ((8, Ptr nb3 0) :: _) [_, _, ⟨nb3, [U64 (0:UInt64), U64 (0:UInt64), I64 (0:Int), .slice none 0 0, .slice none 0 0, U64 (0:UInt64)] ++ cu8 (zr8 16), 29, (0, 0)⟩]
 refine AA _ (AH rfl) rfl ?_
 refine AN (AF (AL (CQ 44 5 [(0, U64 pv), (1, U64 ep), (2, Ptr nb2 0), (3, I64 ((k:Int))), (4, Ptr nb2 1), (5, .slice ai 0 ci), (7, Ptr nb2 2), (8, .slice sa 0 sc), (10, Ptr nb2 3), (11, U64 bl)] BQ rfl (by decide +kernel) ?_)))
 refine DP_two ⟨[], [0, 1, 2, 3, 4, 5, 7, 8, 10, 11], [], [0, 1, 2, 3, 4, 5, 7, 8, 10, 11], [6, 14]⟩ 6 14 _ _ rfl rfl (by decide +kernel) rfl ⟨⟨_, rfl, AB rfl (AD rfl)⟩, ⟨_, rfl, AB rfl (AD rfl)⟩, ⟨_, rfl, AB rfl (AC 0 3 1 AG rfl A7 rfl rfl)⟩, ⟨_, rfl, AB rfl (AK rfl (AV BA (MemAt.ent 1 rfl (Seg.head))))⟩, ⟨_, rfl, AB rfl (AC 1 23 1 AG rfl CE rfl rfl)⟩, ⟨_, rfl, AB rfl (AK rfl (AV CL (MemAt.ent 1 rfl (AJ (Seg.head)))))⟩, ⟨_, rfl, AB rfl (AC 2 24 1 AG rfl B3 rfl rfl)⟩, ⟨_, rfl, AB rfl (AK rfl (AV B6 (MemAt.ent 1 rfl (AJ (AJ (Seg.head))))))⟩, ⟨_, rfl, AB rfl (AC 3 22 1 AG rfl AT rfl rfl)⟩, ⟨_, rfl, AB rfl (AK rfl (AV AU (MemAt.ent 1 rfl (AJ (AJ (AJ (Seg.head)))))))⟩, trivial⟩ rfl rfl (AZ rfl (BG 112 [.slice ai 0 ci] _ (A0 [.slice ai 0 ci] EV rfl) (fun w1 hw1 => clone64Z_w ai ci w1 (by omega) hnI))) (AZ rfl (BJ _ ([U64 (0:UInt64), U64 (0:UInt64), I64 (0:Int), .slice none 0 0, .slice none 0 0, U64 (0:UInt64)] ++ cu8 (zr8 16)) B9 (by kernel_rfl))) ?_ ?_
 ·
  rintro v1 L1 ⟨_, ⟨ao1, ca1, rfl, rfl, hc1, hc2⟩, rfl⟩
  refine ⟨[], ?_⟩
  show DP _ _ _ _ _ _ _ _ [_, _, _]
  refine DP_two ⟨[6], [0, 1, 2, 3, 4, 5, 7, 8, 10, 11], [4, 5], [0, 1, 2, 3, 7, 8, 10, 11], [9, 14]⟩ 9 14 _ _ rfl rfl (by decide +kernel) rfl ⟨⟨_, rfl, AB rfl (AD rfl)⟩, ⟨_, rfl, AB rfl (AD rfl)⟩, ⟨_, rfl, AB rfl (AC 0 3 1 AG rfl A7 rfl rfl)⟩, ⟨_, rfl, AB rfl (AK rfl (AV BA (MemAt.ent 1 rfl (Seg.head))))⟩, ⟨_, rfl, AB rfl (AC 2 24 1 AG rfl B3 rfl rfl)⟩, ⟨_, rfl, AB rfl (AK rfl (AV B6 (MemAt.ent 1 rfl (AJ (AJ (Seg.head))))))⟩, ⟨_, rfl, AB rfl (AC 3 22 1 AG rfl AT rfl rfl)⟩, ⟨_, rfl, AB rfl (AK rfl (AV AU (MemAt.ent 1 rfl (AJ (AJ (AJ (Seg.head)))))))⟩, trivial⟩ rfl rfl (AZ rfl (BG 113 [.slice sa 0 sc] _ (A0 [.slice sa 0 sc] D2 rfl) (fun w1 hw1 => FS sa sc w1 (by omega) hnS))) (AZ rfl (BJ _ ([U64 (0:UInt64), U64 (0:UInt64), I64 (0:Int), .slice none 0 0, .slice none 0 0, U64 (0:UInt64)] ++ cu8 (zr8 16)) B9 (by kernel_rfl))) ?_ ?_
  ·
   rintro v1 L1 ⟨_, ⟨ao2, ca2, rfl, rfl, hc3, hc4⟩, rfl⟩
   refine ⟨[(12, .agg (List.toArray (α := Value) ([I64 ((k:Int)), .slice ao1 0 ca1, .slice ao2 0 ca2, U64 bl]))), (13, .agg (List.toArray (α := Value) ([U64 pv, U64 ep, I64 ((k:Int)), .slice ao1 0 ca1, .slice ao2 0 ca2, U64 bl] ++ cu8 (zr8 16))))], ?_⟩
   show DP _ _ _ _ _ _ _ _ [_, _, _]
   refine BR ⟨[6, 9], [0, 1, 2, 3, 4, 5, 7, 8, 10, 11, 12, 13], [4, 5, 7, 8], [0, 1, 2, 3, 10, 11, 12, 13], [14]⟩ 14 _ rfl rfl (by decide +kernel) rfl ⟨⟨_, rfl, AB rfl (AD rfl)⟩, ⟨_, rfl, AB rfl (AD rfl)⟩, ⟨_, rfl, AB rfl (AC 0 3 1 AG rfl A7 rfl rfl)⟩, ⟨_, rfl, AB rfl (AK rfl (AV BA (MemAt.ent 1 rfl (Seg.head))))⟩, ⟨_, rfl, AB rfl (AC 3 22 1 AG rfl AT rfl rfl)⟩, ⟨_, rfl, AB rfl (AK rfl (AV AU (MemAt.ent 1 rfl (AJ (AJ (AJ (Seg.head)))))))⟩, ⟨_, rfl, AB rfl (CB [(0, I64 ((k:Int))), (1, .slice ao1 0 ca1), (2, .slice ao2 0 ca2), (3, U64 bl)] _ rfl (fun _ => DY rfl rfl rfl rfl))⟩, ⟨_, rfl, AB rfl (CB [(0, U64 pv), (1, U64 ep), (2, .agg (List.toArray (α := Value) ([I64 ((k:Int)), .slice ao1 0 ca1, .slice ao2 0 ca2, U64 bl])))] _ rfl (fun _ => EA rfl rfl (by simp [AP])))⟩, trivial⟩ rfl (AZ rfl (BJ _ ([U64 (0:UInt64), U64 (0:UInt64), I64 (0:Int), .slice none 0 0, .slice none 0 0, U64 (0:UInt64)] ++ cu8 (zr8 16)) B9 (by kernel_rfl))) ?_
   rintro v1 L1 ⟨nb6, hnb6, rfl, rfl⟩
   refine ⟨[], ?_⟩
   show DP _ _ _ _ _ _ _ _ [_, _, _, ⟨nb6, [U64 (0:UInt64), U64 (0:UInt64), I64 (0:Int), .slice none 0 0, .slice none 0 0, U64 (0:UInt64)] ++ cu8 (zr8 16), 29, (0, 0)⟩]
   refine BR ⟨[6, 9, 14], [0, 1, 2, 3, 4, 5, 7, 8, 10, 11, 12, 13], [4, 5, 7, 8], [0, 1, 2, 3, 10, 11, 12, 13], [15]⟩ 15 _ rfl rfl (by decide +kernel) rfl ⟨⟨_, rfl, AB rfl (AD rfl)⟩, ⟨_, rfl, AB rfl (AD rfl)⟩, ⟨_, rfl, AB rfl (AC 0 3 1 AG rfl A7 rfl rfl)⟩, ⟨_, rfl, AB rfl (AK rfl (AV BA (MemAt.ent 1 rfl (Seg.head))))⟩, ⟨_, rfl, AB rfl (AC 3 22 1 AG rfl AT rfl rfl)⟩, ⟨_, rfl, AB rfl (AK rfl (AV AU (MemAt.ent 1 rfl (AJ (AJ (AJ (Seg.head)))))))⟩, ⟨_, rfl, AB rfl (CB [(0, I64 ((k:Int))), (1, .slice ao1 0 ca1), (2, .slice ao2 0 ca2), (3, U64 bl)] _ rfl (fun _ => DY rfl rfl rfl rfl))⟩, ⟨_, rfl, AB rfl (CB [(0, U64 pv), (1, U64 ep), (2, .agg (List.toArray (α := Value) ([I64 ((k:Int)), .slice ao1 0 ca1, .slice ao2 0 ca2, U64 bl])))] _ rfl (fun _ => EA rfl rfl (by simp [AP])))⟩, trivial⟩ rfl (AZ rfl (A6 3 nb6 0 22 ([U64 (0:UInt64), U64 (0:UInt64), I64 (0:Int), .slice none 0 0, .slice none 0 0, U64 (0:UInt64)] ++ cu8 (zr8 16)) 29 (.agg (List.toArray (α := Value) ([U64 pv, U64 ep, I64 ((k:Int)), .slice ao1 0 ca1, .slice ao2 0 ca2, U64 bl] ++ cu8 (zr8 16)))) ([U64 pv, U64 ep, I64 ((k:Int)), .slice ao1 0 ca1, .slice ao2 0 ca2, U64 bl] ++ cu8 (zr8 16)) ([U64 pv, U64 ep, I64 ((k:Int)), .slice ao1 0 ca1, .slice ao2 0 ca2, U64 bl] ++ cu8 (zr8 16)) rfl rfl rfl (by first | rfl | simp) AW (by simp [(AP 16)]) (DA (by simp [Value.oneCell']) CK) (by simp [(AP 16)]) (BF (by simp [(AP 16), (AP 16)])))) ?_
   rintro v1 L1 ⟨rfl, rfl⟩
   refine ⟨[], ?_⟩
   show DP _ _ _ _ _ _ _ _ [_, _, _, ⟨nb6, [U64 pv, U64 ep, I64 ((k:Int)), .slice ao1 0 ca1, .slice ao2 0 ca2, U64 bl] ++ cu8 (zr8 16), 29, (0, 0)⟩]
   refine CZ ⟨[6, 9, 14, 15], [0, 1, 2, 3, 4, 5, 7, 8, 10, 11, 12, 13], [0, 1, 2, 3, 4, 5, 7, 8, 10, 11, 12, 13], [], []⟩ rfl rfl (by decide +kernel) rfl trivial ?_
   refine CC (F' := [(10, Ptr nb6 0), (4, Ptr nb1 0), (8, Ptr nb3 0), (9, .nilIface)]) (by kernel_rfl) ?_
   refine AF (AL (AE (AA (.agg (List.toArray (α := Value) ([U64 pv, U64 ep, I64 ((k:Int)), .slice ao1 0 ca1, .slice ao2 0 ca2, U64 bl] ++ cu8 (zr8 16)))) (AK rfl (BH BE AW (by simp [(AP 16)]) (MemAt.ent 3 rfl (AM _)))) rfl ?_)))
   refine AR (BG 114 [.agg (List.toArray (α := Value) ([U64 pv, U64 ep, I64 ((k:Int)), .slice ao1 0 ca1, .slice ao2 0 ca2, U64 bl] ++ cu8 (zr8 16)))] _ (A0 [.agg (List.toArray (α := Value) ([U64 pv, U64 ep, I64 ((k:Int)), .slice ao1 0 ca1, .slice ao2 0 ca2, U64 bl] ++ cu8 (zr8 16)))] DL rfl) (fun w1 hw1 => text_w pv ep k ao1 0 ca1 ([] : List UInt64) ao2 0 ca2 ([] : List SealR) bl (zr8 16) tot w1 rfl (by omega) (by omega) (by omega) RdV.nil rfl (by omega) (by omega) (by omega) RdV.nil (AP 16) hmay (by omega) (by omega) htot)) rfl ?_
   rintro v1 L1 ⟨_, ⟨nb7, sp1, cp1, rfl, rfl, hc5, hc6, hc7⟩, rfl⟩
   show JL _ _ _ _ ((29, .tuple #[Slc nb7 0 tot cp1, .nilIface]) :: _) [_, _, _, _, ⟨nb7, cu8 (tktT pv ep k ([] : List UInt64) ([] : List SealR) bl) ++ sp1, 5, (0, 0)⟩]
   refine AA _ (AD rfl) rfl ?_
   refine AA _ (BN rfl rfl) rfl ?_
   refine AA _ (BN rfl rfl) rfl ?_
   refine AA _ (AH rfl) rfl ?_
   refine AA _ (AH rfl) rfl ?_
   refine AN (AF (AL (AL (AE (AA _ (AD rfl) rfl ?_)))))
   refine AA (.bool false) (DC _ _ _ rfl rfl (fun _ => EC ..) fun _ => EF BB) rfl ?_
   refine AN (AF (C0 _ rfl rfl ?_))
   refine B4 (AF (AL (CQ 44 4 [(0, Ptr nb6 6), (1, Slc nb6 6 16 16), (2, Slc nb1 0 32 32), (3, Slc nb7 0 tot cp1)] BQ rfl (by decide +kernel) ?_)))
   refine BR ⟨[], [0, 1, 2, 3], [], [0, 1, 2, 3], [4]⟩ 4 _ rfl rfl (by decide +kernel) rfl ⟨⟨_, rfl, AB rfl (AC 6 27 16 AS rfl A1 rfl rfl)⟩, ⟨_, rfl, AB rfl (BX 16 5 1 0 16 6 16 BC AX rfl rfl rfl (by omega) (by omega) (by omega) (by omega) (by omega) 16 (by omega))⟩, ⟨_, rfl, AB rfl (BX 32 5 1 0 32 0 32 BL AX rfl rfl rfl (by omega) (by omega) (by omega) (by omega) (by omega) 32 (by omega))⟩, ⟨_, rfl, AB rfl (AD rfl)⟩, trivial⟩ rfl (AZ rfl (BZ 43 1 _ [(0, Slc nb7 0 tot cp1)] ([Slc nb7 0 tot cp1]) DN CA D1 rfl rfl rfl (by kernel_rfl))) ?_
   rintro v1 L1 ⟨nb8, hnb8, rfl, rfl⟩
   refine ⟨[], ?_⟩
   show DP _ _ _ _ _ _ _ _ [_, _, _, _, _, ⟨nb8, [Slc nb7 0 tot cp1], 43, (0, 0)⟩]
   refine BR ⟨[4], [0, 1, 2, 3], [3], [0, 1, 2], [5]⟩ 5 _ rfl rfl (by decide +kernel) rfl ⟨⟨_, rfl, AB rfl (AC 6 27 16 AS rfl A1 rfl rfl)⟩, ⟨_, rfl, AB rfl (BX 16 5 1 0 16 6 16 BC AX rfl rfl rfl (by omega) (by omega) (by omega) (by omega) (by omega) 16 (by omega))⟩, ⟨_, rfl, AB rfl (BX 32 5 1 0 32 0 32 BL AX rfl rfl rfl (by omega) (by omega) (by omega) (by omega) (by omega) 32 (by omega))⟩, trivial⟩ rfl (AZ rfl (BG 90 [Slc nb1 0 32 32, Slc nb8 0 1 1] _ (A0 [Slc nb1 0 32 32, Slc nb8 0 1 1] Tryd.call90 rfl) (fun w1 hw1 => short_c (some ⟨nb1, 0, none⟩) 32 32 key nb8 1 [Slc nb7 0 tot cp1] [tktT pv ep k ([] : List UInt64) ([] : List SealR) bl] w1 hk32 (fun h => by cases h) (by omega) (RdB.of hw1 (MemAt.ent 0 rfl (AM _)) (by simp)) (by simp) (by simp) (by simp) ⟨RdA.of hw1 (MemAt.ent 5 rfl (Seg.head)) (by simp), ⟨⟨(some ⟨nb7, 0, none⟩), cp1, congrArg (fun n => Value.slice (some ⟨nb7, 0, none⟩) n cp1) ((show (tktT pv ep k ([] : List UInt64) ([] : List SealR) bl).length = tot from ((D5 rfl rfl).trans htot))).symm, (RdB.of hw1 (MemAt.ent 4 rfl (A2 (AM _))) (by simp))⟩, trivial⟩⟩ (by simp only [List.flatten_cons, List.flatten_nil, List.length_append, List.length_nil, (show (tktT pv ep k ([] : List UInt64) ([] : List SealR) bl).length = tot from ((D5 rfl rfl).trans htot))]; omega) (hG.at hw1)))) ?_
   rintro v1 L1 ⟨_, ⟨nb9, sp2, cp2, rfl, rfl, hc8, hc9, hc10⟩, rfl⟩
   refine ⟨[], ?_⟩
   show DP _ _ _ _ _ _ _ _ [_, _, _, _, _, _, ⟨nb9, cu8 (mid (macL key ([tktT pv ep k ([] : List UInt64) ([] : List SealR) bl].flatten)) 0 16) ++ sp2, 5, (0, 0)⟩]
   refine BR ⟨[4, 5], [0, 1, 2, 3], [2, 3], [0, 1], [6]⟩ 6 _ rfl rfl (by decide +kernel) rfl ⟨⟨_, rfl, AB rfl (AC 6 27 16 AS rfl A1 rfl rfl)⟩, ⟨_, rfl, AB rfl (BX 16 5 1 0 16 6 16 BC AX rfl rfl rfl (by omega) (by omega) (by omega) (by omega) (by omega) 16 (by omega))⟩, trivial⟩ rfl (AZ rfl (FA 43 43 5 3 nb6 6 16 16 ([U64 pv, U64 ep, I64 ((k:Int)), .slice ao1 0 ca1, .slice ao2 0 ca2, U64 bl] ++ cu8 (zr8 16)) 29 (some ⟨nb9, 0, none⟩) 16 cp2 16 (cu8 (mid (macL key ([tktT pv ep k ([] : List UInt64) ([] : List SealR) bl].flatten)) 0 16)) ([U64 pv, U64 ep, I64 ((k:Int)), .slice ao1 0 ca1, .slice ao2 0 ca2, U64 bl] ++ cu8 (mid (macL key ([tktT pv ep k ([] : List UInt64) ([] : List SealR) bl].flatten)) 0 16)) AO EO rfl rfl rfl rfl (by rw [DX]; exact (show (mid (macL key ([tktT pv ep k ([] : List UInt64) ([] : List SealR) bl].flatten)) 0 16).length = 16 from EH (by rw [C6]; omega))) (SrcAt.mem (MemAt.ent 6 rfl (A2 (AM _)))) (by simp [(AP 16)]; try omega) (by first | exact CK | exact DW | exact DT | (simp [cu8, cu32, cu64, Value.oneCell']; done)) (FQ 6 0 rfl rfl (BF (by rw [DX, DX]; first | exact ((show (mid (macL key ([tktT pv ep k ([] : List UInt64) ([] : List SealR) bl].flatten)) 0 16).length = 16 from EH (by rw [C6]; omega))).trans ((AP 16)).symm | exact ((AP 16)).trans ((show (mid (macL key ([tktT pv ep k ([] : List UInt64) ([] : List SealR) bl].flatten)) 0 16).length = 16 from EH (by rw [C6]; omega))).symm))))) ?_
   rintro v1 L1 ⟨rfl, rfl⟩
   refine ⟨[], ?_⟩
   show DP _ _ _ _ _ _ _ _ [_, _, _, ⟨nb6, [U64 pv, U64 ep, I64 ((k:Int)), .slice ao1 0 ca1, .slice ao2 0 ca2, U64 bl] ++ cu8 (mid (macL key ([tktT pv ep k ([] : List UInt64) ([] : List SealR) bl].flatten)) 0 16), 29, (0, 0)⟩, _, _, _]
   refine CZ ⟨[4, 5, 6], [0, 1, 2, 3], [0, 1, 2, 3], [], []⟩ rfl rfl (by decide +kernel) rfl trivial ?_
   refine CC (F' := [(10, Ptr nb6 0), (8, Ptr nb3 0), (9, .nilIface)]) (by kernel_rfl) ?_
   refine AF (AL ?_)
   rw [tkG_of key pv ep k ([] : List UInt64) ([] : List SealR) bl]
   show JC _ _ _ _ [⟨nb1, cu8 key, 54, (0, 0)⟩, ⟨nb2, [I64 ((k:Int)), .slice ai 0 ci, .slice sa 0 sc, U64 bl], 26, (0, 0)⟩, ⟨nb3, [U64 (0:UInt64), U64 (0:UInt64), I64 (0:Int), .slice none 0 0, .slice none 0 0, U64 (0:UInt64)] ++ cu8 (zr8 16), 29, (0, 0)⟩, ⟨nb6, [U64 pv, U64 ep, I64 ((k:Int)), .slice ao1 0 ca1, .slice ao2 0 ca2, U64 bl] ++ cu8 (tkG key pv ep k ([] : List UInt64) ([] : List SealR) bl), 29, (0, 0)⟩, ⟨nb7, cu8 (tktT pv ep k ([] : List UInt64) ([] : List SealR) bl) ++ sp1, 5, (0, 0)⟩, ⟨nb8, [Slc nb7 0 tot cp1], 43, (0, 0)⟩, ⟨nb9, cu8 (tkG key pv ep k ([] : List UInt64) ([] : List SealR) bl) ++ sp2, 5, (0, 0)⟩]
   refine AE (AA (.agg (List.toArray (α := Value) ([U64 pv, U64 ep, I64 ((k:Int)), .slice ao1 0 ca1, .slice ao2 0 ca2, U64 bl] ++ cu8 (tkG key pv ep k ([] : List UInt64) ([] : List SealR) bl)))) (AK rfl (BH BE AW (by simp [(CO _ _ _ _ _ _ _)]) (MemAt.ent 3 rfl (AM _)))) rfl ?_)
   refine AR (A6 2 nb3 0 22 ([U64 (0:UInt64), U64 (0:UInt64), I64 (0:Int), .slice none 0 0, .slice none 0 0, U64 (0:UInt64)] ++ cu8 (zr8 16)) 29 (.agg (List.toArray (α := Value) ([U64 pv, U64 ep, I64 ((k:Int)), .slice ao1 0 ca1, .slice ao2 0 ca2, U64 bl] ++ cu8 (tkG key pv ep k ([] : List UInt64) ([] : List SealR) bl)))) ([U64 pv, U64 ep, I64 ((k:Int)), .slice ao1 0 ca1, .slice ao2 0 ca2, U64 bl] ++ cu8 (tkG key pv ep k ([] : List UInt64) ([] : List SealR) bl)) ([U64 pv, U64 ep, I64 ((k:Int)), .slice ao1 0 ca1, .slice ao2 0 ca2, U64 bl] ++ cu8 (tkG key pv ep k ([] : List UInt64) ([] : List SealR) bl)) rfl rfl rfl (by first | rfl | simp) AW (by simp [(CO _ _ _ _ _ _ _)]) (DA (by simp [Value.oneCell']) CK) (by simp [(AP 16)]) (BF (by simp [(AP 16), (CO _ _ _ _ _ _ _)]))) rfl ?_
   rintro v1 L1 ⟨rfl, rfl⟩
   show JL _ _ _ _ _ [_, _, ⟨nb3, [U64 pv, U64 ep, I64 ((k:Int)), .slice ao1 0 ca1, .slice ao2 0 ca2, U64 bl] ++ cu8 (tkG key pv ep k ([] : List UInt64) ([] : List SealR) bl), 29, (0, 0)⟩, _, _, _, _]
   refine AA _ (AH rfl) rfl ?_
   refine AN (AF (BO (B8 [false, false, true, false, false, false, false] ?_)))
   show JQ _ _ _ _ [_]
   refine BP (.tuple #[.agg (List.toArray (α := Value) ([U64 pv, U64 ep, I64 ((k:Int)), .slice ao1 0 ca1, .slice ao2 0 ca2, U64 bl] ++ cu8 (tkG key pv ep k ([] : List UInt64) ([] : List SealR) bl))), .nilIface]) (res2 DM (ED rfl (BH BE AW (by simp [(CO _ _ _ _ _ _ _)]) (MemAt.ent 0 rfl (AM _)))) (BT rfl)) fun w1 hw1 => ?_
   exact ⟨_, _, rfl, ⟨ao1, ca1, ao2, ca2, rfl, rfl, (by omega), hc2, (by omega), hc4⟩, hw1.sub (by simp) (by simp)⟩
  ·
   rintro v1 L1 ⟨nb5, hnb5, rfl, rfl⟩
   refine ⟨[], ?_⟩
   show DP _ _ _ _ _ _ _ _ [_, _, _, ⟨nb5, [U64 (0:UInt64), U64 (0:UInt64), I64 (0:Int), .slice none 0 0, .slice none 0 0, U64 (0:UInt64)] ++ cu8 (zr8 16), 29, (0, 0)⟩]
   refine BR ⟨[6, 14], [0, 1, 2, 3, 4, 5, 7, 8, 10, 11], [4, 5], [0, 1, 2, 3, 7, 8, 10, 11], [9]⟩ 9 _ rfl rfl (by decide +kernel) rfl ⟨⟨_, rfl, AB rfl (AD rfl)⟩, ⟨_, rfl, AB rfl (AD rfl)⟩, ⟨_, rfl, AB rfl (AC 0 3 1 AG rfl A7 rfl rfl)⟩, ⟨_, rfl, AB rfl (AK rfl (AV BA (MemAt.ent 1 rfl (Seg.head))))⟩, ⟨_, rfl, AB rfl (AC 2 24 1 AG rfl B3 rfl rfl)⟩, ⟨_, rfl, AB rfl (AK rfl (AV B6 (MemAt.ent 1 rfl (AJ (AJ (Seg.head))))))⟩, ⟨_, rfl, AB rfl (AC 3 22 1 AG rfl AT rfl rfl)⟩, ⟨_, rfl, AB rfl (AK rfl (AV AU (MemAt.ent 1 rfl (AJ (AJ (AJ (Seg.head)))))))⟩, trivial⟩ rfl (AZ rfl (BG 113 [.slice sa 0 sc] _ (A0 [.slice sa 0 sc] D2 rfl) (fun w1 hw1 => FS sa sc w1 (by omega) hnS))) ?_
   rintro v1 L1 ⟨_, ⟨ao3, ca3, rfl, rfl, hc11, hc12⟩, rfl⟩
   refine ⟨[(12, .agg (List.toArray (α := Value) ([I64 ((k:Int)), .slice ao1 0 ca1, .slice ao3 0 ca3, U64 bl]))), (13, .agg (List.toArray (α := Value) ([U64 pv, U64 ep, I64 ((k:Int)), .slice ao1 0 ca1, .slice ao3 0 ca3, U64 bl] ++ cu8 (zr8 16))))], ?_⟩
   show DP _ _ _ _ _ _ _ _ [_, _, _, _]
   refine BR ⟨[6, 14, 9], [0, 1, 2, 3, 4, 5, 7, 8, 10, 11, 12, 13], [4, 5, 7, 8], [0, 1, 2, 3, 10, 11, 12, 13], [15]⟩ 15 _ rfl rfl (by decide +kernel) rfl ⟨⟨_, rfl, AB rfl (AD rfl)⟩, ⟨_, rfl, AB rfl (AD rfl)⟩, ⟨_, rfl, AB rfl (AC 0 3 1 AG rfl A7 rfl rfl)⟩, ⟨_, rfl, AB rfl (AK rfl (AV BA (MemAt.ent 1 rfl (Seg.head))))⟩, ⟨_, rfl, AB rfl (AC 3 22 1 AG rfl AT rfl rfl)⟩, ⟨_, rfl, AB rfl (AK rfl (AV AU (MemAt.ent 1 rfl (AJ (AJ (AJ (Seg.head)))))))⟩, ⟨_, rfl, AB rfl (CB [(0, I64 ((k:Int))), (1, .slice ao1 0 ca1), (2, .slice ao3 0 ca3), (3, U64 bl)] _ rfl (fun _ => DY rfl rfl rfl rfl))⟩, ⟨_, rfl, AB rfl (CB [(0, U64 pv), (1, U64 ep), (2, .agg (List.toArray (α := Value) ([I64 ((k:Int)), .slice ao1 0 ca1, .slice ao3 0 ca3, U64 bl])))] _ rfl (fun _ => EA rfl rfl (by simp [AP])))⟩, trivial⟩ rfl (AZ rfl (A6 3 nb5 0 22 ([U64 (0:UInt64), U64 (0:UInt64), I64 (0:Int), .slice none 0 0, .slice none 0 0, U64 (0:UInt64)] ++ cu8 (zr8 16)) 29 (.agg (List.toArray (α := Value) ([U64 pv, U64 ep, I64 ((k:Int)), .slice ao1 0 ca1, .slice ao3 0 ca3, U64 bl] ++ cu8 (zr8 16)))) ([U64 pv, U64 ep, I64 ((k:Int)), .slice ao1 0 ca1, .slice ao3 0 ca3, U64 bl] ++ cu8 (zr8 16)) ([U64 pv, U64 ep, I64 ((k:Int)), .slice ao1 0 ca1, .slice ao3 0 ca3, U64 bl] ++ cu8 (zr8 16)) rfl rfl rfl (by first | rfl | simp) AW (by simp [(AP 16)]) (DA (by simp [Value.oneCell']) CK) (by simp [(AP 16)]) (BF (by simp [(AP 16), (AP 16)])))) ?_
   rintro v1 L1 ⟨rfl, rfl⟩
   refine ⟨[], ?_⟩
   show DP _ _ _ _ _ _ _ _ [_, _, _, ⟨nb5, [U64 pv, U64 ep, I64 ((k:Int)), .slice ao1 0 ca1, .slice ao3 0 ca3, U64 bl] ++ cu8 (zr8 16), 29, (0, 0)⟩]
   refine CZ ⟨[6, 14, 9, 15], [0, 1, 2, 3, 4, 5, 7, 8, 10, 11, 12, 13], [0, 1, 2, 3, 4, 5, 7, 8, 10, 11, 12, 13], [], []⟩ rfl rfl (by decide +kernel) rfl trivial ?_
   refine CC (F' := [(10, Ptr nb5 0), (4, Ptr nb1 0), (8, Ptr nb3 0), (9, .nilIface)]) (by kernel_rfl) ?_
   refine AF (AL (AE (AA (.agg (List.toArray (α := Value) ([U64 pv, U64 ep, I64 ((k:Int)), .slice ao1 0 ca1, .slice ao3 0 ca3, U64 bl] ++ cu8 (zr8 16)))) (AK rfl (BH BE AW (by simp [(AP 16)]) (MemAt.ent 3 rfl (AM _)))) rfl ?_)))
   refine AR (BG 114 [.agg (List.toArray (α := Value) ([U64 pv, U64 ep, I64 ((k:Int)), .slice ao1 0 ca1, .slice ao3 0 ca3, U64 bl] ++ cu8 (zr8 16)))] _ (A0 [.agg (List.toArray (α := Value) ([U64 pv, U64 ep, I64 ((k:Int)), .slice ao1 0 ca1, .slice ao3 0 ca3, U64 bl] ++ cu8 (zr8 16)))] DL rfl) (fun w1 hw1 => text_w pv ep k ao1 0 ca1 ([] : List UInt64) ao3 0 ca3 ([] : List SealR) bl (zr8 16) tot w1 rfl (by omega) (by omega) (by omega) RdV.nil rfl (by omega) (by omega) (by omega) RdV.nil (AP 16) hmay (by omega) (by omega) htot)) rfl ?_
   rintro v1 L1 ⟨_, ⟨nb10, sp3, cp3, rfl, rfl, hc13, hc14, hc15⟩, rfl⟩
   show JL _ _ _ _ ((29, .tuple #[Slc nb10 0 tot cp3, .nilIface]) :: _) [_, _, _, _, ⟨nb10, cu8 (tktT pv ep k ([] : List UInt64) ([] : List SealR) bl) ++ sp3, 5, (0, 0)⟩]
   refine AA _ (AD rfl) rfl ?_
   refine AA _ (BN rfl rfl) rfl ?_
   refine AA _ (BN rfl rfl) rfl ?_
   refine AA _ (AH rfl) rfl ?_
   refine AA _ (AH rfl) rfl ?_
   refine AN (AF (AL (AL (AE (AA _ (AD rfl) rfl ?_)))))
   refine AA (.bool false) (DC _ _ _ rfl rfl (fun _ => EC ..) fun _ => EF BB) rfl ?_
   refine AN (AF (C0 _ rfl rfl ?_))
   refine B4 (AF (AL (CQ 44 4 [(0, Ptr nb5 6), (1, Slc nb5 6 16 16), (2, Slc nb1 0 32 32), (3, Slc nb10 0 tot cp3)] BQ rfl (by decide +kernel) ?_)))
   refine BR ⟨[], [0, 1, 2, 3], [], [0, 1, 2, 3], [4]⟩ 4 _ rfl rfl (by decide +kernel) rfl ⟨⟨_, rfl, AB rfl (AC 6 27 16 AS rfl A1 rfl rfl)⟩, ⟨_, rfl, AB rfl (BX 16 5 1 0 16 6 16 BC AX rfl rfl rfl (by omega) (by omega) (by omega) (by omega) (by omega) 16 (by omega))⟩, ⟨_, rfl, AB rfl (BX 32 5 1 0 32 0 32 BL AX rfl rfl rfl (by omega) (by omega) (by omega) (by omega) (by omega) 32 (by omega))⟩, ⟨_, rfl, AB rfl (AD rfl)⟩, trivial⟩ rfl (AZ rfl (BZ 43 1 _ [(0, Slc nb10 0 tot cp3)] ([Slc nb10 0 tot cp3]) DN CA D1 rfl rfl rfl (by kernel_rfl))) ?_
   rintro v1 L1 ⟨nb11, hnb11, rfl, rfl⟩
   refine ⟨[], ?_⟩
   show DP _ _ _ _ _ _ _ _ [_, _, _, _, _, ⟨nb11, [Slc nb10 0 tot cp3], 43, (0, 0)⟩]
   refine BR ⟨[4], [0, 1, 2, 3], [3], [0, 1, 2], [5]⟩ 5 _ rfl rfl (by decide +kernel) rfl ⟨⟨_, rfl, AB rfl (AC 6 27 16 AS rfl A1 rfl rfl)⟩, ⟨_, rfl, AB rfl (BX 16 5 1 0 16 6 16 BC AX rfl rfl rfl (by omega) (by omega) (by omega) (by omega) (by omega) 16 (by omega))⟩, ⟨_, rfl, AB rfl (BX 32 5 1 0 32 0 32 BL AX rfl rfl rfl (by omega) (by omega) (by omega) (by omega) (by omega) 32 (by omega))⟩, trivial⟩ rfl (AZ rfl (BG 90 [Slc nb1 0 32 32, Slc nb11 0 1 1] _ (A0 [Slc nb1 0 32 32, Slc nb11 0 1 1] Tryd.call90 rfl) (fun w1 hw1 => short_c (some ⟨nb1, 0, none⟩) 32 32 key nb11 1 [Slc nb10 0 tot cp3] [tktT pv ep k ([] : List UInt64) ([] : List SealR) bl] w1 hk32 (fun h => by cases h) (by omega) (RdB.of hw1 (MemAt.ent 0 rfl (AM _)) (by simp)) (by simp) (by simp) (by simp) ⟨RdA.of hw1 (MemAt.ent 5 rfl (Seg.head)) (by simp), ⟨⟨(some ⟨nb10, 0, none⟩), cp3, congrArg (fun n => Value.slice (some ⟨nb10, 0, none⟩) n cp3) ((show (tktT pv ep k ([] : List UInt64) ([] : List SealR) bl).length = tot from ((D5 rfl rfl).trans htot))).symm, (RdB.of hw1 (MemAt.ent 4 rfl (A2 (AM _))) (by simp))⟩, trivial⟩⟩ (by simp only [List.flatten_cons, List.flatten_nil, List.length_append, List.length_nil, (show (tktT pv ep k ([] : List UInt64) ([] : List SealR) bl).length = tot from ((D5 rfl rfl).trans htot))]; omega) (hG.at hw1)))) ?_
   rintro v1 L1 ⟨_, ⟨nb12, sp4, cp4, rfl, rfl, hc16, hc17, hc18⟩, rfl⟩
   refine ⟨[], ?_⟩
   show DP _ _ _ _ _ _ _ _ [_, _, _, _, _, _, ⟨nb12, cu8 (mid (macL key ([tktT pv ep k ([] : List UInt64) ([] : List SealR) bl].flatten)) 0 16) ++ sp4, 5, (0, 0)⟩]
   refine BR ⟨[4, 5], [0, 1, 2, 3], [2, 3], [0, 1], [6]⟩ 6 _ rfl rfl (by decide +kernel) rfl ⟨⟨_, rfl, AB rfl (AC 6 27 16 AS rfl A1 rfl rfl)⟩, ⟨_, rfl, AB rfl (BX 16 5 1 0 16 6 16 BC AX rfl rfl rfl (by omega) (by omega) (by omega) (by omega) (by omega) 16 (by omega))⟩, trivial⟩ rfl (AZ rfl (FA 43 43 5 3 nb5 6 16 16 ([U64 pv, U64 ep, I64 ((k:Int)), .slice ao1 0 ca1, .slice ao3 0 ca3, U64 bl] ++ cu8 (zr8 16)) 29 (some ⟨nb12, 0, none⟩) 16 cp4 16 (cu8 (mid (macL key ([tktT pv ep k ([] : List UInt64) ([] : List SealR) bl].flatten)) 0 16)) ([U64 pv, U64 ep, I64 ((k:Int)), .slice ao1 0 ca1, .slice ao3 0 ca3, U64 bl] ++ cu8 (mid (macL key ([tktT pv ep k ([] : List UInt64) ([] : List SealR) bl].flatten)) 0 16)) AO EO rfl rfl rfl rfl (by rw [DX]; exact (show (mid (macL key ([tktT pv ep k ([] : List UInt64) ([] : List SealR) bl].flatten)) 0 16).length = 16 from EH (by rw [C6]; omega))) (SrcAt.mem (MemAt.ent 6 rfl (A2 (AM _)))) (by simp [(AP 16)]; try omega) (by first | exact CK | exact DW | exact DT | (simp [cu8, cu32, cu64, Value.oneCell']; done)) (FQ 6 0 rfl rfl (BF (by rw [DX, DX]; first | exact ((show (mid (macL key ([tktT pv ep k ([] : List UInt64) ([] : List SealR) bl].flatten)) 0 16).length = 16 from EH (by rw [C6]; omega))).trans ((AP 16)).symm | exact ((AP 16)).trans ((show (mid (macL key ([tktT pv ep k ([] : List UInt64) ([] : List SealR) bl].flatten)) 0 16).length = 16 from EH (by rw [C6]; omega))).symm))))) ?_
   rintro v1 L1 ⟨rfl, rfl⟩
   refine ⟨[], ?_⟩
   show DP _ _ _ _ _ _ _ _ [_, _, _, ⟨nb5, [U64 pv, U64 ep, I64 ((k:Int)), .slice ao1 0 ca1, .slice ao3 0 ca3, U64 bl] ++ cu8 (mid (macL key ([tktT pv ep k ([] : List UInt64) ([] : List SealR) bl].flatten)) 0 16), 29, (0, 0)⟩, _, _, _]
   refine CZ ⟨[4, 5, 6], [0, 1, 2, 3], [0, 1, 2, 3], [], []⟩ rfl rfl (by decide +kernel) rfl trivial ?_
   refine CC (F' := [(10, Ptr nb5 0), (8, Ptr nb3 0), (9, .nilIface)]) (by kernel_rfl) ?_
   refine AF (AL ?_)
   rw [tkG_of key pv ep k ([] : List UInt64) ([] : List SealR) bl]
   show JC _ _ _ _ [⟨nb1, cu8 key, 54, (0, 0)⟩, ⟨nb2, [I64 ((k:Int)), .slice ai 0 ci, .slice sa 0 sc, U64 bl], 26, (0, 0)⟩, ⟨nb3, [U64 (0:UInt64), U64 (0:UInt64), I64 (0:Int), .slice none 0 0, .slice none 0 0, U64 (0:UInt64)] ++ cu8 (zr8 16), 29, (0, 0)⟩, ⟨nb5, [U64 pv, U64 ep, I64 ((k:Int)), .slice ao1 0 ca1, .slice ao3 0 ca3, U64 bl] ++ cu8 (tkG key pv ep k ([] : List UInt64) ([] : List SealR) bl), 29, (0, 0)⟩, ⟨nb10, cu8 (tktT pv ep k ([] : List UInt64) ([] : List SealR) bl) ++ sp3, 5, (0, 0)⟩, ⟨nb11, [Slc nb10 0 tot cp3], 43, (0, 0)⟩, ⟨nb12, cu8 (tkG key pv ep k ([] : List UInt64) ([] : List SealR) bl) ++ sp4, 5, (0, 0)⟩]
   refine AE (AA (.agg (List.toArray (α := Value) ([U64 pv, U64 ep, I64 ((k:Int)), .slice ao1 0 ca1, .slice ao3 0 ca3, U64 bl] ++ cu8 (tkG key pv ep k ([] : List UInt64) ([] : List SealR) bl)))) (AK rfl (BH BE AW (by simp [(CO _ _ _ _ _ _ _)]) (MemAt.ent 3 rfl (AM _)))) rfl ?_)
   refine AR (A6 2 nb3 0 22 ([U64 (0:UInt64), U64 (0:UInt64), I64 (0:Int), .slice none 0 0, .slice none 0 0, U64 (0:UInt64)] ++ cu8 (zr8 16)) 29 (.agg (List.toArray (α := Value) ([U64 pv, U64 ep, I64 ((k:Int)), .slice ao1 0 ca1, .slice ao3 0 ca3, U64 bl] ++ cu8 (tkG key pv ep k ([] : List UInt64) ([] : List SealR) bl)))) ([U64 pv, U64 ep, I64 ((k:Int)), .slice ao1 0 ca1, .slice ao3 0 ca3, U64 bl] ++ cu8 (tkG key pv ep k ([] : List UInt64) ([] : List SealR) bl)) ([U64 pv, U64 ep, I64 ((k:Int)), .slice ao1 0 ca1, .slice ao3 0 ca3, U64 bl] ++ cu8 (tkG key pv ep k ([] : List UInt64) ([] : List SealR) bl)) rfl rfl rfl (by first | rfl | simp) AW (by simp [(CO _ _ _ _ _ _ _)]) (DA (by simp [Value.oneCell']) CK) (by simp [(AP 16)]) (BF (by simp [(AP 16), (CO _ _ _ _ _ _ _)]))) rfl ?_
   rintro v1 L1 ⟨rfl, rfl⟩
   show JL _ _ _ _ _ [_, _, ⟨nb3, [U64 pv, U64 ep, I64 ((k:Int)), .slice ao1 0 ca1, .slice ao3 0 ca3, U64 bl] ++ cu8 (tkG key pv ep k ([] : List UInt64) ([] : List SealR) bl), 29, (0, 0)⟩, _, _, _, _]
   refine AA _ (AH rfl) rfl ?_
   refine AN (AF (BO (B8 [false, false, true, false, false, false, false] ?_)))
   show JQ _ _ _ _ [_]
   refine BP (.tuple #[.agg (List.toArray (α := Value) ([U64 pv, U64 ep, I64 ((k:Int)), .slice ao1 0 ca1, .slice ao3 0 ca3, U64 bl] ++ cu8 (tkG key pv ep k ([] : List UInt64) ([] : List SealR) bl))), .nilIface]) (res2 DM (ED rfl (BH BE AW (by simp [(CO _ _ _ _ _ _ _)]) (MemAt.ent 0 rfl (AM _)))) (BT rfl)) fun w1 hw1 => ?_
   exact ⟨_, _, rfl, ⟨ao1, ca1, ao3, ca3, rfl, rfl, (by omega), hc2, (by omega), hc12⟩, hw1.sub (by simp) (by simp)⟩
 ·
  rintro v1 L1 ⟨nb4, hnb4, rfl, rfl⟩
  refine ⟨[], ?_⟩
  show DP _ _ _ _ _ _ _ _ [_, _, _, ⟨nb4, [U64 (0:UInt64), U64 (0:UInt64), I64 (0:Int), .slice none 0 0, .slice none 0 0, U64 (0:UInt64)] ++ cu8 (zr8 16), 29, (0, 0)⟩]
  refine BR ⟨[14], [0, 1, 2, 3, 4, 5, 7, 8, 10, 11], [], [0, 1, 2, 3, 4, 5, 7, 8, 10, 11], [6]⟩ 6 _ rfl rfl (by decide +kernel) rfl ⟨⟨_, rfl, AB rfl (AD rfl)⟩, ⟨_, rfl, AB rfl (AD rfl)⟩, ⟨_, rfl, AB rfl (AC 0 3 1 AG rfl A7 rfl rfl)⟩, ⟨_, rfl, AB rfl (AK rfl (AV BA (MemAt.ent 1 rfl (Seg.head))))⟩, ⟨_, rfl, AB rfl (AC 1 23 1 AG rfl CE rfl rfl)⟩, ⟨_, rfl, AB rfl (AK rfl (AV CL (MemAt.ent 1 rfl (AJ (Seg.head)))))⟩, ⟨_, rfl, AB rfl (AC 2 24 1 AG rfl B3 rfl rfl)⟩, ⟨_, rfl, AB rfl (AK rfl (AV B6 (MemAt.ent 1 rfl (AJ (AJ (Seg.head))))))⟩, ⟨_, rfl, AB rfl (AC 3 22 1 AG rfl AT rfl rfl)⟩, ⟨_, rfl, AB rfl (AK rfl (AV AU (MemAt.ent 1 rfl (AJ (AJ (AJ (Seg.head)))))))⟩, trivial⟩ rfl (AZ rfl (BG 112 [.slice ai 0 ci] _ (A0 [.slice ai 0 ci] EV rfl) (fun w1 hw1 => clone64Z_w ai ci w1 (by omega) hnI))) ?_
  rintro v1 L1 ⟨_, ⟨ao4, ca4, rfl, rfl, hc19, hc20⟩, rfl⟩
  refine ⟨[], ?_⟩
  show DP _ _ _ _ _ _ _ _ [_, _, _, _]
  refine BR ⟨[14, 6], [0, 1, 2, 3, 4, 5, 7, 8, 10, 11], [4, 5], [0, 1, 2, 3, 7, 8, 10, 11], [9]⟩ 9 _ rfl rfl (by decide +kernel) rfl ⟨⟨_, rfl, AB rfl (AD rfl)⟩, ⟨_, rfl, AB rfl (AD rfl)⟩, ⟨_, rfl, AB rfl (AC 0 3 1 AG rfl A7 rfl rfl)⟩, ⟨_, rfl, AB rfl (AK rfl (AV BA (MemAt.ent 1 rfl (Seg.head))))⟩, ⟨_, rfl, AB rfl (AC 2 24 1 AG rfl B3 rfl rfl)⟩, ⟨_, rfl, AB rfl (AK rfl (AV B6 (MemAt.ent 1 rfl (AJ (AJ (Seg.head))))))⟩, ⟨_, rfl, AB rfl (AC 3 22 1 AG rfl AT rfl rfl)⟩, ⟨_, rfl, AB rfl (AK rfl (AV AU (MemAt.ent 1 rfl (AJ (AJ (AJ (Seg.head)))))))⟩, trivial⟩ rfl (AZ rfl (BG 113 [.slice sa 0 sc] _ (A0 [.slice sa 0 sc] D2 rfl) (fun w1 hw1 => FS sa sc w1 (by omega) hnS))) ?_
  rintro v1 L1 ⟨_, ⟨ao5, ca5, rfl, rfl, hc21, hc22⟩, rfl⟩
  refine ⟨[(12, .agg (List.toArray (α := Value) ([I64 ((k:Int)), .slice ao4 0 ca4, .slice ao5 0 ca5, U64 bl]))), (13, .agg (List.toArray (α := Value) ([U64 pv, U64 ep, I64 ((k:Int)), .slice ao4 0 ca4, .slice ao5 0 ca5, U64 bl] ++ cu8 (zr8 16))))], ?_⟩
  show DP _ _ _ _ _ _ _ _ [_, _, _, _]
  refine BR ⟨[14, 6, 9], [0, 1, 2, 3, 4, 5, 7, 8, 10, 11, 12, 13], [4, 5, 7, 8], [0, 1, 2, 3, 10, 11, 12, 13], [15]⟩ 15 _ rfl rfl (by decide +kernel) rfl ⟨⟨_, rfl, AB rfl (AD rfl)⟩, ⟨_, rfl, AB rfl (AD rfl)⟩, ⟨_, rfl, AB rfl (AC 0 3 1 AG rfl A7 rfl rfl)⟩, ⟨_, rfl, AB rfl (AK rfl (AV BA (MemAt.ent 1 rfl (Seg.head))))⟩, ⟨_, rfl, AB rfl (AC 3 22 1 AG rfl AT rfl rfl)⟩, ⟨_, rfl, AB rfl (AK rfl (AV AU (MemAt.ent 1 rfl (AJ (AJ (AJ (Seg.head)))))))⟩, ⟨_, rfl, AB rfl (CB [(0, I64 ((k:Int))), (1, .slice ao4 0 ca4), (2, .slice ao5 0 ca5), (3, U64 bl)] _ rfl (fun _ => DY rfl rfl rfl rfl))⟩, ⟨_, rfl, AB rfl (CB [(0, U64 pv), (1, U64 ep), (2, .agg (List.toArray (α := Value) ([I64 ((k:Int)), .slice ao4 0 ca4, .slice ao5 0 ca5, U64 bl])))] _ rfl (fun _ => EA rfl rfl (by simp [AP])))⟩, trivial⟩ rfl (AZ rfl (A6 3 nb4 0 22 ([U64 (0:UInt64), U64 (0:UInt64), I64 (0:Int), .slice none 0 0, .slice none 0 0, U64 (0:UInt64)] ++ cu8 (zr8 16)) 29 (.agg (List.toArray (α := Value) ([U64 pv, U64 ep, I64 ((k:Int)), .slice ao4 0 ca4, .slice ao5 0 ca5, U64 bl] ++ cu8 (zr8 16)))) ([U64 pv, U64 ep, I64 ((k:Int)), .slice ao4 0 ca4, .slice ao5 0 ca5, U64 bl] ++ cu8 (zr8 16)) ([U64 pv, U64 ep, I64 ((k:Int)), .slice ao4 0 ca4, .slice ao5 0 ca5, U64 bl] ++ cu8 (zr8 16)) rfl rfl rfl (by first | rfl | simp) AW (by simp [(AP 16)]) (DA (by simp [Value.oneCell']) CK) (by simp [(AP 16)]) (BF (by simp [(AP 16), (AP 16)])))) ?_
  rintro v1 L1 ⟨rfl, rfl⟩
  refine ⟨[], ?_⟩
  show DP _ _ _ _ _ _ _ _ [_, _, _, ⟨nb4, [U64 pv, U64 ep, I64 ((k:Int)), .slice ao4 0 ca4, .slice ao5 0 ca5, U64 bl] ++ cu8 (zr8 16), 29, (0, 0)⟩]
  refine CZ ⟨[14, 6, 9, 15], [0, 1, 2, 3, 4, 5, 7, 8, 10, 11, 12, 13], [0, 1, 2, 3, 4, 5, 7, 8, 10, 11, 12, 13], [], []⟩ rfl rfl (by decide +kernel) rfl trivial ?_
  refine CC (F' := [(10, Ptr nb4 0), (4, Ptr nb1 0), (8, Ptr nb3 0), (9, .nilIface)]) (by kernel_rfl) ?_
  refine AF (AL (AE (AA (.agg (List.toArray (α := Value) ([U64 pv, U64 ep, I64 ((k:Int)), .slice ao4 0 ca4, .slice ao5 0 ca5, U64 bl] ++ cu8 (zr8 16)))) (AK rfl (BH BE AW (by simp [(AP 16)]) (MemAt.ent 3 rfl (AM _)))) rfl ?_)))
  refine AR (BG 114 [.agg (List.toArray (α := Value) ([U64 pv, U64 ep, I64 ((k:Int)), .slice ao4 0 ca4, .slice ao5 0 ca5, U64 bl] ++ cu8 (zr8 16)))] _ (A0 [.agg (List.toArray (α := Value) ([U64 pv, U64 ep, I64 ((k:Int)), .slice ao4 0 ca4, .slice ao5 0 ca5, U64 bl] ++ cu8 (zr8 16)))] DL rfl) (fun w1 hw1 => text_w pv ep k ao4 0 ca4 ([] : List UInt64) ao5 0 ca5 ([] : List SealR) bl (zr8 16) tot w1 rfl (by omega) (by omega) (by omega) RdV.nil rfl (by omega) (by omega) (by omega) RdV.nil (AP 16) hmay (by omega) (by omega) htot)) rfl ?_
  rintro v1 L1 ⟨_, ⟨nb13, sp5, cp5, rfl, rfl, hc23, hc24, hc25⟩, rfl⟩
  show JL _ _ _ _ ((29, .tuple #[Slc nb13 0 tot cp5, .nilIface]) :: _) [_, _, _, _, ⟨nb13, cu8 (tktT pv ep k ([] : List UInt64) ([] : List SealR) bl) ++ sp5, 5, (0, 0)⟩]
  refine AA _ (AD rfl) rfl ?_
  refine AA _ (BN rfl rfl) rfl ?_
  refine AA _ (BN rfl rfl) rfl ?_
  refine AA _ (AH rfl) rfl ?_
  refine AA _ (AH rfl) rfl ?_
  refine AN (AF (AL (AL (AE (AA _ (AD rfl) rfl ?_)))))
  refine AA (.bool false) (DC _ _ _ rfl rfl (fun _ => EC ..) fun _ => EF BB) rfl ?_
  refine AN (AF (C0 _ rfl rfl ?_))
  refine B4 (AF (AL (CQ 44 4 [(0, Ptr nb4 6), (1, Slc nb4 6 16 16), (2, Slc nb1 0 32 32), (3, Slc nb13 0 tot cp5)] BQ rfl (by decide +kernel) ?_)))
  refine BR ⟨[], [0, 1, 2, 3], [], [0, 1, 2, 3], [4]⟩ 4 _ rfl rfl (by decide +kernel) rfl ⟨⟨_, rfl, AB rfl (AC 6 27 16 AS rfl A1 rfl rfl)⟩, ⟨_, rfl, AB rfl (BX 16 5 1 0 16 6 16 BC AX rfl rfl rfl (by omega) (by omega) (by omega) (by omega) (by omega) 16 (by omega))⟩, ⟨_, rfl, AB rfl (BX 32 5 1 0 32 0 32 BL AX rfl rfl rfl (by omega) (by omega) (by omega) (by omega) (by omega) 32 (by omega))⟩, ⟨_, rfl, AB rfl (AD rfl)⟩, trivial⟩ rfl (AZ rfl (BZ 43 1 _ [(0, Slc nb13 0 tot cp5)] ([Slc nb13 0 tot cp5]) DN CA D1 rfl rfl rfl (by kernel_rfl))) ?_
  rintro v1 L1 ⟨nb14, hnb14, rfl, rfl⟩
  refine ⟨[], ?_⟩
  show DP _ _ _ _ _ _ _ _ [_, _, _, _, _, ⟨nb14, [Slc nb13 0 tot cp5], 43, (0, 0)⟩]
  refine BR ⟨[4], [0, 1, 2, 3], [3], [0, 1, 2], [5]⟩ 5 _ rfl rfl (by decide +kernel) rfl ⟨⟨_, rfl, AB rfl (AC 6 27 16 AS rfl A1 rfl rfl)⟩, ⟨_, rfl, AB rfl (BX 16 5 1 0 16 6 16 BC AX rfl rfl rfl (by omega) (by omega) (by omega) (by omega) (by omega) 16 (by omega))⟩, ⟨_, rfl, AB rfl (BX 32 5 1 0 32 0 32 BL AX rfl rfl rfl (by omega) (by omega) (by omega) (by omega) (by omega) 32 (by omega))⟩, trivial⟩ rfl (AZ rfl (BG 90 [Slc nb1 0 32 32, Slc nb14 0 1 1] _ (A0 [Slc nb1 0 32 32, Slc nb14 0 1 1] Tryd.call90 rfl) (fun w1 hw1 => short_c (some ⟨nb1, 0, none⟩) 32 32 key nb14 1 [Slc nb13 0 tot cp5] [tktT pv ep k ([] : List UInt64) ([] : List SealR) bl] w1 hk32 (fun h => by cases h) (by omega) (RdB.of hw1 (MemAt.ent 0 rfl (AM _)) (by simp)) (by simp) (by simp) (by simp) ⟨RdA.of hw1 (MemAt.ent 5 rfl (Seg.head)) (by simp), ⟨⟨(some ⟨nb13, 0, none⟩), cp5, congrArg (fun n => Value.slice (some ⟨nb13, 0, none⟩) n cp5) ((show (tktT pv ep k ([] : List UInt64) ([] : List SealR) bl).length = tot from ((D5 rfl rfl).trans htot))).symm, (RdB.of hw1 (MemAt.ent 4 rfl (A2 (AM _))) (by simp))⟩, trivial⟩⟩ (by simp only [List.flatten_cons, List.flatten_nil, List.length_append, List.length_nil, (show (tktT pv ep k ([] : List UInt64) ([] : List SealR) bl).length = tot from ((D5 rfl rfl).trans htot))]; omega) (hG.at hw1)))) ?_
  rintro v1 L1 ⟨_, ⟨nb15, sp6, cp6, rfl, rfl, hc26, hc27, hc28⟩, rfl⟩
  refine ⟨[], ?_⟩
  show DP _ _ _ _ _ _ _ _ [_, _, _, _, _, _, ⟨nb15, cu8 (mid (macL key ([tktT pv ep k ([] : List UInt64) ([] : List SealR) bl].flatten)) 0 16) ++ sp6, 5, (0, 0)⟩]
  refine BR ⟨[4, 5], [0, 1, 2, 3], [2, 3], [0, 1], [6]⟩ 6 _ rfl rfl (by decide +kernel) rfl ⟨⟨_, rfl, AB rfl (AC 6 27 16 AS rfl A1 rfl rfl)⟩, ⟨_, rfl, AB rfl (BX 16 5 1 0 16 6 16 BC AX rfl rfl rfl (by omega) (by omega) (by omega) (by omega) (by omega) 16 (by omega))⟩, trivial⟩ rfl (AZ rfl (FA 43 43 5 3 nb4 6 16 16 ([U64 pv, U64 ep, I64 ((k:Int)), .slice ao4 0 ca4, .slice ao5 0 ca5, U64 bl] ++ cu8 (zr8 16)) 29 (some ⟨nb15, 0, none⟩) 16 cp6 16 (cu8 (mid (macL key ([tktT pv ep k ([] : List UInt64) ([] : List SealR) bl].flatten)) 0 16)) ([U64 pv, U64 ep, I64 ((k:Int)), .slice ao4 0 ca4, .slice ao5 0 ca5, U64 bl] ++ cu8 (mid (macL key ([tktT pv ep k ([] : List UInt64) ([] : List SealR) bl].flatten)) 0 16)) AO EO rfl rfl rfl rfl (by rw [DX]; exact (show (mid (macL key ([tktT pv ep k ([] : List UInt64) ([] : List SealR) bl].flatten)) 0 16).length = 16 from EH (by rw [C6]; omega))) (SrcAt.mem (MemAt.ent 6 rfl (A2 (AM _)))) (by simp [(AP 16)]; try omega) (by first | exact CK | exact DW | exact DT | (simp [cu8, cu32, cu64, Value.oneCell']; done)) (FQ 6 0 rfl rfl (BF (by rw [DX, DX]; first | exact ((show (mid (macL key ([tktT pv ep k ([] : List UInt64) ([] : List SealR) bl].flatten)) 0 16).length = 16 from EH (by rw [C6]; omega))).trans ((AP 16)).symm | exact ((AP 16)).trans ((show (mid (macL key ([tktT pv ep k ([] : List UInt64) ([] : List SealR) bl].flatten)) 0 16).length = 16 from EH (by rw [C6]; omega))).symm))))) ?_
  rintro v1 L1 ⟨rfl, rfl⟩
  refine ⟨[], ?_⟩
  show DP _ _ _ _ _ _ _ _ [_, _, _, ⟨nb4, [U64 pv, U64 ep, I64 ((k:Int)), .slice ao4 0 ca4, .slice ao5 0 ca5, U64 bl] ++ cu8 (mid (macL key ([tktT pv ep k ([] : List UInt64) ([] : List SealR) bl].flatten)) 0 16), 29, (0, 0)⟩, _, _, _]
  refine CZ ⟨[4, 5, 6], [0, 1, 2, 3], [0, 1, 2, 3], [], []⟩ rfl rfl (by decide +kernel) rfl trivial ?_
  refine CC (F' := [(10, Ptr nb4 0), (8, Ptr nb3 0), (9, .nilIface)]) (by kernel_rfl) ?_
  refine AF (AL ?_)
  rw [tkG_of key pv ep k ([] : List UInt64) ([] : List SealR) bl]
  show JC _ _ _ _ [⟨nb1, cu8 key, 54, (0, 0)⟩, ⟨nb2, [I64 ((k:Int)), .slice ai 0 ci, .slice sa 0 sc, U64 bl], 26, (0, 0)⟩, ⟨nb3, [U64 (0:UInt64), U64 (0:UInt64), I64 (0:Int), .slice none 0 0, .slice none 0 0, U64 (0:UInt64)] ++ cu8 (zr8 16), 29, (0, 0)⟩, ⟨nb4, [U64 pv, U64 ep, I64 ((k:Int)), .slice ao4 0 ca4, .slice ao5 0 ca5, U64 bl] ++ cu8 (tkG key pv ep k ([] : List UInt64) ([] : List SealR) bl), 29, (0, 0)⟩, ⟨nb13, cu8 (tktT pv ep k ([] : List UInt64) ([] : List SealR) bl) ++ sp5, 5, (0, 0)⟩, ⟨nb14, [Slc nb13 0 tot cp5], 43, (0, 0)⟩, ⟨nb15, cu8 (tkG key pv ep k ([] : List UInt64) ([] : List SealR) bl) ++ sp6, 5, (0, 0)⟩]
  refine AE (AA (.agg (List.toArray (α := Value) ([U64 pv, U64 ep, I64 ((k:Int)), .slice ao4 0 ca4, .slice ao5 0 ca5, U64 bl] ++ cu8 (tkG key pv ep k ([] : List UInt64) ([] : List SealR) bl)))) (AK rfl (BH BE AW (by simp [(CO _ _ _ _ _ _ _)]) (MemAt.ent 3 rfl (AM _)))) rfl ?_)
  refine AR (A6 2 nb3 0 22 ([U64 (0:UInt64), U64 (0:UInt64), I64 (0:Int), .slice none 0 0, .slice none 0 0, U64 (0:UInt64)] ++ cu8 (zr8 16)) 29 (.agg (List.toArray (α := Value) ([U64 pv, U64 ep, I64 ((k:Int)), .slice ao4 0 ca4, .slice ao5 0 ca5, U64 bl] ++ cu8 (tkG key pv ep k ([] : List UInt64) ([] : List SealR) bl)))) ([U64 pv, U64 ep, I64 ((k:Int)), .slice ao4 0 ca4, .slice ao5 0 ca5, U64 bl] ++ cu8 (tkG key pv ep k ([] : List UInt64) ([] : List SealR) bl)) ([U64 pv, U64 ep, I64 ((k:Int)), .slice ao4 0 ca4, .slice ao5 0 ca5, U64 bl] ++ cu8 (tkG key pv ep k ([] : List UInt64) ([] : List SealR) bl)) rfl rfl rfl (by first | rfl | simp) AW (by simp [(CO _ _ _ _ _ _ _)]) (DA (by simp [Value.oneCell']) CK) (by simp [(AP 16)]) (BF (by simp [(AP 16), (CO _ _ _ _ _ _ _)]))) rfl ?_
  rintro v1 L1 ⟨rfl, rfl⟩
  show JL _ _ _ _ _ [_, _, ⟨nb3, [U64 pv, U64 ep, I64 ((k:Int)), .slice ao4 0 ca4, .slice ao5 0 ca5, U64 bl] ++ cu8 (tkG key pv ep k ([] : List UInt64) ([] : List SealR) bl), 29, (0, 0)⟩, _, _, _, _]
  refine AA _ (AH rfl) rfl ?_
  refine AN (AF (BO (B8 [false, false, true, false, false, false, false] ?_)))
  show JQ _ _ _ _ [_]
  refine BP (.tuple #[.agg (List.toArray (α := Value) ([U64 pv, U64 ep, I64 ((k:Int)), .slice ao4 0 ca4, .slice ao5 0 ca5, U64 bl] ++ cu8 (tkG key pv ep k ([] : List UInt64) ([] : List SealR) bl))), .nilIface]) (res2 DM (ED rfl (BH BE AW (by simp [(CO _ _ _ _ _ _ _)]) (MemAt.ent 0 rfl (AM _)))) (BT rfl)) fun w1 hw1 => ?_
  exact ⟨_, _, rfl, ⟨ao4, ca4, ao5, ca5, rfl, rfl, (by omega), hc20, (by omega), hc22⟩, hw1.sub (by simp) (by simp)⟩
theorem signBPP_c (key : List UInt8) (pv ep : UInt64) (kd : Int) (ai : Option Addr) (ni ci : Nat) (l : List UInt64) (sa : Option Addr) (ns sc : Nat) (ls : List SealR) (bl : UInt64)  (w : World) (hk32 : key.length = 32) (hl : l.length = ni) (hnm : ni ≤ 2000000) (hnc : ni ≤ ci) (hcm : ci ≤ maxLen) (hv : RdV w ai (cu64 l)) (hls : ls.length = ns) (hnn : ns ≤ 2000000) (hnd : ns ≤ sc) (hcn : sc ≤ maxLen) (hs : RdV w sa (ls.flatMap sealC)) (hp1 : 0 < ni) (hp0 : 0 < ns) (hm : mayN pv ep kd l ls bl ≠ 0)  : Calls Tryd.prog 46 #[.agg (cu8 key).toArray, U64 pv, U64 ep, .agg (List.toArray (α := Value) ([I64 (kd), .slice ai ni ci, .slice sa ns sc, U64 bl]))] w (Post w [] (fun v L => v = .tuple #[.agg (List.toArray (α := Value) ([U64 (0:UInt64), U64 (0:UInt64), I64 (0:Int), .slice none 0 0, .slice none 0 0, U64 (0:UInt64)] ++ cu8 (zr8 16))), errV 50 (mayN pv ep kd l ls bl)] ∧ L = [])) := by
 have hmx : maxLen = 9223372036854775807 := rfl
 refine enter (P := Tryd.prog) (f := 46) (fn := Tryd.f46) w [] 44 [] [.agg (cu8 key).toArray, U64 pv, U64 ep, .agg (List.toArray (α := Value) ([I64 (kd), .slice ai ni ci, .slice sa ns sc, U64 bl]))] Tryd.func46 rfl rfl (by simp) (B7 (by simp) (by simp) (by simp)) ?_
 show JC _ _ _ [(0, .agg (cu8 key).toArray), (1, U64 pv), (2, U64 ep), (3, .agg (List.toArray (α := Value) ([I64 (kd), .slice ai ni ci, .slice sa ns sc, U64 bl])))] _
 refine AL (AE (AR (CN (.agg (cu8 key).toArray) (cu8 key) rfl (by first | rfl | simp)) rfl ?_))
 rintro v1 L1 ⟨nb1, hnb1, rfl, rfl⟩
 show JL _ _ _ _ ((4, Ptr nb1 0) :: _) [⟨nb1, cu8 key, 54, (0, 0)⟩]
 refine AR (CN (.agg (List.toArray (α := Value) ([I64 (kd), .slice ai ni ci, .slice sa ns sc, U64 bl]))) ([I64 (kd), .slice ai ni ci, .slice sa ns sc, U64 bl]) rfl (by first | rfl | simp)) rfl ?_
 rintro v1 L1 ⟨nb2, hnb2, rfl, rfl⟩
 show JL _ _ _ _ ((7, Ptr nb2 0) :: _) [_, ⟨nb2, [I64 (kd), .slice ai ni ci, .slice sa ns sc, U64 bl], 26, (0, 0)⟩]
 refine AR (BJ _ ([U64 (0:UInt64), U64 (0:UInt64), I64 (0:Int), .slice none 0 0, .slice none 0 0, U64 (0:UInt64)] ++ cu8 (zr8 16)) B9 (by kernel_rfl)) rfl ?_
 rintro v1 L1 ⟨nb3, hnb3, rfl, rfl⟩
 show JL _ _ _ _ ((8, Ptr nb3 0) :: _) [_, _, ⟨nb3, [U64 (0:UInt64), U64 (0:UInt64), I64 (0:Int), .slice none 0 0, .slice none 0 0, U64 (0:UInt64)] ++ cu8 (zr8 16), 29, (0, 0)⟩]
 refine AA _ (AH rfl) rfl ?_
 refine AN (AF (AL (CQ 44 5 [(0, U64 pv), (1, U64 ep), (2, Ptr nb2 0), (3, I64 (kd)), (4, Ptr nb2 1), (5, .slice ai ni ci), (7, Ptr nb2 2), (8, .slice sa ns sc), (10, Ptr nb2 3), (11, U64 bl)] BQ rfl (by decide +kernel) ?_)))
 refine DP_two ⟨[], [0, 1, 2, 3, 4, 5, 7, 8, 10, 11], [], [0, 1, 2, 3, 4, 5, 7, 8, 10, 11], [6, 14]⟩ 6 14 _ _ rfl rfl (by decide +kernel) rfl ⟨⟨_, rfl, AB rfl (AD rfl)⟩, ⟨_, rfl, AB rfl (AD rfl)⟩, ⟨_, rfl, AB rfl (AC 0 3 1 AG rfl A7 rfl rfl)⟩, ⟨_, rfl, AB rfl (AK rfl (AV BA (MemAt.ent 1 rfl (Seg.head))))⟩, ⟨_, rfl, AB rfl (AC 1 23 1 AG rfl CE rfl rfl)⟩, ⟨_, rfl, AB rfl (AK rfl (AV CL (MemAt.ent 1 rfl (AJ (Seg.head)))))⟩, ⟨_, rfl, AB rfl (AC 2 24 1 AG rfl B3 rfl rfl)⟩, ⟨_, rfl, AB rfl (AK rfl (AV B6 (MemAt.ent 1 rfl (AJ (AJ (Seg.head))))))⟩, ⟨_, rfl, AB rfl (AC 3 22 1 AG rfl AT rfl rfl)⟩, ⟨_, rfl, AB rfl (AK rfl (AV AU (MemAt.ent 1 rfl (AJ (AJ (AJ (Seg.head)))))))⟩, trivial⟩ rfl rfl (AZ rfl (BG 112 [.slice ai ni ci] _ (A0 [.slice ai ni ci] EV rfl) (fun w1 hw1 => F4 ai ni ci l w1 hl (by omega) (by omega) (by omega) (C1 hw1 rfl hv) (by omega)))) (AZ rfl (BJ _ ([U64 (0:UInt64), U64 (0:UInt64), I64 (0:Int), .slice none 0 0, .slice none 0 0, U64 (0:UInt64)] ++ cu8 (zr8 16)) B9 (by kernel_rfl))) ?_ ?_
 ·
  rintro v1 L1 ⟨_, ⟨nb4, sp1, cp1, rfl, rfl, hc1, hc2, hc3⟩, rfl⟩
  refine ⟨[], ?_⟩
  show DP _ _ _ _ _ _ _ _ [_, _, _, ⟨nb4, cu64 l ++ sp1, 22, (0, 0)⟩]
  refine DP_two ⟨[6], [0, 1, 2, 3, 4, 5, 7, 8, 10, 11], [4, 5], [0, 1, 2, 3, 7, 8, 10, 11], [9, 14]⟩ 9 14 _ _ rfl rfl (by decide +kernel) rfl ⟨⟨_, rfl, AB rfl (AD rfl)⟩, ⟨_, rfl, AB rfl (AD rfl)⟩, ⟨_, rfl, AB rfl (AC 0 3 1 AG rfl A7 rfl rfl)⟩, ⟨_, rfl, AB rfl (AK rfl (AV BA (MemAt.ent 1 rfl (Seg.head))))⟩, ⟨_, rfl, AB rfl (AC 2 24 1 AG rfl B3 rfl rfl)⟩, ⟨_, rfl, AB rfl (AK rfl (AV B6 (MemAt.ent 1 rfl (AJ (AJ (Seg.head))))))⟩, ⟨_, rfl, AB rfl (AC 3 22 1 AG rfl AT rfl rfl)⟩, ⟨_, rfl, AB rfl (AK rfl (AV AU (MemAt.ent 1 rfl (AJ (AJ (AJ (Seg.head)))))))⟩, trivial⟩ rfl rfl (AZ rfl (BG 113 [.slice sa ns sc] _ (A0 [.slice sa ns sc] D2 rfl) (fun w1 hw1 => F7 sa ns sc ls w1 hls (by omega) (by omega) (by omega) (C1 hw1 rfl hs) (by omega)))) (AZ rfl (BJ _ ([U64 (0:UInt64), U64 (0:UInt64), I64 (0:Int), .slice none 0 0, .slice none 0 0, U64 (0:UInt64)] ++ cu8 (zr8 16)) B9 (by kernel_rfl))) ?_ ?_
  ·
   rintro v1 L1 ⟨_, ⟨nb6, sp2, cp2, rfl, rfl, hc4, hc5, hc6⟩, rfl⟩
   refine ⟨[(12, .agg (List.toArray (α := Value) ([I64 (kd), Slc nb4 0 ni cp1, Slc nb6 0 ns cp2, U64 bl]))), (13, .agg (List.toArray (α := Value) ([U64 pv, U64 ep, I64 (kd), Slc nb4 0 ni cp1, Slc nb6 0 ns cp2, U64 bl] ++ cu8 (zr8 16))))], ?_⟩
   show DP _ _ _ _ _ _ _ _ [_, _, _, _, ⟨nb6, ls.flatMap sealC ++ sp2, 161, (0, 0)⟩]
   refine BR ⟨[6, 9], [0, 1, 2, 3, 4, 5, 7, 8, 10, 11, 12, 13], [4, 5, 7, 8], [0, 1, 2, 3, 10, 11, 12, 13], [14]⟩ 14 _ rfl rfl (by decide +kernel) rfl ⟨⟨_, rfl, AB rfl (AD rfl)⟩, ⟨_, rfl, AB rfl (AD rfl)⟩, ⟨_, rfl, AB rfl (AC 0 3 1 AG rfl A7 rfl rfl)⟩, ⟨_, rfl, AB rfl (AK rfl (AV BA (MemAt.ent 1 rfl (Seg.head))))⟩, ⟨_, rfl, AB rfl (AC 3 22 1 AG rfl AT rfl rfl)⟩, ⟨_, rfl, AB rfl (AK rfl (AV AU (MemAt.ent 1 rfl (AJ (AJ (AJ (Seg.head)))))))⟩, ⟨_, rfl, AB rfl (CB [(0, I64 (kd)), (1, Slc nb4 0 ni cp1), (2, Slc nb6 0 ns cp2), (3, U64 bl)] _ rfl (fun _ => DY rfl rfl rfl rfl))⟩, ⟨_, rfl, AB rfl (CB [(0, U64 pv), (1, U64 ep), (2, .agg (List.toArray (α := Value) ([I64 (kd), Slc nb4 0 ni cp1, Slc nb6 0 ns cp2, U64 bl])))] _ rfl (fun _ => EA rfl rfl (by simp [AP])))⟩, trivial⟩ rfl (AZ rfl (BJ _ ([U64 (0:UInt64), U64 (0:UInt64), I64 (0:Int), .slice none 0 0, .slice none 0 0, U64 (0:UInt64)] ++ cu8 (zr8 16)) B9 (by kernel_rfl))) ?_
   rintro v1 L1 ⟨nb8, hnb8, rfl, rfl⟩
   refine ⟨[], ?_⟩
   show DP _ _ _ _ _ _ _ _ [_, _, _, _, _, ⟨nb8, [U64 (0:UInt64), U64 (0:UInt64), I64 (0:Int), .slice none 0 0, .slice none 0 0, U64 (0:UInt64)] ++ cu8 (zr8 16), 29, (0, 0)⟩]
   refine BR ⟨[6, 9, 14], [0, 1, 2, 3, 4, 5, 7, 8, 10, 11, 12, 13], [4, 5, 7, 8], [0, 1, 2, 3, 10, 11, 12, 13], [15]⟩ 15 _ rfl rfl (by decide +kernel) rfl ⟨⟨_, rfl, AB rfl (AD rfl)⟩, ⟨_, rfl, AB rfl (AD rfl)⟩, ⟨_, rfl, AB rfl (AC 0 3 1 AG rfl A7 rfl rfl)⟩, ⟨_, rfl, AB rfl (AK rfl (AV BA (MemAt.ent 1 rfl (Seg.head))))⟩, ⟨_, rfl, AB rfl (AC 3 22 1 AG rfl AT rfl rfl)⟩, ⟨_, rfl, AB rfl (AK rfl (AV AU (MemAt.ent 1 rfl (AJ (AJ (AJ (Seg.head)))))))⟩, ⟨_, rfl, AB rfl (CB [(0, I64 (kd)), (1, Slc nb4 0 ni cp1), (2, Slc nb6 0 ns cp2), (3, U64 bl)] _ rfl (fun _ => DY rfl rfl rfl rfl))⟩, ⟨_, rfl, AB rfl (CB [(0, U64 pv), (1, U64 ep), (2, .agg (List.toArray (α := Value) ([I64 (kd), Slc nb4 0 ni cp1, Slc nb6 0 ns cp2, U64 bl])))] _ rfl (fun _ => EA rfl rfl (by simp [AP])))⟩, trivial⟩ rfl (AZ rfl (A6 5 nb8 0 22 ([U64 (0:UInt64), U64 (0:UInt64), I64 (0:Int), .slice none 0 0, .slice none 0 0, U64 (0:UInt64)] ++ cu8 (zr8 16)) 29 (.agg (List.toArray (α := Value) ([U64 pv, U64 ep, I64 (kd), Slc nb4 0 ni cp1, Slc nb6 0 ns cp2, U64 bl] ++ cu8 (zr8 16)))) ([U64 pv, U64 ep, I64 (kd), Slc nb4 0 ni cp1, Slc nb6 0 ns cp2, U64 bl] ++ cu8 (zr8 16)) ([U64 pv, U64 ep, I64 (kd), Slc nb4 0 ni cp1, Slc nb6 0 ns cp2, U64 bl] ++ cu8 (zr8 16)) rfl rfl rfl (by first | rfl | simp) AW (by simp [(AP 16)]) (DA (by simp [Value.oneCell']) CK) (by simp [(AP 16)]) (BF (by simp [(AP 16), (AP 16)])))) ?_
   rintro v1 L1 ⟨rfl, rfl⟩
   refine ⟨[], ?_⟩
   show DP _ _ _ _ _ _ _ _ [_, _, _, _, _, ⟨nb8, [U64 pv, U64 ep, I64 (kd), Slc nb4 0 ni cp1, Slc nb6 0 ns cp2, U64 bl] ++ cu8 (zr8 16), 29, (0, 0)⟩]
   refine CZ ⟨[6, 9, 14, 15], [0, 1, 2, 3, 4, 5, 7, 8, 10, 11, 12, 13], [0, 1, 2, 3, 4, 5, 7, 8, 10, 11, 12, 13], [], []⟩ rfl rfl (by decide +kernel) rfl trivial ?_
   refine CC (F' := [(10, Ptr nb8 0), (4, Ptr nb1 0), (8, Ptr nb3 0), (9, .nilIface)]) (by kernel_rfl) ?_
   refine AF (AL (AE (AA (.agg (List.toArray (α := Value) ([U64 pv, U64 ep, I64 (kd), Slc nb4 0 ni cp1, Slc nb6 0 ns cp2, U64 bl] ++ cu8 (zr8 16)))) (AK rfl (BH BE AW (by simp [(AP 16)]) (MemAt.ent 5 rfl (AM _)))) rfl ?_)))
   refine AR (A3 114 [.agg (List.toArray (α := Value) ([U64 pv, U64 ep, I64 (kd), Slc nb4 0 ni cp1, Slc nb6 0 ns cp2, U64 bl] ++ cu8 (zr8 16)))] (.tuple #[.slice none 0 0, errV 50 (mayN pv ep (kd) l ls bl)]) (A0 [.agg (List.toArray (α := Value) ([U64 pv, U64 ep, I64 (kd), Slc nb4 0 ni cp1, Slc nb6 0 ns cp2, U64 bl] ++ cu8 (zr8 16)))] DL rfl) (fun w1 hw1 => F5 pv ep (kd) (some ⟨nb4, 0, none⟩) ni cp1 l (some ⟨nb6, 0, none⟩) ns cp2 ls bl (zr8 16) w1 hl (by omega) (by omega) (by omega) (RdV.of hw1 (MemAt.ent 3 rfl (A2 (AM _)))) hls (by omega) (by omega) (by omega) (RdV.of hw1 (MemAt.ent 4 rfl (A2 (AM _)))) (AP 16) hm)) rfl ?_
   rintro v1 L1 ⟨rfl, rfl⟩
   show JL _ _ _ _ ((29, .tuple #[.slice none 0 0, errV 50 (mayN pv ep (kd) l ls bl)]) :: _) [_, _, _, _, _, _]
   refine AA _ (AD rfl) rfl ?_
   refine AA _ (BN rfl rfl) rfl ?_
   refine AA _ (BN rfl rfl) rfl ?_
   refine AA _ (AH rfl) rfl ?_
   refine AA _ (AH rfl) rfl ?_
   refine AN (AF (AL (AL (AE (AA _ (AD rfl) rfl ?_)))))
   refine AA (.bool (!(decide (mayN pv ep (kd) l ls bl = 0)))) (DC _ _ _ rfl rfl (fun _ => C5 ..) fun _ => EW BB _ _) rfl ?_
   refine AN (AF (C9 _ rfl (by rw [show (decide (mayN pv ep (kd) l ls bl = 0)) = false from (decide_eq_false hm)] <;> rfl) ?_))
   refine AL (AE (AA (.agg (List.toArray (α := Value) ([U64 (0:UInt64), U64 (0:UInt64), I64 (0:Int), .slice none 0 0, .slice none 0 0, U64 (0:UInt64)] ++ cu8 (zr8 16)))) (CB [] _ rfl (fun _ => by kernel_rfl)) rfl ?_))
   refine AA _ (AD rfl) rfl ?_
   refine AR (A6 2 nb3 0 22 ([U64 (0:UInt64), U64 (0:UInt64), I64 (0:Int), .slice none 0 0, .slice none 0 0, U64 (0:UInt64)] ++ cu8 (zr8 16)) 29 (.agg (List.toArray (α := Value) ([U64 (0:UInt64), U64 (0:UInt64), I64 (0:Int), .slice none 0 0, .slice none 0 0, U64 (0:UInt64)] ++ cu8 (zr8 16)))) ([U64 (0:UInt64), U64 (0:UInt64), I64 (0:Int), .slice none 0 0, .slice none 0 0, U64 (0:UInt64)] ++ cu8 (zr8 16)) ([U64 (0:UInt64), U64 (0:UInt64), I64 (0:Int), .slice none 0 0, .slice none 0 0, U64 (0:UInt64)] ++ cu8 (zr8 16)) rfl rfl rfl (by first | rfl | simp) AW (by simp [(AP 16)]) (DA (by simp [Value.oneCell']) CK) (by simp [(AP 16)]) (BF (by simp [(AP 16), (AP 16)]))) rfl ?_
   rintro v1 L1 ⟨rfl, rfl⟩
   show JL _ _ _ _ _ [_, _, ⟨nb3, [U64 (0:UInt64), U64 (0:UInt64), I64 (0:Int), .slice none 0 0, .slice none 0 0, U64 (0:UInt64)] ++ cu8 (zr8 16), 29, (0, 0)⟩, _, _, _]
   refine AA _ (AH rfl) rfl ?_
   refine AN (AF (BO (A5 (B8 [false, false, true, false, false, false] ?_))))
   show JQ _ _ _ _ [_]
   refine BP (.tuple #[.agg (List.toArray (α := Value) ([U64 (0:UInt64), U64 (0:UInt64), I64 (0:Int), .slice none 0 0, .slice none 0 0, U64 (0:UInt64)] ++ cu8 (zr8 16))), errV 50 (mayN pv ep (kd) l ls bl)]) (res2 DM (ED rfl (BH BE AW (by simp [(AP 16)]) (MemAt.ent 0 rfl (AM _)))) (BT rfl)) fun w1 hw1 => ?_
   exact ⟨_, [], rfl, ⟨rfl, rfl⟩, hw1.sub (by simp) (by simp)⟩
  ·
   rintro v1 L1 ⟨nb7, hnb7, rfl, rfl⟩
   refine ⟨[], ?_⟩
   show DP _ _ _ _ _ _ _ _ [_, _, _, _, ⟨nb7, [U64 (0:UInt64), U64 (0:UInt64), I64 (0:Int), .slice none 0 0, .slice none 0 0, U64 (0:UInt64)] ++ cu8 (zr8 16), 29, (0, 0)⟩]
   refine BR ⟨[6, 14], [0, 1, 2, 3, 4, 5, 7, 8, 10, 11], [4, 5], [0, 1, 2, 3, 7, 8, 10, 11], [9]⟩ 9 _ rfl rfl (by decide +kernel) rfl ⟨⟨_, rfl, AB rfl (AD rfl)⟩, ⟨_, rfl, AB rfl (AD rfl)⟩, ⟨_, rfl, AB rfl (AC 0 3 1 AG rfl A7 rfl rfl)⟩, ⟨_, rfl, AB rfl (AK rfl (AV BA (MemAt.ent 1 rfl (Seg.head))))⟩, ⟨_, rfl, AB rfl (AC 2 24 1 AG rfl B3 rfl rfl)⟩, ⟨_, rfl, AB rfl (AK rfl (AV B6 (MemAt.ent 1 rfl (AJ (AJ (Seg.head))))))⟩, ⟨_, rfl, AB rfl (AC 3 22 1 AG rfl AT rfl rfl)⟩, ⟨_, rfl, AB rfl (AK rfl (AV AU (MemAt.ent 1 rfl (AJ (AJ (AJ (Seg.head)))))))⟩, trivial⟩ rfl (AZ rfl (BG 113 [.slice sa ns sc] _ (A0 [.slice sa ns sc] D2 rfl) (fun w1 hw1 => F7 sa ns sc ls w1 hls (by omega) (by omega) (by omega) (C1 hw1 rfl hs) (by omega)))) ?_
   rintro v1 L1 ⟨_, ⟨nb9, sp3, cp3, rfl, rfl, hc7, hc8, hc9⟩, rfl⟩
   refine ⟨[(12, .agg (List.toArray (α := Value) ([I64 (kd), Slc nb4 0 ni cp1, Slc nb9 0 ns cp3, U64 bl]))), (13, .agg (List.toArray (α := Value) ([U64 pv, U64 ep, I64 (kd), Slc nb4 0 ni cp1, Slc nb9 0 ns cp3, U64 bl] ++ cu8 (zr8 16))))], ?_⟩
   show DP _ _ _ _ _ _ _ _ [_, _, _, _, _, ⟨nb9, ls.flatMap sealC ++ sp3, 161, (0, 0)⟩]
   refine BR ⟨[6, 14, 9], [0, 1, 2, 3, 4, 5, 7, 8, 10, 11, 12, 13], [4, 5, 7, 8], [0, 1, 2, 3, 10, 11, 12, 13], [15]⟩ 15 _ rfl rfl (by decide +kernel) rfl ⟨⟨_, rfl, AB rfl (AD rfl)⟩, ⟨_, rfl, AB rfl (AD rfl)⟩, ⟨_, rfl, AB rfl (AC 0 3 1 AG rfl A7 rfl rfl)⟩, ⟨_, rfl, AB rfl (AK rfl (AV BA (MemAt.ent 1 rfl (Seg.head))))⟩, ⟨_, rfl, AB rfl (AC 3 22 1 AG rfl AT rfl rfl)⟩, ⟨_, rfl, AB rfl (AK rfl (AV AU (MemAt.ent 1 rfl (AJ (AJ (AJ (Seg.head)))))))⟩, ⟨_, rfl, AB rfl (CB [(0, I64 (kd)), (1, Slc nb4 0 ni cp1), (2, Slc nb9 0 ns cp3), (3, U64 bl)] _ rfl (fun _ => DY rfl rfl rfl rfl))⟩, ⟨_, rfl, AB rfl (CB [(0, U64 pv), (1, U64 ep), (2, .agg (List.toArray (α := Value) ([I64 (kd), Slc nb4 0 ni cp1, Slc nb9 0 ns cp3, U64 bl])))] _ rfl (fun _ => EA rfl rfl (by simp [AP])))⟩, trivial⟩ rfl (AZ rfl (A6 4 nb7 0 22 ([U64 (0:UInt64), U64 (0:UInt64), I64 (0:Int), .slice none 0 0, .slice none 0 0, U64 (0:UInt64)] ++ cu8 (zr8 16)) 29 (.agg (List.toArray (α := Value) ([U64 pv, U64 ep, I64 (kd), Slc nb4 0 ni cp1, Slc nb9 0 ns cp3, U64 bl] ++ cu8 (zr8 16)))) ([U64 pv, U64 ep, I64 (kd), Slc nb4 0 ni cp1, Slc nb9 0 ns cp3, U64 bl] ++ cu8 (zr8 16)) ([U64 pv, U64 ep, I64 (kd), Slc nb4 0 ni cp1, Slc nb9 0 ns cp3, U64 bl] ++ cu8 (zr8 16)) rfl rfl rfl (by first | rfl | simp) AW (by simp [(AP 16)]) (DA (by simp [Value.oneCell']) CK) (by simp [(AP 16)]) (BF (by simp [(AP 16), (AP 16)])))) ?_
   rintro v1 L1 ⟨rfl, rfl⟩
   refine ⟨[], ?_⟩
   show DP _ _ _ _ _ _ _ _ [_, _, _, _, ⟨nb7, [U64 pv, U64 ep, I64 (kd), Slc nb4 0 ni cp1, Slc nb9 0 ns cp3, U64 bl] ++ cu8 (zr8 16), 29, (0, 0)⟩, _]
   refine CZ ⟨[6, 14, 9, 15], [0, 1, 2, 3, 4, 5, 7, 8, 10, 11, 12, 13], [0, 1, 2, 3, 4, 5, 7, 8, 10, 11, 12, 13], [], []⟩ rfl rfl (by decide +kernel) rfl trivial ?_
   refine CC (F' := [(10, Ptr nb7 0), (4, Ptr nb1 0), (8, Ptr nb3 0), (9, .nilIface)]) (by kernel_rfl) ?_
   refine AF (AL (AE (AA (.agg (List.toArray (α := Value) ([U64 pv, U64 ep, I64 (kd), Slc nb4 0 ni cp1, Slc nb9 0 ns cp3, U64 bl] ++ cu8 (zr8 16)))) (AK rfl (BH BE AW (by simp [(AP 16)]) (MemAt.ent 4 rfl (AM _)))) rfl ?_)))
   refine AR (A3 114 [.agg (List.toArray (α := Value) ([U64 pv, U64 ep, I64 (kd), Slc nb4 0 ni cp1, Slc nb9 0 ns cp3, U64 bl] ++ cu8 (zr8 16)))] (.tuple #[.slice none 0 0, errV 50 (mayN pv ep (kd) l ls bl)]) (A0 [.agg (List.toArray (α := Value) ([U64 pv, U64 ep, I64 (kd), Slc nb4 0 ni cp1, Slc nb9 0 ns cp3, U64 bl] ++ cu8 (zr8 16)))] DL rfl) (fun w1 hw1 => F5 pv ep (kd) (some ⟨nb4, 0, none⟩) ni cp1 l (some ⟨nb9, 0, none⟩) ns cp3 ls bl (zr8 16) w1 hl (by omega) (by omega) (by omega) (RdV.of hw1 (MemAt.ent 3 rfl (A2 (AM _)))) hls (by omega) (by omega) (by omega) (RdV.of hw1 (MemAt.ent 5 rfl (A2 (AM _)))) (AP 16) hm)) rfl ?_
   rintro v1 L1 ⟨rfl, rfl⟩
   show JL _ _ _ _ ((29, .tuple #[.slice none 0 0, errV 50 (mayN pv ep (kd) l ls bl)]) :: _) [_, _, _, _, _, _]
   refine AA _ (AD rfl) rfl ?_
   refine AA _ (BN rfl rfl) rfl ?_
   refine AA _ (BN rfl rfl) rfl ?_
   refine AA _ (AH rfl) rfl ?_
   refine AA _ (AH rfl) rfl ?_
   refine AN (AF (AL (AL (AE (AA _ (AD rfl) rfl ?_)))))
   refine AA (.bool (!(decide (mayN pv ep (kd) l ls bl = 0)))) (DC _ _ _ rfl rfl (fun _ => C5 ..) fun _ => EW BB _ _) rfl ?_
   refine AN (AF (C9 _ rfl (by rw [show (decide (mayN pv ep (kd) l ls bl = 0)) = false from (decide_eq_false hm)] <;> rfl) ?_))
   refine AL (AE (AA (.agg (List.toArray (α := Value) ([U64 (0:UInt64), U64 (0:UInt64), I64 (0:Int), .slice none 0 0, .slice none 0 0, U64 (0:UInt64)] ++ cu8 (zr8 16)))) (CB [] _ rfl (fun _ => by kernel_rfl)) rfl ?_))
   refine AA _ (AD rfl) rfl ?_
   refine AR (A6 2 nb3 0 22 ([U64 (0:UInt64), U64 (0:UInt64), I64 (0:Int), .slice none 0 0, .slice none 0 0, U64 (0:UInt64)] ++ cu8 (zr8 16)) 29 (.agg (List.toArray (α := Value) ([U64 (0:UInt64), U64 (0:UInt64), I64 (0:Int), .slice none 0 0, .slice none 0 0, U64 (0:UInt64)] ++ cu8 (zr8 16)))) ([U64 (0:UInt64), U64 (0:UInt64), I64 (0:Int), .slice none 0 0, .slice none 0 0, U64 (0:UInt64)] ++ cu8 (zr8 16)) ([U64 (0:UInt64), U64 (0:UInt64), I64 (0:Int), .slice none 0 0, .slice none 0 0, U64 (0:UInt64)] ++ cu8 (zr8 16)) rfl rfl rfl (by first | rfl | simp) AW (by simp [(AP 16)]) (DA (by simp [Value.oneCell']) CK) (by simp [(AP 16)]) (BF (by simp [(AP 16), (AP 16)]))) rfl ?_
   rintro v1 L1 ⟨rfl, rfl⟩
   show JL _ _ _ _ _ [_, _, ⟨nb3, [U64 (0:UInt64), U64 (0:UInt64), I64 (0:Int), .slice none 0 0, .slice none 0 0, U64 (0:UInt64)] ++ cu8 (zr8 16), 29, (0, 0)⟩, _, _, _]
   refine AA _ (AH rfl) rfl ?_
   refine AN (AF (BO (A5 (B8 [false, false, true, false, false, false] ?_))))
   show JQ _ _ _ _ [_]
   refine BP (.tuple #[.agg (List.toArray (α := Value) ([U64 (0:UInt64), U64 (0:UInt64), I64 (0:Int), .slice none 0 0, .slice none 0 0, U64 (0:UInt64)] ++ cu8 (zr8 16))), errV 50 (mayN pv ep (kd) l ls bl)]) (res2 DM (ED rfl (BH BE AW (by simp [(AP 16)]) (MemAt.ent 0 rfl (AM _)))) (BT rfl)) fun w1 hw1 => ?_
   exact ⟨_, [], rfl, ⟨rfl, rfl⟩, hw1.sub (by simp) (by simp)⟩
 ·
  rintro v1 L1 ⟨nb5, hnb5, rfl, rfl⟩
  refine ⟨[], ?_⟩
  show DP _ _ _ _ _ _ _ _ [_, _, _, ⟨nb5, [U64 (0:UInt64), U64 (0:UInt64), I64 (0:Int), .slice none 0 0, .slice none 0 0, U64 (0:UInt64)] ++ cu8 (zr8 16), 29, (0, 0)⟩]
  refine BR ⟨[14], [0, 1, 2, 3, 4, 5, 7, 8, 10, 11], [], [0, 1, 2, 3, 4, 5, 7, 8, 10, 11], [6]⟩ 6 _ rfl rfl (by decide +kernel) rfl ⟨⟨_, rfl, AB rfl (AD rfl)⟩, ⟨_, rfl, AB rfl (AD rfl)⟩, ⟨_, rfl, AB rfl (AC 0 3 1 AG rfl A7 rfl rfl)⟩, ⟨_, rfl, AB rfl (AK rfl (AV BA (MemAt.ent 1 rfl (Seg.head))))⟩, ⟨_, rfl, AB rfl (AC 1 23 1 AG rfl CE rfl rfl)⟩, ⟨_, rfl, AB rfl (AK rfl (AV CL (MemAt.ent 1 rfl (AJ (Seg.head)))))⟩, ⟨_, rfl, AB rfl (AC 2 24 1 AG rfl B3 rfl rfl)⟩, ⟨_, rfl, AB rfl (AK rfl (AV B6 (MemAt.ent 1 rfl (AJ (AJ (Seg.head))))))⟩, ⟨_, rfl, AB rfl (AC 3 22 1 AG rfl AT rfl rfl)⟩, ⟨_, rfl, AB rfl (AK rfl (AV AU (MemAt.ent 1 rfl (AJ (AJ (AJ (Seg.head)))))))⟩, trivial⟩ rfl (AZ rfl (BG 112 [.slice ai ni ci] _ (A0 [.slice ai ni ci] EV rfl) (fun w1 hw1 => F4 ai ni ci l w1 hl (by omega) (by omega) (by omega) (C1 hw1 rfl hv) (by omega)))) ?_
  rintro v1 L1 ⟨_, ⟨nb10, sp4, cp4, rfl, rfl, hc10, hc11, hc12⟩, rfl⟩
  refine ⟨[], ?_⟩
  show DP _ _ _ _ _ _ _ _ [_, _, _, _, ⟨nb10, cu64 l ++ sp4, 22, (0, 0)⟩]
  refine BR ⟨[14, 6], [0, 1, 2, 3, 4, 5, 7, 8, 10, 11], [4, 5], [0, 1, 2, 3, 7, 8, 10, 11], [9]⟩ 9 _ rfl rfl (by decide +kernel) rfl ⟨⟨_, rfl, AB rfl (AD rfl)⟩, ⟨_, rfl, AB rfl (AD rfl)⟩, ⟨_, rfl, AB rfl (AC 0 3 1 AG rfl A7 rfl rfl)⟩, ⟨_, rfl, AB rfl (AK rfl (AV BA (MemAt.ent 1 rfl (Seg.head))))⟩, ⟨_, rfl, AB rfl (AC 2 24 1 AG rfl B3 rfl rfl)⟩, ⟨_, rfl, AB rfl (AK rfl (AV B6 (MemAt.ent 1 rfl (AJ (AJ (Seg.head))))))⟩, ⟨_, rfl, AB rfl (AC 3 22 1 AG rfl AT rfl rfl)⟩, ⟨_, rfl, AB rfl (AK rfl (AV AU (MemAt.ent 1 rfl (AJ (AJ (AJ (Seg.head)))))))⟩, trivial⟩ rfl (AZ rfl (BG 113 [.slice sa ns sc] _ (A0 [.slice sa ns sc] D2 rfl) (fun w1 hw1 => F7 sa ns sc ls w1 hls (by omega) (by omega) (by omega) (C1 hw1 rfl hs) (by omega)))) ?_
  rintro v1 L1 ⟨_, ⟨nb11, sp5, cp5, rfl, rfl, hc13, hc14, hc15⟩, rfl⟩
  refine ⟨[(12, .agg (List.toArray (α := Value) ([I64 (kd), Slc nb10 0 ni cp4, Slc nb11 0 ns cp5, U64 bl]))), (13, .agg (List.toArray (α := Value) ([U64 pv, U64 ep, I64 (kd), Slc nb10 0 ni cp4, Slc nb11 0 ns cp5, U64 bl] ++ cu8 (zr8 16))))], ?_⟩
  show DP _ _ _ _ _ _ _ _ [_, _, _, _, _, ⟨nb11, ls.flatMap sealC ++ sp5, 161, (0, 0)⟩]
  refine BR ⟨[14, 6, 9], [0, 1, 2, 3, 4, 5, 7, 8, 10, 11, 12, 13], [4, 5, 7, 8], [0, 1, 2, 3, 10, 11, 12, 13], [15]⟩ 15 _ rfl rfl (by decide +kernel) rfl ⟨⟨_, rfl, AB rfl (AD rfl)⟩, ⟨_, rfl, AB rfl (AD rfl)⟩, ⟨_, rfl, AB rfl (AC 0 3 1 AG rfl A7 rfl rfl)⟩, ⟨_, rfl, AB rfl (AK rfl (AV BA (MemAt.ent 1 rfl (Seg.head))))⟩, ⟨_, rfl, AB rfl (AC 3 22 1 AG rfl AT rfl rfl)⟩, ⟨_, rfl, AB rfl (AK rfl (AV AU (MemAt.ent 1 rfl (AJ (AJ (AJ (Seg.head)))))))⟩, ⟨_, rfl, AB rfl (CB [(0, I64 (kd)), (1, Slc nb10 0 ni cp4), (2, Slc nb11 0 ns cp5), (3, U64 bl)] _ rfl (fun _ => DY rfl rfl rfl rfl))⟩, ⟨_, rfl, AB rfl (CB [(0, U64 pv), (1, U64 ep), (2, .agg (List.toArray (α := Value) ([I64 (kd), Slc nb10 0 ni cp4, Slc nb11 0 ns cp5, U64 bl])))] _ rfl (fun _ => EA rfl rfl (by simp [AP])))⟩, trivial⟩ rfl (AZ rfl (A6 3 nb5 0 22 ([U64 (0:UInt64), U64 (0:UInt64), I64 (0:Int), .slice none 0 0, .slice none 0 0, U64 (0:UInt64)] ++ cu8 (zr8 16)) 29 (.agg (List.toArray (α := Value) ([U64 pv, U64 ep, I64 (kd), Slc nb10 0 ni cp4, Slc nb11 0 ns cp5, U64 bl] ++ cu8 (zr8 16)))) ([U64 pv, U64 ep, I64 (kd), Slc nb10 0 ni cp4, Slc nb11 0 ns cp5, U64 bl] ++ cu8 (zr8 16)) ([U64 pv, U64 ep, I64 (kd), Slc nb10 0 ni cp4, Slc nb11 0 ns cp5, U64 bl] ++ cu8 (zr8 16)) rfl rfl rfl (by first | rfl | simp) AW (by simp [(AP 16)]) (DA (by simp [Value.oneCell']) CK) (by simp [(AP 16)]) (BF (by simp [(AP 16), (AP 16)])))) ?_
  rintro v1 L1 ⟨rfl, rfl⟩
  refine ⟨[], ?_⟩
  show DP _ _ _ _ _ _ _ _ [_, _, _, ⟨nb5, [U64 pv, U64 ep, I64 (kd), Slc nb10 0 ni cp4, Slc nb11 0 ns cp5, U64 bl] ++ cu8 (zr8 16), 29, (0, 0)⟩, _, _]
  refine CZ ⟨[14, 6, 9, 15], [0, 1, 2, 3, 4, 5, 7, 8, 10, 11, 12, 13], [0, 1, 2, 3, 4, 5, 7, 8, 10, 11, 12, 13], [], []⟩ rfl rfl (by decide +kernel) rfl trivial ?_
  refine CC (F' := [(10, Ptr nb5 0), (4, Ptr nb1 0), (8, Ptr nb3 0), (9, .nilIface)]) (by kernel_rfl) ?_
  refine AF (AL (AE (AA (.agg (List.toArray (α := Value) ([U64 pv, U64 ep, I64 (kd), Slc nb10 0 ni cp4, Slc nb11 0 ns cp5, U64 bl] ++ cu8 (zr8 16)))) (AK rfl (BH BE AW (by simp [(AP 16)]) (MemAt.ent 3 rfl (AM _)))) rfl ?_)))
  refine AR (A3 114 [.agg (List.toArray (α := Value) ([U64 pv, U64 ep, I64 (kd), Slc nb10 0 ni cp4, Slc nb11 0 ns cp5, U64 bl] ++ cu8 (zr8 16)))] (.tuple #[.slice none 0 0, errV 50 (mayN pv ep (kd) l ls bl)]) (A0 [.agg (List.toArray (α := Value) ([U64 pv, U64 ep, I64 (kd), Slc nb10 0 ni cp4, Slc nb11 0 ns cp5, U64 bl] ++ cu8 (zr8 16)))] DL rfl) (fun w1 hw1 => F5 pv ep (kd) (some ⟨nb10, 0, none⟩) ni cp4 l (some ⟨nb11, 0, none⟩) ns cp5 ls bl (zr8 16) w1 hl (by omega) (by omega) (by omega) (RdV.of hw1 (MemAt.ent 4 rfl (A2 (AM _)))) hls (by omega) (by omega) (by omega) (RdV.of hw1 (MemAt.ent 5 rfl (A2 (AM _)))) (AP 16) hm)) rfl ?_
  rintro v1 L1 ⟨rfl, rfl⟩
  show JL _ _ _ _ ((29, .tuple #[.slice none 0 0, errV 50 (mayN pv ep (kd) l ls bl)]) :: _) [_, _, _, _, _, _]
  refine AA _ (AD rfl) rfl ?_
  refine AA _ (BN rfl rfl) rfl ?_
  refine AA _ (BN rfl rfl) rfl ?_
  refine AA _ (AH rfl) rfl ?_
  refine AA _ (AH rfl) rfl ?_
  refine AN (AF (AL (AL (AE (AA _ (AD rfl) rfl ?_)))))
  refine AA (.bool (!(decide (mayN pv ep (kd) l ls bl = 0)))) (DC _ _ _ rfl rfl (fun _ => C5 ..) fun _ => EW BB _ _) rfl ?_
  refine AN (AF (C9 _ rfl (by rw [show (decide (mayN pv ep (kd) l ls bl = 0)) = false from (decide_eq_false hm)] <;> rfl) ?_))
  refine AL (AE (AA (.agg (List.toArray (α := Value) ([U64 (0:UInt64), U64 (0:UInt64), I64 (0:Int), .slice none 0 0, .slice none 0 0, U64 (0:UInt64)] ++ cu8 (zr8 16)))) (CB [] _ rfl (fun _ => by kernel_rfl)) rfl ?_))
  refine AA _ (AD rfl) rfl ?_
  refine AR (A6 2 nb3 0 22 ([U64 (0:UInt64), U64 (0:UInt64), I64 (0:Int), .slice none 0 0, .slice none 0 0, U64 (0:UInt64)] ++ cu8 (zr8 16)) 29 (.agg (List.toArray (α := Value) ([U64 (0:UInt64), U64 (0:UInt64), I64 (0:Int), .slice none 0 0, .slice none 0 0, U64 (0:UInt64)] ++ cu8 (zr8 16)))) ([U64 (0:UInt64), U64 (0:UInt64), I64 (0:Int), .slice none 0 0, .slice none 0 0, U64 (0:UInt64)] ++ cu8 (zr8 16)) ([U64 (0:UInt64), U64 (0:UInt64), I64 (0:Int), .slice none 0 0, .slice none 0 0, U64 (0:UInt64)] ++ cu8 (zr8 16)) rfl rfl rfl (by first | rfl | simp) AW (by simp [(AP 16)]) (DA (by simp [Value.oneCell']) CK) (by simp [(AP 16)]) (BF (by simp [(AP 16), (AP 16)]))) rfl ?_
  rintro v1 L1 ⟨rfl, rfl⟩
  show JL _ _ _ _ _ [_, _, ⟨nb3, [U64 (0:UInt64), U64 (0:UInt64), I64 (0:Int), .slice none 0 0, .slice none 0 0, U64 (0:UInt64)] ++ cu8 (zr8 16), 29, (0, 0)⟩, _, _, _]
  refine AA _ (AH rfl) rfl ?_
  refine AN (AF (BO (A5 (B8 [false, false, true, false, false, false] ?_))))
  show JQ _ _ _ _ [_]
  refine BP (.tuple #[.agg (List.toArray (α := Value) ([U64 (0:UInt64), U64 (0:UInt64), I64 (0:Int), .slice none 0 0, .slice none 0 0, U64 (0:UInt64)] ++ cu8 (zr8 16))), errV 50 (mayN pv ep (kd) l ls bl)]) (res2 DM (ED rfl (BH BE AW (by simp [(AP 16)]) (MemAt.ent 0 rfl (AM _)))) (BT rfl)) fun w1 hw1 => ?_
  exact ⟨_, [], rfl, ⟨rfl, rfl⟩, hw1.sub (by simp) (by simp)⟩
theorem signBPZ_c (key : List UInt8) (pv ep : UInt64) (kd : Int) (ai : Option Addr) (ni ci : Nat) (l : List UInt64) (sa : Option Addr) (sc : Nat) (bl : UInt64)  (w : World) (hk32 : key.length = 32) (hl : l.length = ni) (hnm : ni ≤ 2000000) (hnc : ni ≤ ci) (hcm : ci ≤ maxLen) (hv : RdV w ai (cu64 l)) (hcs : sc ≤ maxLen) (hnS : sa = none → sc = 0) (hp1 : 0 < ni) (hm : mayN pv ep kd l ([] : List SealR) bl ≠ 0)  : Calls Tryd.prog 46 #[.agg (cu8 key).toArray, U64 pv, U64 ep, .agg (List.toArray (α := Value) ([I64 (kd), .slice ai ni ci, .slice sa 0 sc, U64 bl]))] w (Post w [] (fun v L => v = .tuple #[.agg (List.toArray (α := Value) ([U64 (0:UInt64), U64 (0:UInt64), I64 (0:Int), .slice none 0 0, .slice none 0 0, U64 (0:UInt64)] ++ cu8 (zr8 16))), errV 50 (mayN pv ep kd l ([] : List SealR) bl)] ∧ L = [])) := by
 have hmx : maxLen = 9223372036854775807 := rfl
 refine enter (P := Tryd.prog) (f := 46) (fn := Tryd.f46) w [] 44 [] [.agg (cu8 key).toArray, U64 pv, U64 ep, .agg (List.toArray (α := Value) ([I64 (kd), .slice ai ni ci, .slice sa 0 sc, U64 bl]))] Tryd.func46 rfl rfl (by simp) (B7 (by simp) (by simp) (by simp)) ?_
 show JC _ _ _ [(0, .agg (cu8 key).toArray), (1, U64 pv), (2, U64 ep), (3, .agg (List.toArray (α := Value) ([I64 (kd), .slice ai ni ci, .slice sa 0 sc, U64 bl])))] _
 refine AL (AE (AR (CN (.agg (cu8 key).toArray) (cu8 key) rfl (by first | rfl | simp)) rfl ?_))
 rintro v1 L1 ⟨nb1, hnb1, rfl, rfl⟩
 show JL _ _ _ _ ((4, Ptr nb1 0) :: _) [⟨nb1, cu8 key, 54, (0, 0)⟩]
 refine AR (CN (.agg (List.toArray (α := Value) ([I64 (kd), .slice ai ni ci, .slice sa 0 sc, U64 bl]))) ([I64 (kd), .slice ai ni ci, .slice sa 0 sc, U64 bl]) rfl (by first | rfl | simp)) rfl ?_
 rintro v1 L1 ⟨nb2, hnb2, rfl, rfl⟩
 show JL _ _ _ _ ((7, Ptr nb2 0) :: _) [_, ⟨nb2, [I64 (kd), .slice ai ni ci, .slice sa 0 sc, U64 bl], 26, (0, 0)⟩]
 refine AR (BJ _ ([U64 (0:UInt64), U64 (0:UInt64), I64 (0:Int), .slice none 0 0, .slice none 0 0, U64 (0:UInt64)] ++ cu8 (zr8 16)) B9 (by kernel_rfl)) rfl ?_
 rintro v1 L1 ⟨nb3, hnb3, rfl, rfl⟩
 show JL _ _ _ _ ((8, Ptr nb3 0) :: _) [_, _, ⟨nb3, [U64 (0:UInt64), U64 (0:UInt64), I64 (0:Int), .slice none 0 0, .slice none 0 0, U64 (0:UInt64)] ++ cu8 (zr8 16), 29, (0, 0)⟩]
 refine AA _ (AH rfl) rfl ?_
 refine AN (AF (AL (CQ 44 5 [(0, U64 pv), (1, U64 ep), (2, Ptr nb2 0), (3, I64 (kd)), (4, Ptr nb2 1), (5, .slice ai ni ci), (7, Ptr nb2 2), (8, .slice sa 0 sc), (10, Ptr nb2 3), (11, U64 bl)] BQ rfl (by decide +kernel) ?_)))
 refine DP_two ⟨[], [0, 1, 2, 3, 4, 5, 7, 8, 10, 11], [], [0, 1, 2, 3, 4, 5, 7, 8, 10, 11], [6, 14]⟩ 6 14 _ _ rfl rfl (by decide +kernel) rfl ⟨⟨_, rfl, AB rfl (AD rfl)⟩, ⟨_, rfl, AB rfl (AD rfl)⟩, ⟨_, rfl, AB rfl (AC 0 3 1 AG rfl A7 rfl rfl)⟩, ⟨_, rfl, AB rfl (AK rfl (AV BA (MemAt.ent 1 rfl (Seg.head))))⟩, ⟨_, rfl, AB rfl (AC 1 23 1 AG rfl CE rfl rfl)⟩, ⟨_, rfl, AB rfl (AK rfl (AV CL (MemAt.ent 1 rfl (AJ (Seg.head)))))⟩, ⟨_, rfl, AB rfl (AC 2 24 1 AG rfl B3 rfl rfl)⟩, ⟨_, rfl, AB rfl (AK rfl (AV B6 (MemAt.ent 1 rfl (AJ (AJ (Seg.head))))))⟩, ⟨_, rfl, AB rfl (AC 3 22 1 AG rfl AT rfl rfl)⟩, ⟨_, rfl, AB rfl (AK rfl (AV AU (MemAt.ent 1 rfl (AJ (AJ (AJ (Seg.head)))))))⟩, trivial⟩ rfl rfl (AZ rfl (BG 112 [.slice ai ni ci] _ (A0 [.slice ai ni ci] EV rfl) (fun w1 hw1 => F4 ai ni ci l w1 hl (by omega) (by omega) (by omega) (C1 hw1 rfl hv) (by omega)))) (AZ rfl (BJ _ ([U64 (0:UInt64), U64 (0:UInt64), I64 (0:Int), .slice none 0 0, .slice none 0 0, U64 (0:UInt64)] ++ cu8 (zr8 16)) B9 (by kernel_rfl))) ?_ ?_
 ·
  rintro v1 L1 ⟨_, ⟨nb4, sp1, cp1, rfl, rfl, hc1, hc2, hc3⟩, rfl⟩
  refine ⟨[], ?_⟩
  show DP _ _ _ _ _ _ _ _ [_, _, _, ⟨nb4, cu64 l ++ sp1, 22, (0, 0)⟩]
  refine DP_two ⟨[6], [0, 1, 2, 3, 4, 5, 7, 8, 10, 11], [4, 5], [0, 1, 2, 3, 7, 8, 10, 11], [9, 14]⟩ 9 14 _ _ rfl rfl (by decide +kernel) rfl ⟨⟨_, rfl, AB rfl (AD rfl)⟩, ⟨_, rfl, AB rfl (AD rfl)⟩, ⟨_, rfl, AB rfl (AC 0 3 1 AG rfl A7 rfl rfl)⟩, ⟨_, rfl, AB rfl (AK rfl (AV BA (MemAt.ent 1 rfl (Seg.head))))⟩, ⟨_, rfl, AB rfl (AC 2 24 1 AG rfl B3 rfl rfl)⟩, ⟨_, rfl, AB rfl (AK rfl (AV B6 (MemAt.ent 1 rfl (AJ (AJ (Seg.head))))))⟩, ⟨_, rfl, AB rfl (AC 3 22 1 AG rfl AT rfl rfl)⟩, ⟨_, rfl, AB rfl (AK rfl (AV AU (MemAt.ent 1 rfl (AJ (AJ (AJ (Seg.head)))))))⟩, trivial⟩ rfl rfl (AZ rfl (BG 113 [.slice sa 0 sc] _ (A0 [.slice sa 0 sc] D2 rfl) (fun w1 hw1 => FS sa sc w1 (by omega) hnS))) (AZ rfl (BJ _ ([U64 (0:UInt64), U64 (0:UInt64), I64 (0:Int), .slice none 0 0, .slice none 0 0, U64 (0:UInt64)] ++ cu8 (zr8 16)) B9 (by kernel_rfl))) ?_ ?_
  ·
   rintro v1 L1 ⟨_, ⟨ao1, ca1, rfl, rfl, hc4, hc5⟩, rfl⟩
   refine ⟨[(12, .agg (List.toArray (α := Value) ([I64 (kd), Slc nb4 0 ni cp1, .slice ao1 0 ca1, U64 bl]))), (13, .agg (List.toArray (α := Value) ([U64 pv, U64 ep, I64 (kd), Slc nb4 0 ni cp1, .slice ao1 0 ca1, U64 bl] ++ cu8 (zr8 16))))], ?_⟩
   show DP _ _ _ _ _ _ _ _ [_, _, _, _]
   refine BR ⟨[6, 9], [0, 1, 2, 3, 4, 5, 7, 8, 10, 11, 12, 13], [4, 5, 7, 8], [0, 1, 2, 3, 10, 11, 12, 13], [14]⟩ 14 _ rfl rfl (by decide +kernel) rfl ⟨⟨_, rfl, AB rfl (AD rfl)⟩, ⟨_, rfl, AB rfl (AD rfl)⟩, ⟨_, rfl, AB rfl (AC 0 3 1 AG rfl A7 rfl rfl)⟩, ⟨_, rfl, AB rfl (AK rfl (AV BA (MemAt.ent 1 rfl (Seg.head))))⟩, ⟨_, rfl, AB rfl (AC 3 22 1 AG rfl AT rfl rfl)⟩, ⟨_, rfl, AB rfl (AK rfl (AV AU (MemAt.ent 1 rfl (AJ (AJ (AJ (Seg.head)))))))⟩, ⟨_, rfl, AB rfl (CB [(0, I64 (kd)), (1, Slc nb4 0 ni cp1), (2, .slice ao1 0 ca1), (3, U64 bl)] _ rfl (fun _ => DY rfl rfl rfl rfl))⟩, ⟨_, rfl, AB rfl (CB [(0, U64 pv), (1, U64 ep), (2, .agg (List.toArray (α := Value) ([I64 (kd), Slc nb4 0 ni cp1, .slice ao1 0 ca1, U64 bl])))] _ rfl (fun _ => EA rfl rfl (by simp [AP])))⟩, trivial⟩ rfl (AZ rfl (BJ _ ([U64 (0:UInt64), U64 (0:UInt64), I64 (0:Int), .slice none 0 0, .slice none 0 0, U64 (0:UInt64)] ++ cu8 (zr8 16)) B9 (by kernel_rfl))) ?_
   rintro v1 L1 ⟨nb7, hnb7, rfl, rfl⟩
   refine ⟨[], ?_⟩
   show DP _ _ _ _ _ _ _ _ [_, _, _, _, ⟨nb7, [U64 (0:UInt64), U64 (0:UInt64), I64 (0:Int), .slice none 0 0, .slice none 0 0, U64 (0:UInt64)] ++ cu8 (zr8 16), 29, (0, 0)⟩]
   refine BR ⟨[6, 9, 14], [0, 1, 2, 3, 4, 5, 7, 8, 10, 11, 12, 13], [4, 5, 7, 8], [0, 1, 2, 3, 10, 11, 12, 13], [15]⟩ 15 _ rfl rfl (by decide +kernel) rfl ⟨⟨_, rfl, AB rfl (AD rfl)⟩, ⟨_, rfl, AB rfl (AD rfl)⟩, ⟨_, rfl, AB rfl (AC 0 3 1 AG rfl A7 rfl rfl)⟩, ⟨_, rfl, AB rfl (AK rfl (AV BA (MemAt.ent 1 rfl (Seg.head))))⟩, ⟨_, rfl, AB rfl (AC 3 22 1 AG rfl AT rfl rfl)⟩, ⟨_, rfl, AB rfl (AK rfl (AV AU (MemAt.ent 1 rfl (AJ (AJ (AJ (Seg.head)))))))⟩, ⟨_, rfl, AB rfl (CB [(0, I64 (kd)), (1, Slc nb4 0 ni cp1), (2, .slice ao1 0 ca1), (3, U64 bl)] _ rfl (fun _ => DY rfl rfl rfl rfl))⟩, ⟨_, rfl, AB rfl (CB [(0, U64 pv), (1, U64 ep), (2, .agg (List.toArray (α := Value) ([I64 (kd), Slc nb4 0 ni cp1, .slice ao1 0 ca1, U64 bl])))] _ rfl (fun _ => EA rfl rfl (by simp [AP])))⟩, trivial⟩ rfl (AZ rfl (A6 4 nb7 0 22 ([U64 (0:UInt64), U64 (0:UInt64), I64 (0:Int), .slice none 0 0, .slice none 0 0, U64 (0:UInt64)] ++ cu8 (zr8 16)) 29 (.agg (List.toArray (α := Value) ([U64 pv, U64 ep, I64 (kd), Slc nb4 0 ni cp1, .slice ao1 0 ca1, U64 bl] ++ cu8 (zr8 16)))) ([U64 pv, U64 ep, I64 (kd), Slc nb4 0 ni cp1, .slice ao1 0 ca1, U64 bl] ++ cu8 (zr8 16)) ([U64 pv, U64 ep, I64 (kd), Slc nb4 0 ni cp1, .slice ao1 0 ca1, U64 bl] ++ cu8 (zr8 16)) rfl rfl rfl (by first | rfl | simp) AW (by simp [(AP 16)]) (DA (by simp [Value.oneCell']) CK) (by simp [(AP 16)]) (BF (by simp [(AP 16), (AP 16)])))) ?_
   rintro v1 L1 ⟨rfl, rfl⟩
   refine ⟨[], ?_⟩
   show DP _ _ _ _ _ _ _ _ [_, _, _, _, ⟨nb7, [U64 pv, U64 ep, I64 (kd), Slc nb4 0 ni cp1, .slice ao1 0 ca1, U64 bl] ++ cu8 (zr8 16), 29, (0, 0)⟩]
   refine CZ ⟨[6, 9, 14, 15], [0, 1, 2, 3, 4, 5, 7, 8, 10, 11, 12, 13], [0, 1, 2, 3, 4, 5, 7, 8, 10, 11, 12, 13], [], []⟩ rfl rfl (by decide +kernel) rfl trivial ?_
   refine CC (F' := [(10, Ptr nb7 0), (4, Ptr nb1 0), (8, Ptr nb3 0), (9, .nilIface)]) (by kernel_rfl) ?_
   refine AF (AL (AE (AA (.agg (List.toArray (α := Value) ([U64 pv, U64 ep, I64 (kd), Slc nb4 0 ni cp1, .slice ao1 0 ca1, U64 bl] ++ cu8 (zr8 16)))) (AK rfl (BH BE AW (by simp [(AP 16)]) (MemAt.ent 4 rfl (AM _)))) rfl ?_)))
   refine AR (A3 114 [.agg (List.toArray (α := Value) ([U64 pv, U64 ep, I64 (kd), Slc nb4 0 ni cp1, .slice ao1 0 ca1, U64 bl] ++ cu8 (zr8 16)))] (.tuple #[.slice none 0 0, errV 50 (mayN pv ep (kd) l ([] : List SealR) bl)]) (A0 [.agg (List.toArray (α := Value) ([U64 pv, U64 ep, I64 (kd), Slc nb4 0 ni cp1, .slice ao1 0 ca1, U64 bl] ++ cu8 (zr8 16)))] DL rfl) (fun w1 hw1 => F5 pv ep (kd) (some ⟨nb4, 0, none⟩) ni cp1 l ao1 0 ca1 ([] : List SealR) bl (zr8 16) w1 hl (by omega) (by omega) (by omega) (RdV.of hw1 (MemAt.ent 3 rfl (A2 (AM _)))) rfl (by omega) (by omega) (by omega) RdV.nil (AP 16) hm)) rfl ?_
   rintro v1 L1 ⟨rfl, rfl⟩
   show JL _ _ _ _ ((29, .tuple #[.slice none 0 0, errV 50 (mayN pv ep (kd) l ([] : List SealR) bl)]) :: _) [_, _, _, _, _]
   refine AA _ (AD rfl) rfl ?_
   refine AA _ (BN rfl rfl) rfl ?_
   refine AA _ (BN rfl rfl) rfl ?_
   refine AA _ (AH rfl) rfl ?_
   refine AA _ (AH rfl) rfl ?_
   refine AN (AF (AL (AL (AE (AA _ (AD rfl) rfl ?_)))))
   refine AA (.bool (!(decide (mayN pv ep (kd) l ([] : List SealR) bl = 0)))) (DC _ _ _ rfl rfl (fun _ => C5 ..) fun _ => EW BB _ _) rfl ?_
   refine AN (AF (C9 _ rfl (by rw [show (decide (mayN pv ep (kd) l ([] : List SealR) bl = 0)) = false from (decide_eq_false hm)] <;> rfl) ?_))
   refine AL (AE (AA (.agg (List.toArray (α := Value) ([U64 (0:UInt64), U64 (0:UInt64), I64 (0:Int), .slice none 0 0, .slice none 0 0, U64 (0:UInt64)] ++ cu8 (zr8 16)))) (CB [] _ rfl (fun _ => by kernel_rfl)) rfl ?_))
   refine AA _ (AD rfl) rfl ?_
   refine AR (A6 2 nb3 0 22 ([U64 (0:UInt64), U64 (0:UInt64), I64 (0:Int), .slice none 0 0, .slice none 0 0, U64 (0:UInt64)] ++ cu8 (zr8 16)) 29 (.agg (List.toArray (α := Value) ([U64 (0:UInt64), U64 (0:UInt64), I64 (0:Int), .slice none 0 0, .slice none 0 0, U64 (0:UInt64)] ++ cu8 (zr8 16)))) ([U64 (0:UInt64), U64 (0:UInt64), I64 (0:Int), .slice none 0 0, .slice none 0 0, U64 (0:UInt64)] ++ cu8 (zr8 16)) ([U64 (0:UInt64), U64 (0:UInt64), I64 (0:Int), .slice none 0 0, .slice none 0 0, U64 (0:UInt64)] ++ cu8 (zr8 16)) rfl rfl rfl (by first | rfl | simp) AW (by simp [(AP 16)]) (DA (by simp [Value.oneCell']) CK) (by simp [(AP 16)]) (BF (by simp [(AP 16), (AP 16)]))) rfl ?_
   rintro v1 L1 ⟨rfl, rfl⟩
   show JL _ _ _ _ _ [_, _, ⟨nb3, [U64 (0:UInt64), U64 (0:UInt64), I64 (0:Int), .slice none 0 0, .slice none 0 0, U64 (0:UInt64)] ++ cu8 (zr8 16), 29, (0, 0)⟩, _, _]
   refine AA _ (AH rfl) rfl ?_
   refine AN (AF (BO (A5 (B8 [false, false, true, false, false] ?_))))
   show JQ _ _ _ _ [_]
   refine BP (.tuple #[.agg (List.toArray (α := Value) ([U64 (0:UInt64), U64 (0:UInt64), I64 (0:Int), .slice none 0 0, .slice none 0 0, U64 (0:UInt64)] ++ cu8 (zr8 16))), errV 50 (mayN pv ep (kd) l ([] : List SealR) bl)]) (res2 DM (ED rfl (BH BE AW (by simp [(AP 16)]) (MemAt.ent 0 rfl (AM _)))) (BT rfl)) fun w1 hw1 => ?_
   exact ⟨_, [], rfl, ⟨rfl, rfl⟩, hw1.sub (by simp) (by simp)⟩
  ·
   rintro v1 L1 ⟨nb6, hnb6, rfl, rfl⟩
   refine ⟨[], ?_⟩
   show DP _ _ _ _ _ _ _ _ [_, _, _, _, ⟨nb6, [U64 (0:UInt64), U64 (0:UInt64), I64 (0:Int), .slice none 0 0, .slice none 0 0, U64 (0:UInt64)] ++ cu8 (zr8 16), 29, (0, 0)⟩]
   refine BR ⟨[6, 14], [0, 1, 2, 3, 4, 5, 7, 8, 10, 11], [4, 5], [0, 1, 2, 3, 7, 8, 10, 11], [9]⟩ 9 _ rfl rfl (by decide +kernel) rfl ⟨⟨_, rfl, AB rfl (AD rfl)⟩, ⟨_, rfl, AB rfl (AD rfl)⟩, ⟨_, rfl, AB rfl (AC 0 3 1 AG rfl A7 rfl rfl)⟩, ⟨_, rfl, AB rfl (AK rfl (AV BA (MemAt.ent 1 rfl (Seg.head))))⟩, ⟨_, rfl, AB rfl (AC 2 24 1 AG rfl B3 rfl rfl)⟩, ⟨_, rfl, AB rfl (AK rfl (AV B6 (MemAt.ent 1 rfl (AJ (AJ (Seg.head))))))⟩, ⟨_, rfl, AB rfl (AC 3 22 1 AG rfl AT rfl rfl)⟩, ⟨_, rfl, AB rfl (AK rfl (AV AU (MemAt.ent 1 rfl (AJ (AJ (AJ (Seg.head)))))))⟩, trivial⟩ rfl (AZ rfl (BG 113 [.slice sa 0 sc] _ (A0 [.slice sa 0 sc] D2 rfl) (fun w1 hw1 => FS sa sc w1 (by omega) hnS))) ?_
   rintro v1 L1 ⟨_, ⟨ao2, ca2, rfl, rfl, hc6, hc7⟩, rfl⟩
   refine ⟨[(12, .agg (List.toArray (α := Value) ([I64 (kd), Slc nb4 0 ni cp1, .slice ao2 0 ca2, U64 bl]))), (13, .agg (List.toArray (α := Value) ([U64 pv, U64 ep, I64 (kd), Slc nb4 0 ni cp1, .slice ao2 0 ca2, U64 bl] ++ cu8 (zr8 16))))], ?_⟩
   show DP _ _ _ _ _ _ _ _ [_, _, _, _, _]
   refine BR ⟨[6, 14, 9], [0, 1, 2, 3, 4, 5, 7, 8, 10, 11, 12, 13], [4, 5, 7, 8], [0, 1, 2, 3, 10, 11, 12, 13], [15]⟩ 15 _ rfl rfl (by decide +kernel) rfl ⟨⟨_, rfl, AB rfl (AD rfl)⟩, ⟨_, rfl, AB rfl (AD rfl)⟩, ⟨_, rfl, AB rfl (AC 0 3 1 AG rfl A7 rfl rfl)⟩, ⟨_, rfl, AB rfl (AK rfl (AV BA (MemAt.ent 1 rfl (Seg.head))))⟩, ⟨_, rfl, AB rfl (AC 3 22 1 AG rfl AT rfl rfl)⟩, ⟨_, rfl, AB rfl (AK rfl (AV AU (MemAt.ent 1 rfl (AJ (AJ (AJ (Seg.head)))))))⟩, ⟨_, rfl, AB rfl (CB [(0, I64 (kd)), (1, Slc nb4 0 ni cp1), (2, .slice ao2 0 ca2), (3, U64 bl)] _ rfl (fun _ => DY rfl rfl rfl rfl))⟩, ⟨_, rfl, AB rfl (CB [(0, U64 pv), (1, U64 ep), (2, .agg (List.toArray (α := Value) ([I64 (kd), Slc nb4 0 ni cp1, .slice ao2 0 ca2, U64 bl])))] _ rfl (fun _ => EA rfl rfl (by simp [AP])))⟩, trivial⟩ rfl (AZ rfl (A6 4 nb6 0 22 ([U64 (0:UInt64), U64 (0:UInt64), I64 (0:Int), .slice none 0 0, .slice none 0 0, U64 (0:UInt64)] ++ cu8 (zr8 16)) 29 (.agg (List.toArray (α := Value) ([U64 pv, U64 ep, I64 (kd), Slc nb4 0 ni cp1, .slice ao2 0 ca2, U64 bl] ++ cu8 (zr8 16)))) ([U64 pv, U64 ep, I64 (kd), Slc nb4 0 ni cp1, .slice ao2 0 ca2, U64 bl] ++ cu8 (zr8 16)) ([U64 pv, U64 ep, I64 (kd), Slc nb4 0 ni cp1, .slice ao2 0 ca2, U64 bl] ++ cu8 (zr8 16)) rfl rfl rfl (by first | rfl | simp) AW (by simp [(AP 16)]) (DA (by simp [Value.oneCell']) CK) (by simp [(AP 16)]) (BF (by simp [(AP 16), (AP 16)])))) ?_
   rintro v1 L1 ⟨rfl, rfl⟩
   refine ⟨[], ?_⟩
   show DP _ _ _ _ _ _ _ _ [_, _, _, _, ⟨nb6, [U64 pv, U64 ep, I64 (kd), Slc nb4 0 ni cp1, .slice ao2 0 ca2, U64 bl] ++ cu8 (zr8 16), 29, (0, 0)⟩]
   refine CZ ⟨[6, 14, 9, 15], [0, 1, 2, 3, 4, 5, 7, 8, 10, 11, 12, 13], [0, 1, 2, 3, 4, 5, 7, 8, 10, 11, 12, 13], [], []⟩ rfl rfl (by decide +kernel) rfl trivial ?_
   refine CC (F' := [(10, Ptr nb6 0), (4, Ptr nb1 0), (8, Ptr nb3 0), (9, .nilIface)]) (by kernel_rfl) ?_
   refine AF (AL (AE (AA (.agg (List.toArray (α := Value) ([U64 pv, U64 ep, I64 (kd), Slc nb4 0 ni cp1, .slice ao2 0 ca2, U64 bl] ++ cu8 (zr8 16)))) (AK rfl (BH BE AW (by simp [(AP 16)]) (MemAt.ent 4 rfl (AM _)))) rfl ?_)))
   refine AR (A3 114 [.agg (List.toArray (α := Value) ([U64 pv, U64 ep, I64 (kd), Slc nb4 0 ni cp1, .slice ao2 0 ca2, U64 bl] ++ cu8 (zr8 16)))] (.tuple #[.slice none 0 0, errV 50 (mayN pv ep (kd) l ([] : List SealR) bl)]) (A0 [.agg (List.toArray (α := Value) ([U64 pv, U64 ep, I64 (kd), Slc nb4 0 ni cp1, .slice ao2 0 ca2, U64 bl] ++ cu8 (zr8 16)))] DL rfl) (fun w1 hw1 => F5 pv ep (kd) (some ⟨nb4, 0, none⟩) ni cp1 l ao2 0 ca2 ([] : List SealR) bl (zr8 16) w1 hl (by omega) (by omega) (by omega) (RdV.of hw1 (MemAt.ent 3 rfl (A2 (AM _)))) rfl (by omega) (by omega) (by omega) RdV.nil (AP 16) hm)) rfl ?_
   rintro v1 L1 ⟨rfl, rfl⟩
   show JL _ _ _ _ ((29, .tuple #[.slice none 0 0, errV 50 (mayN pv ep (kd) l ([] : List SealR) bl)]) :: _) [_, _, _, _, _]
   refine AA _ (AD rfl) rfl ?_
   refine AA _ (BN rfl rfl) rfl ?_
   refine AA _ (BN rfl rfl) rfl ?_
   refine AA _ (AH rfl) rfl ?_
   refine AA _ (AH rfl) rfl ?_
   refine AN (AF (AL (AL (AE (AA _ (AD rfl) rfl ?_)))))
   refine AA (.bool (!(decide (mayN pv ep (kd) l ([] : List SealR) bl = 0)))) (DC _ _ _ rfl rfl (fun _ => C5 ..) fun _ => EW BB _ _) rfl ?_
   refine AN (AF (C9 _ rfl (by rw [show (decide (mayN pv ep (kd) l ([] : List SealR) bl = 0)) = false from (decide_eq_false hm)] <;> rfl) ?_))
   refine AL (AE (AA (.agg (List.toArray (α := Value) ([U64 (0:UInt64), U64 (0:UInt64), I64 (0:Int), .slice none 0 0, .slice none 0 0, U64 (0:UInt64)] ++ cu8 (zr8 16)))) (CB [] _ rfl (fun _ => by kernel_rfl)) rfl ?_))
   refine AA _ (AD rfl) rfl ?_
   refine AR (A6 2 nb3 0 22 ([U64 (0:UInt64), U64 (0:UInt64), I64 (0:Int), .slice none 0 0, .slice none 0 0, U64 (0:UInt64)] ++ cu8 (zr8 16)) 29 (.agg (List.toArray (α := Value) ([U64 (0:UInt64), U64 (0:UInt64), I64 (0:Int), .slice none 0 0, .slice none 0 0, U64 (0:UInt64)] ++ cu8 (zr8 16)))) ([U64 (0:UInt64), U64 (0:UInt64), I64 (0:Int), .slice none 0 0, .slice none 0 0, U64 (0:UInt64)] ++ cu8 (zr8 16)) ([U64 (0:UInt64), U64 (0:UInt64), I64 (0:Int), .slice none 0 0, .slice none 0 0, U64 (0:UInt64)] ++ cu8 (zr8 16)) rfl rfl rfl (by first | rfl | simp) AW (by simp [(AP 16)]) (DA (by simp [Value.oneCell']) CK) (by simp [(AP 16)]) (BF (by simp [(AP 16), (AP 16)]))) rfl ?_
   rintro v1 L1 ⟨rfl, rfl⟩
   show JL _ _ _ _ _ [_, _, ⟨nb3, [U64 (0:UInt64), U64 (0:UInt64), I64 (0:Int), .slice none 0 0, .slice none 0 0, U64 (0:UInt64)] ++ cu8 (zr8 16), 29, (0, 0)⟩, _, _]
   refine AA _ (AH rfl) rfl ?_
   refine AN (AF (BO (A5 (B8 [false, false, true, false, false] ?_))))
   show JQ _ _ _ _ [_]
   refine BP (.tuple #[.agg (List.toArray (α := Value) ([U64 (0:UInt64), U64 (0:UInt64), I64 (0:Int), .slice none 0 0, .slice none 0 0, U64 (0:UInt64)] ++ cu8 (zr8 16))), errV 50 (mayN pv ep (kd) l ([] : List SealR) bl)]) (res2 DM (ED rfl (BH BE AW (by simp [(AP 16)]) (MemAt.ent 0 rfl (AM _)))) (BT rfl)) fun w1 hw1 => ?_
   exact ⟨_, [], rfl, ⟨rfl, rfl⟩, hw1.sub (by simp) (by simp)⟩
 ·
  rintro v1 L1 ⟨nb5, hnb5, rfl, rfl⟩
  refine ⟨[], ?_⟩
  show DP _ _ _ _ _ _ _ _ [_, _, _, ⟨nb5, [U64 (0:UInt64), U64 (0:UInt64), I64 (0:Int), .slice none 0 0, .slice none 0 0, U64 (0:UInt64)] ++ cu8 (zr8 16), 29, (0, 0)⟩]
  refine BR ⟨[14], [0, 1, 2, 3, 4, 5, 7, 8, 10, 11], [], [0, 1, 2, 3, 4, 5, 7, 8, 10, 11], [6]⟩ 6 _ rfl rfl (by decide +kernel) rfl ⟨⟨_, rfl, AB rfl (AD rfl)⟩, ⟨_, rfl, AB rfl (AD rfl)⟩, ⟨_, rfl, AB rfl (AC 0 3 1 AG rfl A7 rfl rfl)⟩, ⟨_, rfl, AB rfl (AK rfl (AV BA (MemAt.ent 1 rfl (Seg.head))))⟩, ⟨_, rfl, AB rfl (AC 1 23 1 AG rfl CE rfl rfl)⟩, ⟨_, rfl, AB rfl (AK rfl (AV CL (MemAt.ent 1 rfl (AJ (Seg.head)))))⟩, ⟨_, rfl, AB rfl (AC 2 24 1 AG rfl B3 rfl rfl)⟩, ⟨_, rfl, AB rfl (AK rfl (AV B6 (MemAt.ent 1 rfl (AJ (AJ (Seg.head))))))⟩, ⟨_, rfl, AB rfl (AC 3 22 1 AG rfl AT rfl rfl)⟩, ⟨_, rfl, AB rfl (AK rfl (AV AU (MemAt.ent 1 rfl (AJ (AJ (AJ (Seg.head)))))))⟩, trivial⟩ rfl (AZ rfl (BG 112 [.slice ai ni ci] _ (A0 [.slice ai ni ci] EV rfl) (fun w1 hw1 => F4 ai ni ci l w1 hl (by omega) (by omega) (by omega) (C1 hw1 rfl hv) (by omega)))) ?_
  rintro v1 L1 ⟨_, ⟨nb8, sp2, cp2, rfl, rfl, hc8, hc9, hc10⟩, rfl⟩
  refine ⟨[], ?_⟩
  show DP _ _ _ _ _ _ _ _ [_, _, _, _, ⟨nb8, cu64 l ++ sp2, 22, (0, 0)⟩]
  refine BR ⟨[14, 6], [0, 1, 2, 3, 4, 5, 7, 8, 10, 11], [4, 5], [0, 1, 2, 3, 7, 8, 10, 11], [9]⟩ 9 _ rfl rfl (by decide +kernel) rfl ⟨⟨_, rfl, AB rfl (AD rfl)⟩, ⟨_, rfl, AB rfl (AD rfl)⟩, ⟨_, rfl, AB rfl (AC 0 3 1 AG rfl A7 rfl rfl)⟩, ⟨_, rfl, AB rfl (AK rfl (AV BA (MemAt.ent 1 rfl (Seg.head))))⟩, ⟨_, rfl, AB rfl (AC 2 24 1 AG rfl B3 rfl rfl)⟩, ⟨_, rfl, AB rfl (AK rfl (AV B6 (MemAt.ent 1 rfl (AJ (AJ (Seg.head))))))⟩, ⟨_, rfl, AB rfl (AC 3 22 1 AG rfl AT rfl rfl)⟩, ⟨_, rfl, AB rfl (AK rfl (AV AU (MemAt.ent 1 rfl (AJ (AJ (AJ (Seg.head)))))))⟩, trivial⟩ rfl (AZ rfl (BG 113 [.slice sa 0 sc] _ (A0 [.slice sa 0 sc] D2 rfl) (fun w1 hw1 => FS sa sc w1 (by omega) hnS))) ?_
  rintro v1 L1 ⟨_, ⟨ao3, ca3, rfl, rfl, hc11, hc12⟩, rfl⟩
  refine ⟨[(12, .agg (List.toArray (α := Value) ([I64 (kd), Slc nb8 0 ni cp2, .slice ao3 0 ca3, U64 bl]))), (13, .agg (List.toArray (α := Value) ([U64 pv, U64 ep, I64 (kd), Slc nb8 0 ni cp2, .slice ao3 0 ca3, U64 bl] ++ cu8 (zr8 16))))], ?_⟩
  show DP _ _ _ _ _ _ _ _ [_, _, _, _, _]
  refine BR ⟨[14, 6, 9], [0, 1, 2, 3, 4, 5, 7, 8, 10, 11, 12, 13], [4, 5, 7, 8], [0, 1, 2, 3, 10, 11, 12, 13], [15]⟩ 15 _ rfl rfl (by decide +kernel) rfl ⟨⟨_, rfl, AB rfl (AD rfl)⟩, ⟨_, rfl, AB rfl (AD rfl)⟩, ⟨_, rfl, AB rfl (AC 0 3 1 AG rfl A7 rfl rfl)⟩, ⟨_, rfl, AB rfl (AK rfl (AV BA (MemAt.ent 1 rfl (Seg.head))))⟩, ⟨_, rfl, AB rfl (AC 3 22 1 AG rfl AT rfl rfl)⟩, ⟨_, rfl, AB rfl (AK rfl (AV AU (MemAt.ent 1 rfl (AJ (AJ (AJ (Seg.head)))))))⟩, ⟨_, rfl, AB rfl (CB [(0, I64 (kd)), (1, Slc nb8 0 ni cp2), (2, .slice ao3 0 ca3), (3, U64 bl)] _ rfl (fun _ => DY rfl rfl rfl rfl))⟩, ⟨_, rfl, AB rfl (CB [(0, U64 pv), (1, U64 ep), (2, .agg (List.toArray (α := Value) ([I64 (kd), Slc nb8 0 ni cp2, .slice ao3 0 ca3, U64 bl])))] _ rfl (fun _ => EA rfl rfl (by simp [AP])))⟩, trivial⟩ rfl (AZ rfl (A6 3 nb5 0 22 ([U64 (0:UInt64), U64 (0:UInt64), I64 (0:Int), .slice none 0 0, .slice none 0 0, U64 (0:UInt64)] ++ cu8 (zr8 16)) 29 (.agg (List.toArray (α := Value) ([U64 pv, U64 ep, I64 (kd), Slc nb8 0 ni cp2, .slice ao3 0 ca3, U64 bl] ++ cu8 (zr8 16)))) ([U64 pv, U64 ep, I64 (kd), Slc nb8 0 ni cp2, .slice ao3 0 ca3, U64 bl] ++ cu8 (zr8 16)) ([U64 pv, U64 ep, I64 (kd), Slc nb8 0 ni cp2, .slice ao3 0 ca3, U64 bl] ++ cu8 (zr8 16)) rfl rfl rfl (by first | rfl | simp) AW (by simp [(AP 16)]) (DA (by simp [Value.oneCell']) CK) (by simp [(AP 16)]) (BF (by simp [(AP 16), (AP 16)])))) ?_
  rintro v1 L1 ⟨rfl, rfl⟩
  refine ⟨[], ?_⟩
  show DP _ _ _ _ _ _ _ _ [_, _, _, ⟨nb5, [U64 pv, U64 ep, I64 (kd), Slc nb8 0 ni cp2, .slice ao3 0 ca3, U64 bl] ++ cu8 (zr8 16), 29, (0, 0)⟩, _]
  refine CZ ⟨[14, 6, 9, 15], [0, 1, 2, 3, 4, 5, 7, 8, 10, 11, 12, 13], [0, 1, 2, 3, 4, 5, 7, 8, 10, 11, 12, 13], [], []⟩ rfl rfl (by decide +kernel) rfl trivial ?_
  refine CC (F' := [(10, Ptr nb5 0), (4, Ptr nb1 0), (8, Ptr nb3 0), (9, .nilIface)]) (by kernel_rfl) ?_
  refine AF (AL (AE (AA (.agg (List.toArray (α := Value) ([U64 pv, U64 ep, I64 (kd), Slc nb8 0 ni cp2, .slice ao3 0 ca3, U64 bl] ++ cu8 (zr8 16)))) (AK rfl (BH BE AW (by simp [(AP 16)]) (MemAt.ent 3 rfl (AM _)))) rfl ?_)))
  refine AR (A3 114 [.agg (List.toArray (α := Value) ([U64 pv, U64 ep, I64 (kd), Slc nb8 0 ni cp2, .slice ao3 0 ca3, U64 bl] ++ cu8 (zr8 16)))] (.tuple #[.slice none 0 0, errV 50 (mayN pv ep (kd) l ([] : List SealR) bl)]) (A0 [.agg (List.toArray (α := Value) ([U64 pv, U64 ep, I64 (kd), Slc nb8 0 ni cp2, .slice ao3 0 ca3, U64 bl] ++ cu8 (zr8 16)))] DL rfl) (fun w1 hw1 => F5 pv ep (kd) (some ⟨nb8, 0, none⟩) ni cp2 l ao3 0 ca3 ([] : List SealR) bl (zr8 16) w1 hl (by omega) (by omega) (by omega) (RdV.of hw1 (MemAt.ent 4 rfl (A2 (AM _)))) rfl (by omega) (by omega) (by omega) RdV.nil (AP 16) hm)) rfl ?_
  rintro v1 L1 ⟨rfl, rfl⟩
  show JL _ _ _ _ ((29, .tuple #[.slice none 0 0, errV 50 (mayN pv ep (kd) l ([] : List SealR) bl)]) :: _) [_, _, _, _, _]
  refine AA _ (AD rfl) rfl ?_
  refine AA _ (BN rfl rfl) rfl ?_
  refine AA _ (BN rfl rfl) rfl ?_
  refine AA _ (AH rfl) rfl ?_
  refine AA _ (AH rfl) rfl ?_
  refine AN (AF (AL (AL (AE (AA _ (AD rfl) rfl ?_)))))
  refine AA (.bool (!(decide (mayN pv ep (kd) l ([] : List SealR) bl = 0)))) (DC _ _ _ rfl rfl (fun _ => C5 ..) fun _ => EW BB _ _) rfl ?_
  refine AN (AF (C9 _ rfl (by rw [show (decide (mayN pv ep (kd) l ([] : List SealR) bl = 0)) = false from (decide_eq_false hm)] <;> rfl) ?_))
  refine AL (AE (AA (.agg (List.toArray (α := Value) ([U64 (0:UInt64), U64 (0:UInt64), I64 (0:Int), .slice none 0 0, .slice none 0 0, U64 (0:UInt64)] ++ cu8 (zr8 16)))) (CB [] _ rfl (fun _ => by kernel_rfl)) rfl ?_))
  refine AA _ (AD rfl) rfl ?_
  refine AR (A6 2 nb3 0 22 ([U64 (0:UInt64), U64 (0:UInt64), I64 (0:Int), .slice none 0 0, .slice none 0 0, U64 (0:UInt64)] ++ cu8 (zr8 16)) 29 (.agg (List.toArray (α := Value) ([U64 (0:UInt64), U64 (0:UInt64), I64 (0:Int), .slice none 0 0, .slice none 0 0, U64 (0:UInt64)] ++ cu8 (zr8 16)))) ([U64 (0:UInt64), U64 (0:UInt64), I64 (0:Int), .slice none 0 0, .slice none 0 0, U64 (0:UInt64)] ++ cu8 (zr8 16)) ([U64 (0:UInt64), U64 (0:UInt64), I64 (0:Int), .slice none 0 0, .slice none 0 0, U64 (0:UInt64)] ++ cu8 (zr8 16)) rfl rfl rfl (by first | rfl | simp) AW (by simp [(AP 16)]) (DA (by simp [Value.oneCell']) CK) (by simp [(AP 16)]) (BF (by simp [(AP 16), (AP 16)]))) rfl ?_
  rintro v1 L1 ⟨rfl, rfl⟩
  show JL _ _ _ _ _ [_, _, ⟨nb3, [U64 (0:UInt64), U64 (0:UInt64), I64 (0:Int), .slice none 0 0, .slice none 0 0, U64 (0:UInt64)] ++ cu8 (zr8 16), 29, (0, 0)⟩, _, _]
  refine AA _ (AH rfl) rfl ?_
  refine AN (AF (BO (A5 (B8 [false, false, true, false, false] ?_))))
  show JQ _ _ _ _ [_]
  refine BP (.tuple #[.agg (List.toArray (α := Value) ([U64 (0:UInt64), U64 (0:UInt64), I64 (0:Int), .slice none 0 0, .slice none 0 0, U64 (0:UInt64)] ++ cu8 (zr8 16))), errV 50 (mayN pv ep (kd) l ([] : List SealR) bl)]) (res2 DM (ED rfl (BH BE AW (by simp [(AP 16)]) (MemAt.ent 0 rfl (AM _)))) (BT rfl)) fun w1 hw1 => ?_
  exact ⟨_, [], rfl, ⟨rfl, rfl⟩, hw1.sub (by simp) (by simp)⟩
end Go.Proofs.YtkdpdgpphpngeaaDoor
