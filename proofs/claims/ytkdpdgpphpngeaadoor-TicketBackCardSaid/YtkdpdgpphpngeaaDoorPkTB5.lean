import Derived.Test.YtkdpdgpphpngeaaDoorPkTB4
set_option linter.unusedVariables false
set_option linter.unusedSimpArgs false
set_option maxRecDepth 100000
namespace Go.Proofs.YtkdpdgpphpngeaaDoor
open Go Go.Sx
attribute [local irreducible] mid zr8 zr32 numK rnK valK rotr wordL spreadL comprL cpN adN spN wrdN constL initL padL stN outN routN sumG putL RightB tktT mayN idxT selT macL tkG
theorem chkK_c (key : List UInt8) (pv ep : UInt64) (k : Nat) (ai : Option Addr) (ni ci : Nat) (l : List UInt64) (sa : Option Addr) (ns sc : Nat) (ls : List SealR) (bl : UInt64) (tg : List UInt8) (tot : Nat)  (w : World) (hk32 : key.length = 32) (hl : l.length = ni) (hnm : ni ≤ 2000000) (hnc : ni ≤ ci) (hcm : ci ≤ maxLen) (hv : RdV w ai (cu64 l)) (hls : ls.length = ns) (hnn : ns ≤ 2000000) (hnd : ns ≤ sc) (hcn : sc ≤ maxLen) (hs : RdV w sa (ls.flatMap sealC)) (htg : tg.length = 16) (hmay : mayN pv ep (k:Int) l ls bl = 0) (hk : k = 1 ∨ k = 2 ∨ k = 3) (hsm : ns ≤ 300) (htot : tktN k ni ns = tot) (htb : tot ≤ 30000) (hG : GLs w) (hau : tg = tkG key pv ep k l ls bl)  : Calls Tryd.prog 48 #[.agg (cu8 key).toArray, .agg ([U64 pv, U64 ep, I64 k, .slice ai ni ci, .slice sa ns sc, U64 bl] ++ cu8 tg).toArray] w (Post w [] (fun v L => v = .nilIface ∧ L = [])) := by
 have hmx : maxLen = 9223372036854775807 := rfl
 refine enter (P := Tryd.prog) (f := 48) (fn := Tryd.f48) w [] 25 [] [.agg (cu8 key).toArray, .agg ([U64 pv, U64 ep, I64 k, .slice ai ni ci, .slice sa ns sc, U64 bl] ++ cu8 tg).toArray] Tryd.func48 rfl rfl (by simp) (BZ (by simp) (by simp) (by simp)) ?_
 show JC _ _ _ [(0, .agg (cu8 key).toArray), (1, .agg ([U64 pv, U64 ep, I64 k, .slice ai ni ci, .slice sa ns sc, U64 bl] ++ cu8 tg).toArray)] _
 refine AI (AD (A1 (CW (.agg (cu8 key).toArray) (cu8 key) rfl (by first | rfl | simp)) rfl ?_))
 rintro v1 L1 ⟨nb1, hnb1, rfl, rfl⟩
 show JL _ _ _ _ ((2, Ptr nb1 0) :: _) [⟨nb1, cu8 key, 54, (0, 0)⟩]
 refine A1 (CW (.agg ([U64 pv, U64 ep, I64 k, .slice ai ni ci, .slice sa ns sc, U64 bl] ++ cu8 tg).toArray) ([U64 pv, U64 ep, I64 k, .slice ai ni ci, .slice sa ns sc, U64 bl] ++ cu8 tg) rfl (by first | rfl | simp)) rfl ?_
 rintro v1 L1 ⟨nb2, hnb2, rfl, rfl⟩
 show JL _ _ _ _ ((3, Ptr nb2 0) :: _) [_, ⟨nb2, [U64 pv, U64 ep, I64 k, .slice ai ni ci, .slice sa ns sc, U64 bl] ++ cu8 tg, 29, (0, 0)⟩]
 refine AA _ (AG rfl) rfl ?_
 refine AN (AE (AI (AD (AA (.agg ([U64 pv, U64 ep, I64 k, .slice ai ni ci, .slice sa ns sc, U64 bl] ++ cu8 tg).toArray) (AK rfl (BH A9 AT (by simp [htg]) (AS 1 rfl (AL _)))) rfl ?_))))
 refine A1 (BI 114 [.agg ([U64 pv, U64 ep, I64 k, .slice ai ni ci, .slice sa ns sc, U64 bl] ++ cu8 tg).toArray] _ (AY _ Tryd.call114 rfl) (fun w1 hw1 => text_w pv ep k ai ni ci l sa ns sc ls bl tg tot w1 hl (by omega) (by omega) (by omega) (EG hw1 rfl hv) hls (by omega) (by omega) (by omega) (EG hw1 rfl hs) htg hmay hk hsm htot)) rfl ?_
 rintro v1 L1 ⟨_, ⟨nb3, sp1, cp1, rfl, rfl, hc1, hc2, hc3⟩, rfl⟩
 show JL _ _ _ _ ((9, .tuple #[Slc nb3 0 tot cp1, .nilIface]) :: _) [_, _, ⟨nb3, cu8 (tktT pv ep k l ls bl) ++ sp1, 5, (0, 0)⟩]
 refine AA _ (AH rfl) rfl ?_
 refine AA _ (B4 rfl rfl) rfl ?_
 refine AA _ (B4 rfl rfl) rfl ?_
 refine AA _ (AG rfl) rfl ?_
 refine AA _ (AG rfl) rfl ?_
 refine AN (AE (AI (BY (AI (AD (AA _ (AH rfl) rfl ?_))))))
 refine AA (.bool false) (C2 _ _ _ rfl rfl (fun _ => EA ..) fun _ => DC A6) rfl ?_
 refine AA _ (AG rfl) rfl ?_
 refine AN (AE (CK _ rfl rfl ?_))
 refine AI (C1 25 3 [(0, Ptr nb2 6), (1, Slc nb2 6 16 16), (2, Slc nb1 0 32 32), (3, Slc nb3 0 tot cp1)] BV rfl (by decide +kernel) ?_)
 refine CR ⟨[], [0, 1, 2, 3], [], [0, 1, 2, 3], [4]⟩ 4 _ rfl rfl (by decide +kernel) rfl ⟨⟨_, rfl, AC rfl (AB 6 27 16 AO rfl BE rfl rfl)⟩, ⟨_, rfl, AC rfl (B3 16 5 1 0 16 6 16 BJ AW rfl rfl rfl (by omega) (by omega) (by omega) (by omega) (by omega) 16 (by omega))⟩, ⟨_, rfl, AC rfl (B3 32 5 1 0 32 0 32 B9 AW rfl rfl rfl (by omega) (by omega) (by omega) (by omega) (by omega) 32 (by omega))⟩, A2 rfl rfl rfl, trivial⟩ rfl (AZ rfl (B0 43 1 _ [(0, Slc nb3 0 tot cp1)] ([Slc nb3 0 tot cp1]) ER B7 Tryd.zeroValue43 rfl rfl rfl (by kernel_rfl))) ?_
 rintro v1 L1 ⟨nb4, hnb4, rfl, rfl⟩
 refine ⟨[], ?_⟩
 show DP _ _ _ _ _ _ _ _ [_, _, _, ⟨nb4, [Slc nb3 0 tot cp1], 43, (0, 0)⟩]
 refine CR ⟨[4], [0, 1, 2, 3], [3], [0, 1, 2], [5]⟩ 5 _ rfl rfl (by decide +kernel) rfl ⟨⟨_, rfl, AC rfl (AB 6 27 16 AO rfl BE rfl rfl)⟩, ⟨_, rfl, AC rfl (B3 16 5 1 0 16 6 16 BJ AW rfl rfl rfl (by omega) (by omega) (by omega) (by omega) (by omega) 16 (by omega))⟩, ⟨_, rfl, AC rfl (B3 32 5 1 0 32 0 32 B9 AW rfl rfl rfl (by omega) (by omega) (by omega) (by omega) (by omega) 32 (by omega))⟩, trivial⟩ rfl (AZ rfl (A3 107 [Slc nb2 6 16 16, Slc nb1 0 32 32, Slc nb4 0 1 1] (.bool (decide (tg = macL key ([tktT pv ep k l ls bl].flatten)) || decide (tg = mid (macL key ([tktT pv ep k l ls bl].flatten)) 0 16))) (AY _ Tryd.call107 rfl) (fun w1 hw1 => check_c (some ⟨nb2, 6, none⟩) 16 16 tg (some ⟨nb1, 0, none⟩) 32 32 key nb4 1 [Slc nb3 0 tot cp1] [tktT pv ep k l ls bl] w1 htg (by omega) (RdB.of hw1 (AS 1 rfl (Seg.right 6 0 rfl rfl (AL _))) (by simp)) hk32 (fun h => by cases h) (by omega) (RdB.of hw1 (AS 0 rfl (AL _)) (by simp)) (by simp) (by simp) (by simp) ⟨RdA.of hw1 (AS 3 rfl (Seg.head)) (by simp), ⟨⟨(some ⟨nb3, 0, none⟩), cp1, congrArg (fun n => Value.slice (some ⟨nb3, 0, none⟩) n cp1) ((show (tktT pv ep k l ls bl).length = tot from ((EX hl hls).trans htot))).symm, (RdB.of hw1 (AS 2 rfl (A4 (AL _))) (by simp))⟩, trivial⟩⟩ (by simp only [List.flatten_cons, List.flatten_nil, List.length_append, List.length_nil, (show (tktT pv ep k l ls bl).length = tot from ((EX hl hls).trans htot))]; omega) (hG.at hw1)))) ?_
 rintro v1 L1 ⟨rfl, rfl⟩
 refine ⟨[(6, .bool (!(decide (tg = macL key ([tktT pv ep k l ls bl].flatten)) || decide (tg = mid (macL key ([tktT pv ep k l ls bl].flatten)) 0 16)))), (7, .bool (!(decide (tg = macL key ([tktT pv ep k l ls bl].flatten)) || decide (tg = mid (macL key ([tktT pv ep k l ls bl].flatten)) 0 16))))], ?_⟩
 show DP _ _ _ _ _ _ _ _ [_, _, _, _]
 refine C4 ⟨[4, 5], [0, 1, 2, 3, 6, 7], [0, 1, 2, 3], [6, 7], []⟩ rfl rfl (by decide +kernel) rfl ⟨⟨_, rfl, AC rfl (FH rfl)⟩, ⟨_, rfl, AC rfl (AG rfl)⟩, trivial⟩ ?_
 refine CI (F' := [(16, .bool (!(decide (tg = macL key ([tktT pv ep k l ls bl].flatten)) || decide (tg = mid (macL key ([tktT pv ep k l ls bl].flatten)) 0 16)))), (4, .nilIface)]) (by kernel_rfl) ?_
 refine AE (CK _ rfl (by rw [show ((decide (tg = macL key ([tktT pv ep k l ls bl].flatten)) || decide (tg = mid (macL key ([tktT pv ep k l ls bl].flatten)) 0 16))) = true from (by rw [chk_tk _ _ _ _ _ _ _ htg]; exact decide_eq_true hau)] <;> rfl) ?_)
 refine BT (BO (AE (AI (AD (AA _ (AG rfl) rfl ?_)))))
 refine AN (AE (BP (CH [false, false, false, false] ?_)))
 show JQ _ _ _ _ []
 refine BQ (.nilIface) (res1 Tryd.results48 (B2 rfl)) fun w1 hw1 => ?_
 exact ⟨_, [], rfl, ⟨rfl, rfl⟩, hw1.sub (by simp) (by simp)⟩
theorem chkA_c (key : List UInt8) (pv ep : UInt64) (k : Nat) (ai : Option Addr) (ni ci : Nat) (l : List UInt64) (sa : Option Addr) (ns sc : Nat) (ls : List SealR) (bl : UInt64) (tg : List UInt8) (tot : Nat)  (w : World) (hk32 : key.length = 32) (hl : l.length = ni) (hnm : ni ≤ 2000000) (hnc : ni ≤ ci) (hcm : ci ≤ maxLen) (hv : RdV w ai (cu64 l)) (hls : ls.length = ns) (hnn : ns ≤ 2000000) (hnd : ns ≤ sc) (hcn : sc ≤ maxLen) (hs : RdV w sa (ls.flatMap sealC)) (htg : tg.length = 16) (hmay : mayN pv ep (k:Int) l ls bl = 0) (hk : k = 1 ∨ k = 2 ∨ k = 3) (hsm : ns ≤ 300) (htot : tktN k ni ns = tot) (htb : tot ≤ 30000) (hG : GLs w) (hau : ¬ tg = tkG key pv ep k l ls bl)  : Calls Tryd.prog 48 #[.agg (cu8 key).toArray, .agg ([U64 pv, U64 ep, I64 k, .slice ai ni ci, .slice sa ns sc, U64 bl] ++ cu8 tg).toArray] w (Post w [] (fun v L => v = .iface 50 (I64 4) ∧ L = [])) := by
 have hmx : maxLen = 9223372036854775807 := rfl
 refine enter (P := Tryd.prog) (f := 48) (fn := Tryd.f48) w [] 25 [] [.agg (cu8 key).toArray, .agg ([U64 pv, U64 ep, I64 k, .slice ai ni ci, .slice sa ns sc, U64 bl] ++ cu8 tg).toArray] Tryd.func48 rfl rfl (by simp) (BZ (by simp) (by simp) (by simp)) ?_
 show JC _ _ _ [(0, .agg (cu8 key).toArray), (1, .agg ([U64 pv, U64 ep, I64 k, .slice ai ni ci, .slice sa ns sc, U64 bl] ++ cu8 tg).toArray)] _
 refine AI (AD (A1 (CW (.agg (cu8 key).toArray) (cu8 key) rfl (by first | rfl | simp)) rfl ?_))
 rintro v1 L1 ⟨nb1, hnb1, rfl, rfl⟩
 show JL _ _ _ _ ((2, Ptr nb1 0) :: _) [⟨nb1, cu8 key, 54, (0, 0)⟩]
 refine A1 (CW (.agg ([U64 pv, U64 ep, I64 k, .slice ai ni ci, .slice sa ns sc, U64 bl] ++ cu8 tg).toArray) ([U64 pv, U64 ep, I64 k, .slice ai ni ci, .slice sa ns sc, U64 bl] ++ cu8 tg) rfl (by first | rfl | simp)) rfl ?_
 rintro v1 L1 ⟨nb2, hnb2, rfl, rfl⟩
 show JL _ _ _ _ ((3, Ptr nb2 0) :: _) [_, ⟨nb2, [U64 pv, U64 ep, I64 k, .slice ai ni ci, .slice sa ns sc, U64 bl] ++ cu8 tg, 29, (0, 0)⟩]
 refine AA _ (AG rfl) rfl ?_
 refine AN (AE (AI (AD (AA (.agg ([U64 pv, U64 ep, I64 k, .slice ai ni ci, .slice sa ns sc, U64 bl] ++ cu8 tg).toArray) (AK rfl (BH A9 AT (by simp [htg]) (AS 1 rfl (AL _)))) rfl ?_))))
 refine A1 (BI 114 [.agg ([U64 pv, U64 ep, I64 k, .slice ai ni ci, .slice sa ns sc, U64 bl] ++ cu8 tg).toArray] _ (AY _ Tryd.call114 rfl) (fun w1 hw1 => text_w pv ep k ai ni ci l sa ns sc ls bl tg tot w1 hl (by omega) (by omega) (by omega) (EG hw1 rfl hv) hls (by omega) (by omega) (by omega) (EG hw1 rfl hs) htg hmay hk hsm htot)) rfl ?_
 rintro v1 L1 ⟨_, ⟨nb3, sp1, cp1, rfl, rfl, hc1, hc2, hc3⟩, rfl⟩
 show JL _ _ _ _ ((9, .tuple #[Slc nb3 0 tot cp1, .nilIface]) :: _) [_, _, ⟨nb3, cu8 (tktT pv ep k l ls bl) ++ sp1, 5, (0, 0)⟩]
 refine AA _ (AH rfl) rfl ?_
 refine AA _ (B4 rfl rfl) rfl ?_
 refine AA _ (B4 rfl rfl) rfl ?_
 refine AA _ (AG rfl) rfl ?_
 refine AA _ (AG rfl) rfl ?_
 refine AN (AE (AI (BY (AI (AD (AA _ (AH rfl) rfl ?_))))))
 refine AA (.bool false) (C2 _ _ _ rfl rfl (fun _ => EA ..) fun _ => DC A6) rfl ?_
 refine AA _ (AG rfl) rfl ?_
 refine AN (AE (CK _ rfl rfl ?_))
 refine AI (C1 25 3 [(0, Ptr nb2 6), (1, Slc nb2 6 16 16), (2, Slc nb1 0 32 32), (3, Slc nb3 0 tot cp1)] BV rfl (by decide +kernel) ?_)
 refine CR ⟨[], [0, 1, 2, 3], [], [0, 1, 2, 3], [4]⟩ 4 _ rfl rfl (by decide +kernel) rfl ⟨⟨_, rfl, AC rfl (AB 6 27 16 AO rfl BE rfl rfl)⟩, ⟨_, rfl, AC rfl (B3 16 5 1 0 16 6 16 BJ AW rfl rfl rfl (by omega) (by omega) (by omega) (by omega) (by omega) 16 (by omega))⟩, ⟨_, rfl, AC rfl (B3 32 5 1 0 32 0 32 B9 AW rfl rfl rfl (by omega) (by omega) (by omega) (by omega) (by omega) 32 (by omega))⟩, A2 rfl rfl rfl, trivial⟩ rfl (AZ rfl (B0 43 1 _ [(0, Slc nb3 0 tot cp1)] ([Slc nb3 0 tot cp1]) ER B7 Tryd.zeroValue43 rfl rfl rfl (by kernel_rfl))) ?_
 rintro v1 L1 ⟨nb4, hnb4, rfl, rfl⟩
 refine ⟨[], ?_⟩
 show DP _ _ _ _ _ _ _ _ [_, _, _, ⟨nb4, [Slc nb3 0 tot cp1], 43, (0, 0)⟩]
 refine CR ⟨[4], [0, 1, 2, 3], [3], [0, 1, 2], [5]⟩ 5 _ rfl rfl (by decide +kernel) rfl ⟨⟨_, rfl, AC rfl (AB 6 27 16 AO rfl BE rfl rfl)⟩, ⟨_, rfl, AC rfl (B3 16 5 1 0 16 6 16 BJ AW rfl rfl rfl (by omega) (by omega) (by omega) (by omega) (by omega) 16 (by omega))⟩, ⟨_, rfl, AC rfl (B3 32 5 1 0 32 0 32 B9 AW rfl rfl rfl (by omega) (by omega) (by omega) (by omega) (by omega) 32 (by omega))⟩, trivial⟩ rfl (AZ rfl (A3 107 [Slc nb2 6 16 16, Slc nb1 0 32 32, Slc nb4 0 1 1] (.bool (decide (tg = macL key ([tktT pv ep k l ls bl].flatten)) || decide (tg = mid (macL key ([tktT pv ep k l ls bl].flatten)) 0 16))) (AY _ Tryd.call107 rfl) (fun w1 hw1 => check_c (some ⟨nb2, 6, none⟩) 16 16 tg (some ⟨nb1, 0, none⟩) 32 32 key nb4 1 [Slc nb3 0 tot cp1] [tktT pv ep k l ls bl] w1 htg (by omega) (RdB.of hw1 (AS 1 rfl (Seg.right 6 0 rfl rfl (AL _))) (by simp)) hk32 (fun h => by cases h) (by omega) (RdB.of hw1 (AS 0 rfl (AL _)) (by simp)) (by simp) (by simp) (by simp) ⟨RdA.of hw1 (AS 3 rfl (Seg.head)) (by simp), ⟨⟨(some ⟨nb3, 0, none⟩), cp1, congrArg (fun n => Value.slice (some ⟨nb3, 0, none⟩) n cp1) ((show (tktT pv ep k l ls bl).length = tot from ((EX hl hls).trans htot))).symm, (RdB.of hw1 (AS 2 rfl (A4 (AL _))) (by simp))⟩, trivial⟩⟩ (by simp only [List.flatten_cons, List.flatten_nil, List.length_append, List.length_nil, (show (tktT pv ep k l ls bl).length = tot from ((EX hl hls).trans htot))]; omega) (hG.at hw1)))) ?_
 rintro v1 L1 ⟨rfl, rfl⟩
 refine ⟨[(6, .bool (!(decide (tg = macL key ([tktT pv ep k l ls bl].flatten)) || decide (tg = mid (macL key ([tktT pv ep k l ls bl].flatten)) 0 16)))), (7, .bool (!(decide (tg = macL key ([tktT pv ep k l ls bl].flatten)) || decide (tg = mid (macL key ([tktT pv ep k l ls bl].flatten)) 0 16))))], ?_⟩
 show DP _ _ _ _ _ _ _ _ [_, _, _, _]
 refine C4 ⟨[4, 5], [0, 1, 2, 3, 6, 7], [0, 1, 2, 3], [6, 7], []⟩ rfl rfl (by decide +kernel) rfl ⟨⟨_, rfl, AC rfl (FH rfl)⟩, ⟨_, rfl, AC rfl (AG rfl)⟩, trivial⟩ ?_
 refine CI (F' := [(16, .bool (!(decide (tg = macL key ([tktT pv ep k l ls bl].flatten)) || decide (tg = mid (macL key ([tktT pv ep k l ls bl].flatten)) 0 16)))), (4, .nilIface)]) (by kernel_rfl) ?_
 refine AE (DJ _ rfl (by rw [show ((decide (tg = macL key ([tktT pv ep k l ls bl].flatten)) || decide (tg = mid (macL key ([tktT pv ep k l ls bl].flatten)) 0 16))) = false from (by rw [chk_tk _ _ _ _ _ _ _ htg]; exact decide_eq_false hau)] <;> rfl) ?_)
 refine AI (AD (AA (.iface 50 (I64 4)) (FF DA rfl rfl) rfl ?_))
 refine AA _ (AG rfl) rfl ?_
 refine AN (AE (BP (DV (BN (CH [false, false, false, false] ?_)))))
 show JQ _ _ _ _ []
 refine BQ (.iface 50 (I64 4)) (res1 Tryd.results48 (B2 rfl)) fun w1 hw1 => ?_
 exact ⟨_, [], rfl, ⟨rfl, rfl⟩, hw1.sub (by simp) (by simp)⟩
theorem chk_w (key : List UInt8) (pv ep : UInt64) (k : Nat) (ai : Option Addr) (ni ci : Nat) (l : List UInt64) (sa : Option Addr) (ns sc : Nat) (ls : List SealR) (bl : UInt64) (tg : List UInt8) (tot : Nat) (w : World) (hk32 : key.length = 32) (hl : l.length = ni) (hnm : ni ≤ 2000000) (hnc : ni ≤ ci) (hcm : ci ≤ maxLen) (hv : RdV w ai (cu64 l)) (hls : ls.length = ns) (hnn : ns ≤ 2000000) (hnd : ns ≤ sc) (hcn : sc ≤ maxLen) (hs : RdV w sa (ls.flatMap sealC)) (htg : tg.length = 16) (hmay : mayN pv ep (k:Int) l ls bl = 0) (hk : k = 1 ∨ k = 2 ∨ k = 3) (hsm : ns ≤ 300) (htot : tktN k ni ns = tot) (htb : tot ≤ 30000) (hG : GLs w) : Calls Tryd.prog 48 #[.agg (cu8 key).toArray, .agg ([U64 pv, U64 ep, I64 k, .slice ai ni ci, .slice sa ns sc, U64 bl] ++ cu8 tg).toArray] w (Post w [] (fun v L => v = errV 50 (chkG key pv ep k l ls bl tg) ∧ L = [])) := by
  by_cases hau : tg = tkG key pv ep k l ls bl
  · unfold chkG; rw [if_pos hau]
    exact chkK_c key pv ep k ai ni ci l sa ns sc ls bl tg tot w hk32 hl hnm hnc hcm hv hls hnn hnd hcn hs htg hmay hk hsm htot htb hG hau
  · unfold chkG; rw [if_neg hau]
    exact chkA_c key pv ep k ai ni ci l sa ns sc ls bl tg tot w hk32 hl hnm hnc hcm hv hls hnn hnd hcn hs htg hmay hk hsm htot htb hG hau
theorem rtag13_c (key : List UInt8) (pv ep : UInt64) (k : Nat) (ai : Option Addr) (ni ci : Nat) (l : List UInt64) (sa : Option Addr) (ns sc : Nat) (ls : List SealR) (bl : UInt64) (tg : List UInt8) (tot : Nat)  (w : World) (hk32 : key.length = 32) (hl : l.length = ni) (hnm : ni ≤ 2000000) (hnc : ni ≤ ci) (hcm : ci ≤ maxLen) (hv : RdV w ai (cu64 l)) (hls : ls.length = ns) (hnn : ns ≤ 2000000) (hnd : ns ≤ sc) (hcn : sc ≤ maxLen) (hs : RdV w sa (ls.flatMap sealC)) (htg : tg.length = 16) (hmay : mayN pv ep (k:Int) l ls bl = 0) (hk : k = 1 ∨ k = 2 ∨ k = 3) (hsm : ns ≤ 300) (htot : tktN k ni ns = tot) (htb : tot ≤ 30000) (hGr : GLr w) (hGi : GLi w)  : Calls Tryd.prog 50 #[.agg (cu8 key).toArray, .agg ([U64 pv, U64 ep, I64 k, .slice ai ni ci, .slice sa ns sc, U64 bl] ++ cu8 tg).toArray] w (Post w [] (fun v L => v = .agg (cu8 (tkG key pv ep k l ls bl)).toArray ∧ L = [])) := by
 have hmx : maxLen = 9223372036854775807 := rfl
 refine enter (P := Tryd.prog) (f := 50) (fn := Tryd.f50) w [] 15 [] [.agg (cu8 key).toArray, .agg ([U64 pv, U64 ep, I64 k, .slice ai ni ci, .slice sa ns sc, U64 bl] ++ cu8 tg).toArray] Tryd.func50 rfl rfl (by simp) (BZ (by simp) (by simp) (by simp)) ?_
 show JC _ _ _ [(0, .agg (cu8 key).toArray), (1, .agg ([U64 pv, U64 ep, I64 k, .slice ai ni ci, .slice sa ns sc, U64 bl] ++ cu8 tg).toArray)] _
 refine AI (AD (A1 (CW (.agg (cu8 key).toArray) (cu8 key) rfl (by first | rfl | simp)) rfl ?_))
 rintro v1 L1 ⟨nb1, hnb1, rfl, rfl⟩
 show JL _ _ _ _ ((2, Ptr nb1 0) :: _) [⟨nb1, cu8 key, 54, (0, 0)⟩]
 refine A1 (CW (.agg ([U64 pv, U64 ep, I64 k, .slice ai ni ci, .slice sa ns sc, U64 bl] ++ cu8 tg).toArray) ([U64 pv, U64 ep, I64 k, .slice ai ni ci, .slice sa ns sc, U64 bl] ++ cu8 tg) rfl (by first | rfl | simp)) rfl ?_
 rintro v1 L1 ⟨nb2, hnb2, rfl, rfl⟩
 show JL _ _ _ _ ((3, Ptr nb2 0) :: _) [_, ⟨nb2, [U64 pv, U64 ep, I64 k, .slice ai ni ci, .slice sa ns sc, U64 bl] ++ cu8 tg, 38, (0, 0)⟩]
 refine A1 (BG _ (cu8 (zr8 16)) Tryd.zeroValue27 (by kernel_rfl)) rfl ?_
 rintro v1 L1 ⟨nb3, hnb3, rfl, rfl⟩
 show JL _ _ _ _ ((4, Ptr nb3 0) :: _) [_, _, ⟨nb3, cu8 (zr8 16), 27, (0, 0)⟩]
 refine AN (AE (AI (C1 15 5 [(0, Slc nb1 0 32 32), (1, .agg ([U64 pv, U64 ep, I64 k, .slice ai ni ci, .slice sa ns sc, U64 bl] ++ cu8 tg).toArray)] BV rfl (by decide +kernel) ?_)))
 refine DP_two ⟨[], [0, 1], [], [0, 1], [2, 4]⟩ 2 4 _ _ rfl rfl (by decide +kernel) rfl ⟨⟨_, rfl, AC rfl (B3 32 5 1 0 32 0 32 B9 AW rfl rfl rfl (by omega) (by omega) (by omega) (by omega) (by omega) 32 (by omega))⟩, ⟨_, rfl, AC rfl (AK rfl (BH Tryd.isAgg38 Tryd.sizeOf38 (by simp [htg]) (AS 1 rfl (AL _))))⟩, trivial⟩ rfl rfl (AZ rfl (BI 117 [.agg ([U64 pv, U64 ep, I64 k, .slice ai ni ci, .slice sa ns sc, U64 bl] ++ cu8 tg).toArray] _ (AY _ Tryd.call117 rfl) (fun w1 hw1 => rtext_w pv ep k ai ni ci l sa ns sc ls bl tg tot w1 hl (by omega) (by omega) (by omega) (EG hw1 rfl hv) hls (by omega) (by omega) (by omega) (EG hw1 rfl hs) htg hmay hk hsm htot))) (AZ rfl (BG _ (cu8 (zr8 32)) DQ (by kernel_rfl))) ?_ ?_
 ·
  rintro v1 L1 ⟨_, ⟨nb4, sp1, cp1, rfl, rfl, hc1, hc2, hc3⟩, rfl⟩
  refine ⟨[], ?_⟩
  show DP _ _ _ _ _ _ _ _ [_, _, _, ⟨nb4, cu8 (tktT pv ep k l ls bl) ++ sp1, 5, (0, 0)⟩]
  refine DP_two ⟨[2], [0, 1], [1], [0], [3, 4]⟩ 3 4 _ _ rfl rfl (by decide +kernel) rfl ⟨⟨_, rfl, AC rfl (B3 32 5 1 0 32 0 32 B9 AW rfl rfl rfl (by omega) (by omega) (by omega) (by omega) (by omega) 32 (by omega))⟩, trivial⟩ rfl rfl (AZ rfl (A3 92 [Slc nb1 0 32 32, Slc nb4 0 tot cp1] (.agg (cu8 (macL key (tktT pv ep k l ls bl))).toArray) (AY _ Tryd.call92 rfl) (fun w1 hw1 => rmac_c (some ⟨nb1, 0, none⟩) 32 32 key (some ⟨nb4, 0, none⟩) tot cp1 (tktT pv ep k l ls bl) w1 hk32 (fun h => by cases h) (by omega) (RdB.of hw1 (AS 0 rfl (AL _)) (by simp)) (show (tktT pv ep k l ls bl).length = tot from ((EX hl hls).trans htot)) (by omega) (RdB.of hw1 (AS 3 rfl (A4 (AL _))) (by simp)) (GLr.at hw1 hGr) (GLi.at hw1 hGi)))) (AZ rfl (BG _ (cu8 (zr8 32)) DQ (by kernel_rfl))) ?_ ?_
  ·
   rintro v1 L1 ⟨rfl, rfl⟩
   refine ⟨[], ?_⟩
   show DP _ _ _ _ _ _ _ _ [_, _, _, _]
   refine CR ⟨[2, 3], [0, 1], [0, 1], [], [4]⟩ 4 _ rfl rfl (by decide +kernel) rfl trivial rfl (AZ rfl (BG _ (cu8 (zr8 32)) DQ (by kernel_rfl))) ?_
   rintro v1 L1 ⟨nb7, hnb7, rfl, rfl⟩
   refine ⟨[], ?_⟩
   show DP _ _ _ _ _ _ _ _ [_, _, _, _, ⟨nb7, cu8 (zr8 32), 54, (0, 0)⟩]
   refine CQ ⟨[2, 3, 4], [0, 1], [0, 1], [], [5]⟩ 5 rfl rfl (by decide +kernel) rfl trivial rfl (AZ rfl (A5 4 nb7 32 (cu8 (zr8 32)) 54 (cu8 (macL key (tktT pv ep k l ls bl))) rfl rfl rfl B1 (CM (EB _ _)) (by first | exact CD | exact D3 | exact D1 | (simp [cu8, cu32, cu64, Value.oneCell']; done)) (by simp [(AP 32)]) (BC (by simp [(AP 32), (EB _ _)])))) ?_
   show DP _ _ _ _ _ _ _ _ [_, _, _, _, ⟨nb7, cu8 (macL key (tktT pv ep k l ls bl)), 54, (0, 0)⟩]
   refine C4 ⟨[2, 3, 4, 5], [0, 1], [0, 1], [], []⟩ rfl rfl (by decide +kernel) rfl trivial ?_
   refine CI (F' := [(5, Ptr nb7 0), (4, Ptr nb3 0)]) (by kernel_rfl) ?_
   refine AE (AI (AD (A1 (BG _ (cu8 (zr8 16)) Tryd.zeroValue27 (by kernel_rfl)) rfl ?_)))
   rintro v1 L1 ⟨nb8, hnb8, rfl, rfl⟩
   show JL _ _ _ _ ((6, Ptr nb8 0) :: _) [_, _, _, _, _, ⟨nb8, cu8 (zr8 16), 27, (0, 0)⟩]
   refine AN (AE (AI (C1 15 2 [(0, Slc nb8 0 16 16), (1, Slc nb7 0 32 32)] BV rfl (by decide +kernel) ?_)))
   have hl1 : (mid (macL key (tktT pv ep k l ls bl)) 0 16).length = 16 := E3 (by rw [(EB _ _)]; omega)
   refine CQ ⟨[], [0, 1], [], [0, 1], [2]⟩ 2 rfl rfl (by decide +kernel) rfl ⟨⟨_, rfl, AC rfl (B3 16 5 1 0 16 0 16 BJ AW rfl rfl rfl (by omega) (by omega) (by omega) (by omega) (by omega) 16 (by omega))⟩, ⟨_, rfl, AC rfl (B3 32 5 1 0 32 0 32 B9 AW rfl rfl rfl (by omega) (by omega) (by omega) (by omega) (by omega) 32 (by omega))⟩, trivial⟩ rfl (AZ rfl (EW 43 43 5 5 nb8 0 16 16 (cu8 (zr8 16)) 27 (some ⟨nb7, 0, none⟩) 32 32 16 (cu8 (mid (macL key (tktT pv ep k l ls bl)) 0 16)) (cu8 (mid (macL key (tktT pv ep k l ls bl)) 0 16)) AM DZ rfl rfl rfl rfl (by simp [hl1]; try omega) (SrcAt.mem (AS 4 rfl (segm_u8 0 16 (by rw [(EB _ _)]; omega)))) (by simp [(AP 16)]; try omega) (by first | exact CD | exact D3 | exact D1 | (simp [cu8, cu32, cu64, Value.oneCell']; done)) (BC (by simp [(AP 16), hl1])))) ?_
   show DP _ _ _ _ _ _ _ _ [_, _, _, _, _, ⟨nb8, cu8 (mid (macL key (tktT pv ep k l ls bl)) 0 16), 27, (0, 0)⟩]
   refine C4 ⟨[2], [0, 1], [0, 1], [], []⟩ rfl rfl (by decide +kernel) rfl trivial ?_
   refine CI (F' := [(4, Ptr nb3 0), (6, Ptr nb8 0)]) (by kernel_rfl) ?_
   refine AE (AI (AD (AA (.agg (cu8 (mid (macL key (tktT pv ep k l ls bl)) 0 16)).toArray) (AK rfl (BH DO BE (CM hl1) (AS 5 rfl (AL _)))) rfl ?_)))
   refine A7 (A5 2 nb3 16 (cu8 (zr8 16)) 27 (cu8 (mid (macL key (tktT pv ep k l ls bl)) 0 16)) rfl rfl rfl BE (CM hl1) (by first | exact CD | exact D3 | exact D1 | (simp [cu8, cu32, cu64, Value.oneCell']; done)) (by simp [(AP 16)]) (BC (by simp [(AP 16), hl1]))) rfl ?_
   show JL _ _ _ _ _ [_, _, ⟨nb3, cu8 (mid (macL key (tktT pv ep k l ls bl)) 0 16), 27, (0, 0)⟩, _, _, _]
   refine AN (AE (BP (CH [false, false, true, false, false, false] ?_)))
   show JQ _ _ _ _ [_]
   refine BQ (.agg (cu8 (mid (macL key (tktT pv ep k l ls bl)) 0 16)).toArray) (res1 Tryd.results50 (DU rfl (BH DO BE (CM hl1) (AS 0 rfl (AL _))))) fun w1 hw1 => ?_
   refine ⟨_, [], rfl, ⟨?_, rfl⟩, hw1.sub (by simp) (by simp)⟩
   first | rfl | (unfold tkG; rfl) | (unfold tkG; simp)
  ·
   rintro v1 L1 ⟨nb6, hnb6, rfl, rfl⟩
   refine ⟨[], ?_⟩
   show DP _ _ _ _ _ _ _ _ [_, _, _, _, ⟨nb6, cu8 (zr8 32), 54, (0, 0)⟩]
   refine CQ ⟨[2, 4], [0, 1], [1], [0], [3]⟩ 3 rfl rfl (by decide +kernel) rfl ⟨⟨_, rfl, AC rfl (B3 32 5 1 0 32 0 32 B9 AW rfl rfl rfl (by omega) (by omega) (by omega) (by omega) (by omega) 32 (by omega))⟩, trivial⟩ rfl (AZ rfl (A3 92 [Slc nb1 0 32 32, Slc nb4 0 tot cp1] (.agg (cu8 (macL key (tktT pv ep k l ls bl))).toArray) (AY _ Tryd.call92 rfl) (fun w1 hw1 => rmac_c (some ⟨nb1, 0, none⟩) 32 32 key (some ⟨nb4, 0, none⟩) tot cp1 (tktT pv ep k l ls bl) w1 hk32 (fun h => by cases h) (by omega) (RdB.of hw1 (AS 0 rfl (AL _)) (by simp)) (show (tktT pv ep k l ls bl).length = tot from ((EX hl hls).trans htot)) (by omega) (RdB.of hw1 (AS 3 rfl (A4 (AL _))) (by simp)) (GLr.at hw1 hGr) (GLi.at hw1 hGi)))) ?_
   show DP _ _ _ _ _ _ _ _ [_, _, _, _, _]
   refine CQ ⟨[2, 4, 3], [0, 1], [0, 1], [], [5]⟩ 5 rfl rfl (by decide +kernel) rfl trivial rfl (AZ rfl (A5 4 nb6 32 (cu8 (zr8 32)) 54 (cu8 (macL key (tktT pv ep k l ls bl))) rfl rfl rfl B1 (CM (EB _ _)) (by first | exact CD | exact D3 | exact D1 | (simp [cu8, cu32, cu64, Value.oneCell']; done)) (by simp [(AP 32)]) (BC (by simp [(AP 32), (EB _ _)])))) ?_
   show DP _ _ _ _ _ _ _ _ [_, _, _, _, ⟨nb6, cu8 (macL key (tktT pv ep k l ls bl)), 54, (0, 0)⟩]
   refine C4 ⟨[2, 4, 3, 5], [0, 1], [0, 1], [], []⟩ rfl rfl (by decide +kernel) rfl trivial ?_
   refine CI (F' := [(5, Ptr nb6 0), (4, Ptr nb3 0)]) (by kernel_rfl) ?_
   refine AE (AI (AD (A1 (BG _ (cu8 (zr8 16)) Tryd.zeroValue27 (by kernel_rfl)) rfl ?_)))
   rintro v1 L1 ⟨nb9, hnb9, rfl, rfl⟩
   show JL _ _ _ _ ((6, Ptr nb9 0) :: _) [_, _, _, _, _, ⟨nb9, cu8 (zr8 16), 27, (0, 0)⟩]
   refine AN (AE (AI (C1 15 2 [(0, Slc nb9 0 16 16), (1, Slc nb6 0 32 32)] BV rfl (by decide +kernel) ?_)))
   have hl2 : (mid (macL key (tktT pv ep k l ls bl)) 0 16).length = 16 := E3 (by rw [(EB _ _)]; omega)
   refine CQ ⟨[], [0, 1], [], [0, 1], [2]⟩ 2 rfl rfl (by decide +kernel) rfl ⟨⟨_, rfl, AC rfl (B3 16 5 1 0 16 0 16 BJ AW rfl rfl rfl (by omega) (by omega) (by omega) (by omega) (by omega) 16 (by omega))⟩, ⟨_, rfl, AC rfl (B3 32 5 1 0 32 0 32 B9 AW rfl rfl rfl (by omega) (by omega) (by omega) (by omega) (by omega) 32 (by omega))⟩, trivial⟩ rfl (AZ rfl (EW 43 43 5 5 nb9 0 16 16 (cu8 (zr8 16)) 27 (some ⟨nb6, 0, none⟩) 32 32 16 (cu8 (mid (macL key (tktT pv ep k l ls bl)) 0 16)) (cu8 (mid (macL key (tktT pv ep k l ls bl)) 0 16)) AM DZ rfl rfl rfl rfl (by simp [hl2]; try omega) (SrcAt.mem (AS 4 rfl (segm_u8 0 16 (by rw [(EB _ _)]; omega)))) (by simp [(AP 16)]; try omega) (by first | exact CD | exact D3 | exact D1 | (simp [cu8, cu32, cu64, Value.oneCell']; done)) (BC (by simp [(AP 16), hl2])))) ?_
   show DP _ _ _ _ _ _ _ _ [_, _, _, _, _, ⟨nb9, cu8 (mid (macL key (tktT pv ep k l ls bl)) 0 16), 27, (0, 0)⟩]
   refine C4 ⟨[2], [0, 1], [0, 1], [], []⟩ rfl rfl (by decide +kernel) rfl trivial ?_
   refine CI (F' := [(4, Ptr nb3 0), (6, Ptr nb9 0)]) (by kernel_rfl) ?_
   refine AE (AI (AD (AA (.agg (cu8 (mid (macL key (tktT pv ep k l ls bl)) 0 16)).toArray) (AK rfl (BH DO BE (CM hl2) (AS 5 rfl (AL _)))) rfl ?_)))
   refine A7 (A5 2 nb3 16 (cu8 (zr8 16)) 27 (cu8 (mid (macL key (tktT pv ep k l ls bl)) 0 16)) rfl rfl rfl BE (CM hl2) (by first | exact CD | exact D3 | exact D1 | (simp [cu8, cu32, cu64, Value.oneCell']; done)) (by simp [(AP 16)]) (BC (by simp [(AP 16), hl2]))) rfl ?_
   show JL _ _ _ _ _ [_, _, ⟨nb3, cu8 (mid (macL key (tktT pv ep k l ls bl)) 0 16), 27, (0, 0)⟩, _, _, _]
   refine AN (AE (BP (CH [false, false, true, false, false, false] ?_)))
   show JQ _ _ _ _ [_]
   refine BQ (.agg (cu8 (mid (macL key (tktT pv ep k l ls bl)) 0 16)).toArray) (res1 Tryd.results50 (DU rfl (BH DO BE (CM hl2) (AS 0 rfl (AL _))))) fun w1 hw1 => ?_
   refine ⟨_, [], rfl, ⟨?_, rfl⟩, hw1.sub (by simp) (by simp)⟩
   first | rfl | (unfold tkG; rfl) | (unfold tkG; simp)
 ·
  rintro v1 L1 ⟨nb5, hnb5, rfl, rfl⟩
  refine ⟨[], ?_⟩
  show DP _ _ _ _ _ _ _ _ [_, _, _, ⟨nb5, cu8 (zr8 32), 54, (0, 0)⟩]
  refine CR ⟨[4], [0, 1], [], [0, 1], [2]⟩ 2 _ rfl rfl (by decide +kernel) rfl ⟨⟨_, rfl, AC rfl (B3 32 5 1 0 32 0 32 B9 AW rfl rfl rfl (by omega) (by omega) (by omega) (by omega) (by omega) 32 (by omega))⟩, ⟨_, rfl, AC rfl (AK rfl (BH Tryd.isAgg38 Tryd.sizeOf38 (by simp [htg]) (AS 1 rfl (AL _))))⟩, trivial⟩ rfl (AZ rfl (BI 117 [.agg ([U64 pv, U64 ep, I64 k, .slice ai ni ci, .slice sa ns sc, U64 bl] ++ cu8 tg).toArray] _ (AY _ Tryd.call117 rfl) (fun w1 hw1 => rtext_w pv ep k ai ni ci l sa ns sc ls bl tg tot w1 hl (by omega) (by omega) (by omega) (EG hw1 rfl hv) hls (by omega) (by omega) (by omega) (EG hw1 rfl hs) htg hmay hk hsm htot))) ?_
  rintro v1 L1 ⟨_, ⟨nb10, sp2, cp2, rfl, rfl, hc4, hc5, hc6⟩, rfl⟩
  refine ⟨[], ?_⟩
  show DP _ _ _ _ _ _ _ _ [_, _, _, _, ⟨nb10, cu8 (tktT pv ep k l ls bl) ++ sp2, 5, (0, 0)⟩]
  refine CQ ⟨[4, 2], [0, 1], [1], [0], [3]⟩ 3 rfl rfl (by decide +kernel) rfl ⟨⟨_, rfl, AC rfl (B3 32 5 1 0 32 0 32 B9 AW rfl rfl rfl (by omega) (by omega) (by omega) (by omega) (by omega) 32 (by omega))⟩, trivial⟩ rfl (AZ rfl (A3 92 [Slc nb1 0 32 32, Slc nb10 0 tot cp2] (.agg (cu8 (macL key (tktT pv ep k l ls bl))).toArray) (AY _ Tryd.call92 rfl) (fun w1 hw1 => rmac_c (some ⟨nb1, 0, none⟩) 32 32 key (some ⟨nb10, 0, none⟩) tot cp2 (tktT pv ep k l ls bl) w1 hk32 (fun h => by cases h) (by omega) (RdB.of hw1 (AS 0 rfl (AL _)) (by simp)) (show (tktT pv ep k l ls bl).length = tot from ((EX hl hls).trans htot)) (by omega) (RdB.of hw1 (AS 4 rfl (A4 (AL _))) (by simp)) (GLr.at hw1 hGr) (GLi.at hw1 hGi)))) ?_
  show DP _ _ _ _ _ _ _ _ [_, _, _, _, _]
  refine CQ ⟨[4, 2, 3], [0, 1], [0, 1], [], [5]⟩ 5 rfl rfl (by decide +kernel) rfl trivial rfl (AZ rfl (A5 3 nb5 32 (cu8 (zr8 32)) 54 (cu8 (macL key (tktT pv ep k l ls bl))) rfl rfl rfl B1 (CM (EB _ _)) (by first | exact CD | exact D3 | exact D1 | (simp [cu8, cu32, cu64, Value.oneCell']; done)) (by simp [(AP 32)]) (BC (by simp [(AP 32), (EB _ _)])))) ?_
  show DP _ _ _ _ _ _ _ _ [_, _, _, ⟨nb5, cu8 (macL key (tktT pv ep k l ls bl)), 54, (0, 0)⟩, _]
  refine C4 ⟨[4, 2, 3, 5], [0, 1], [0, 1], [], []⟩ rfl rfl (by decide +kernel) rfl trivial ?_
  refine CI (F' := [(5, Ptr nb5 0), (4, Ptr nb3 0)]) (by kernel_rfl) ?_
  refine AE (AI (AD (A1 (BG _ (cu8 (zr8 16)) Tryd.zeroValue27 (by kernel_rfl)) rfl ?_)))
  rintro v1 L1 ⟨nb11, hnb11, rfl, rfl⟩
  show JL _ _ _ _ ((6, Ptr nb11 0) :: _) [_, _, _, _, _, ⟨nb11, cu8 (zr8 16), 27, (0, 0)⟩]
  refine AN (AE (AI (C1 15 2 [(0, Slc nb11 0 16 16), (1, Slc nb5 0 32 32)] BV rfl (by decide +kernel) ?_)))
  have hl3 : (mid (macL key (tktT pv ep k l ls bl)) 0 16).length = 16 := E3 (by rw [(EB _ _)]; omega)
  refine CQ ⟨[], [0, 1], [], [0, 1], [2]⟩ 2 rfl rfl (by decide +kernel) rfl ⟨⟨_, rfl, AC rfl (B3 16 5 1 0 16 0 16 BJ AW rfl rfl rfl (by omega) (by omega) (by omega) (by omega) (by omega) 16 (by omega))⟩, ⟨_, rfl, AC rfl (B3 32 5 1 0 32 0 32 B9 AW rfl rfl rfl (by omega) (by omega) (by omega) (by omega) (by omega) 32 (by omega))⟩, trivial⟩ rfl (AZ rfl (EW 43 43 5 5 nb11 0 16 16 (cu8 (zr8 16)) 27 (some ⟨nb5, 0, none⟩) 32 32 16 (cu8 (mid (macL key (tktT pv ep k l ls bl)) 0 16)) (cu8 (mid (macL key (tktT pv ep k l ls bl)) 0 16)) AM DZ rfl rfl rfl rfl (by simp [hl3]; try omega) (SrcAt.mem (AS 3 rfl (segm_u8 0 16 (by rw [(EB _ _)]; omega)))) (by simp [(AP 16)]; try omega) (by first | exact CD | exact D3 | exact D1 | (simp [cu8, cu32, cu64, Value.oneCell']; done)) (BC (by simp [(AP 16), hl3])))) ?_
  show DP _ _ _ _ _ _ _ _ [_, _, _, _, _, ⟨nb11, cu8 (mid (macL key (tktT pv ep k l ls bl)) 0 16), 27, (0, 0)⟩]
  refine C4 ⟨[2], [0, 1], [0, 1], [], []⟩ rfl rfl (by decide +kernel) rfl trivial ?_
  refine CI (F' := [(4, Ptr nb3 0), (6, Ptr nb11 0)]) (by kernel_rfl) ?_
  refine AE (AI (AD (AA (.agg (cu8 (mid (macL key (tktT pv ep k l ls bl)) 0 16)).toArray) (AK rfl (BH DO BE (CM hl3) (AS 5 rfl (AL _)))) rfl ?_)))
  refine A7 (A5 2 nb3 16 (cu8 (zr8 16)) 27 (cu8 (mid (macL key (tktT pv ep k l ls bl)) 0 16)) rfl rfl rfl BE (CM hl3) (by first | exact CD | exact D3 | exact D1 | (simp [cu8, cu32, cu64, Value.oneCell']; done)) (by simp [(AP 16)]) (BC (by simp [(AP 16), hl3]))) rfl ?_
  show JL _ _ _ _ _ [_, _, ⟨nb3, cu8 (mid (macL key (tktT pv ep k l ls bl)) 0 16), 27, (0, 0)⟩, _, _, _]
  refine AN (AE (BP (CH [false, false, true, false, false, false] ?_)))
  show JQ _ _ _ _ [_]
  refine BQ (.agg (cu8 (mid (macL key (tktT pv ep k l ls bl)) 0 16)).toArray) (res1 Tryd.results50 (DU rfl (BH DO BE (CM hl3) (AS 0 rfl (AL _))))) fun w1 hw1 => ?_
  refine ⟨_, [], rfl, ⟨?_, rfl⟩, hw1.sub (by simp) (by simp)⟩
  first | rfl | (unfold tkG; rfl) | (unfold tkG; simp)
theorem DX {w : World} {v0 : Value} {v1 : Value} {v2 : Value} {v3 : Value} (h0 : v0.cells = [v0].toArray) (h1 : v1.cells = [v1].toArray) (h2 : v2.cells = [v2].toArray) (h3 : v3.cells = [v3].toArray) : (Instr.build 26 ([(0, v0), (1, v1), (2, v2), (3, v3)] : List (Nat × Value)).toArray).run Tryd.prog w = .ok (.agg (((([v0] : List Value) ++ ([v1] : List Value)) ++ ([v2] : List Value)) ++ ([v3] : List Value)).toArray) w :=
 E5 (places := #[(0, 1), (1, 1), (2, 1), (3, 1)]) (Z := (([I64 0] : List Value) ++ (([.slice none 0 0] : List Value) ++ (([.slice none 0 0] : List Value) ++ (([U64 0] : List Value) ++ []))))) (fun _ => by kernel_rfl) AF (fun _ => by kernel_rfl) ((F8 ([I64 0] : List Value) (([.slice none 0 0] : List Value) ++ (([.slice none 0 0] : List Value) ++ (([U64 0] : List Value) ++ []))) ([v0] : List Value) h0 (by simp [AP]) rfl).trans ((FO ([v0] : List Value) ([.slice none 0 0] : List Value) (([.slice none 0 0] : List Value) ++ (([U64 0] : List Value) ++ [])) ([v1] : List Value) h1 (by simp [AP]) rfl).trans ((FO (([v0] : List Value) ++ ([v1] : List Value)) ([.slice none 0 0] : List Value) (([U64 0] : List Value) ++ []) ([v2] : List Value) h2 (by simp [AP]) rfl).trans ((FO ((([v0] : List Value) ++ ([v1] : List Value)) ++ ([v2] : List Value)) ([U64 0] : List Value) [] ([v3] : List Value) h3 (by simp [AP]) rfl).trans (by simp [Instr.fill])))))
theorem EH {w : World} {v0 : Value} {v1 : Value} {c2 : List Value} (h0 : v0.cells = [v0].toArray) (h1 : v1.cells = [v1].toArray) (h2 : c2.length = 4) : (Instr.build 29 ([(0, v0), (1, v1), (2, .agg c2.toArray)] : List (Nat × Value)).toArray).run Tryd.prog w = .ok (.agg (((([v0] : List Value) ++ ([v1] : List Value)) ++ c2) ++ (cu8 (zr8 16) : List Value)).toArray) w :=
 E5 (places := #[(0, 1), (1, 1), (2, 4), (6, 16)]) (Z := (([U64 0] : List Value) ++ (([U64 0] : List Value) ++ (([I64 0, .slice none 0 0, .slice none 0 0, U64 0] : List Value) ++ ((cu8 (zr8 16) : List Value) ++ []))))) (fun _ => by kernel_rfl) AO (fun _ => by kernel_rfl) ((F8 ([U64 0] : List Value) (([U64 0] : List Value) ++ (([I64 0, .slice none 0 0, .slice none 0 0, U64 0] : List Value) ++ ((cu8 (zr8 16) : List Value) ++ []))) ([v0] : List Value) h0 (by simp [AP]) rfl).trans ((FO ([v0] : List Value) ([U64 0] : List Value) (([I64 0, .slice none 0 0, .slice none 0 0, U64 0] : List Value) ++ ((cu8 (zr8 16) : List Value) ++ [])) ([v1] : List Value) h1 (by simp [AP]) rfl).trans ((FO (([v0] : List Value) ++ ([v1] : List Value)) ([I64 0, .slice none 0 0, .slice none 0 0, U64 0] : List Value) ((cu8 (zr8 16) : List Value) ++ []) c2 rfl (by simp [AP, h2]) (by simp [h2, AP])).trans ((fill_skip ((([v0] : List Value) ++ ([v1] : List Value)) ++ c2) (cu8 (zr8 16) : List Value) []).trans (by simp [Instr.fill])))))
theorem sign1_c (key : List UInt8) (pv ep : UInt64) (k : Nat) (ai : Option Addr) (ni ci : Nat) (l : List UInt64) (sa : Option Addr) (ns sc : Nat) (ls : List SealR) (bl : UInt64) (tot : Nat)  (w : World) (hk32 : key.length = 32) (hl : l.length = ni) (hnm : ni ≤ 2000000) (hnc : ni ≤ ci) (hcm : ci ≤ maxLen) (hv : RdV w ai (cu64 l)) (hls : ls.length = ns) (hnn : ns ≤ 2000000) (hnd : ns ≤ sc) (hcn : sc ≤ maxLen) (hs : RdV w sa (ls.flatMap sealC)) (hp1 : 0 < ni) (hp0 : 0 < ns) (hmay : mayN pv ep (k:Int) l ls bl = 0) (hk : k = 1) (htot : tktN k ni ns = tot) (htb : tot ≤ 30000) (hsm : ns ≤ 300) (hnb : ni ≤ 300) (hG : GLs w)  : Calls Tryd.prog 46 #[.agg (cu8 key).toArray, U64 pv, U64 ep, .agg #[I64 k, .slice ai ni ci, .slice sa ns sc, U64 bl]] w (Post w [] (fun v L => ∃ g1 sp1 cp1 g2 sp2 cp2, v = .tuple #[.agg ([U64 pv, U64 ep, I64 k, Slc g1 0 ni cp1, Slc g2 0 ns cp2, U64 bl] ++ cu8 (tkG key pv ep k l ls bl)).toArray, .nilIface] ∧ L = [⟨g1, cu64 l ++ sp1, 22, (0, 0)⟩, ⟨g2, ls.flatMap sealC ++ sp2, 161, (0, 0)⟩] ∧ sp1.length = cp1 - ni ∧ ni ≤ cp1 ∧ cp1 ≤ maxLen ∧ sp2.length = cp2 * 49 - ns * 49 ∧ ns ≤ cp2 ∧ cp2 ≤ maxLen)) := by
 have hmx : maxLen = 9223372036854775807 := rfl
 refine enter (P := Tryd.prog) (f := 46) (fn := Tryd.f46) w [] 44 [] [.agg (cu8 key).toArray, U64 pv, U64 ep, .agg #[I64 k, .slice ai ni ci, .slice sa ns sc, U64 bl]] Tryd.func46 rfl rfl (by simp) (BZ (by simp) (by simp) (by simp)) ?_
 show JC _ _ _ [(0, .agg (cu8 key).toArray), (1, U64 pv), (2, U64 ep), (3, .agg #[I64 k, .slice ai ni ci, .slice sa ns sc, U64 bl])] _
 refine AI (AD (A1 (CW (.agg (cu8 key).toArray) (cu8 key) rfl (by first | rfl | simp)) rfl ?_))
 rintro v1 L1 ⟨nb1, hnb1, rfl, rfl⟩
 show JL _ _ _ _ ((4, Ptr nb1 0) :: _) [⟨nb1, cu8 key, 54, (0, 0)⟩]
 refine A1 (CW (.agg #[I64 k, .slice ai ni ci, .slice sa ns sc, U64 bl]) ([I64 k, .slice ai ni ci, .slice sa ns sc, U64 bl]) rfl (by first | rfl | simp)) rfl ?_
 rintro v1 L1 ⟨nb2, hnb2, rfl, rfl⟩
 show JL _ _ _ _ ((7, Ptr nb2 0) :: _) [_, ⟨nb2, [I64 k, .slice ai ni ci, .slice sa ns sc, U64 bl], 26, (0, 0)⟩]
 refine A1 (BG _ ([U64 0, U64 0, I64 0, .slice none 0 0, .slice none 0 0, U64 0] ++ cu8 (zr8 16)) BK (by kernel_rfl)) rfl ?_
 rintro v1 L1 ⟨nb3, hnb3, rfl, rfl⟩
 show JL _ _ _ _ ((8, Ptr nb3 0) :: _) [_, _, ⟨nb3, [U64 0, U64 0, I64 0, .slice none 0 0, .slice none 0 0, U64 0] ++ cu8 (zr8 16), 29, (0, 0)⟩]
 refine AA _ (AG rfl) rfl ?_
 refine AN (AE (AI (JC_cut (ι := Nat × Nat × Nat × Nat × Nat × List Value × List Value) (fun ⟨ynb0, ynb1, ycp2, ynb3, ycp4, ysp5, ysp6⟩ => [(4, Ptr nb1 0), (8, Ptr nb3 0), (9, .nilIface), (10, Ptr ynb0 0)]) (fun ⟨ynb0, ynb1, ycp2, ynb3, ycp4, ysp5, ysp6⟩ => [⟨nb1, cu8 key, 54, (0, 0)⟩, ⟨nb3, [U64 0, U64 0, I64 0, .slice none 0 0, .slice none 0 0, U64 0] ++ cu8 (zr8 16), 29, (0, 0)⟩, ⟨ynb1, cu64 l ++ ysp5, 22, (0, 0)⟩, ⟨ynb3, ls.flatMap sealC ++ ysp6, 161, (0, 0)⟩, ⟨ynb0, [U64 pv, U64 ep, I64 k, Slc ynb1 0 ni ycp2, Slc ynb3 0 ns ycp4, U64 bl] ++ cu8 (zr8 16), 29, (0, 0)⟩]) (fun ⟨ynb0, ynb1, ycp2, ynb3, ycp4, ysp5, ysp6⟩ => ysp5.length = (ycp2 - ni) ∧ ni ≤ ycp2 ∧ ycp2 ≤ maxLen ∧ ysp6.length = (49*ycp4 - 49*ns) ∧ ns ≤ ycp4 ∧ ycp4 ≤ maxLen) ?_ ?_)))
 ·
  refine C1 44 5 [(0, U64 pv), (1, U64 ep), (2, Ptr nb2 0), (3, I64 k), (4, Ptr nb2 1), (5, .slice ai ni ci), (7, Ptr nb2 2), (8, .slice sa ns sc), (10, Ptr nb2 3), (11, U64 bl)] BV rfl (by decide +kernel) ?_
  refine DP_two ⟨[], [0, 1, 2, 3, 4, 5, 7, 8, 10, 11], [], [0, 1, 2, 3, 4, 5, 7, 8, 10, 11], [6, 14]⟩ 6 14 _ _ rfl rfl (by decide +kernel) rfl ⟨A2 rfl rfl rfl, A2 rfl rfl rfl, ⟨_, rfl, AC rfl (AB 0 3 1 AF rfl BA rfl rfl)⟩, ⟨_, rfl, AC rfl (AK rfl (AV BF (AS 1 rfl (Seg.head))))⟩, ⟨_, rfl, AC rfl (AB 1 23 1 AF rfl CB rfl rfl)⟩, ⟨_, rfl, AC rfl (AK rfl (AV CP (AS 1 rfl (AJ (Seg.head)))))⟩, ⟨_, rfl, AC rfl (AB 2 24 1 AF rfl BL rfl rfl)⟩, ⟨_, rfl, AC rfl (AK rfl (AV BW (AS 1 rfl (AJ (AJ (Seg.head))))))⟩, ⟨_, rfl, AC rfl (AB 3 22 1 AF rfl AU rfl rfl)⟩, ⟨_, rfl, AC rfl (AK rfl (AV AX (AS 1 rfl (AJ (AJ (AJ (Seg.head)))))))⟩, trivial⟩ rfl rfl (AZ rfl (BI 112 [.slice ai ni ci] _ (AY _ EY rfl) (fun w1 hw1 => GB ai ni ci l w1 hl (by omega) (by omega) (by omega) (EG hw1 rfl hv) (by omega)))) (AZ rfl (BG _ ([U64 0, U64 0, I64 0, .slice none 0 0, .slice none 0 0, U64 0] ++ cu8 (zr8 16)) BK (by kernel_rfl))) ?_ ?_
  ·
   rintro v1 L1 ⟨_, ⟨nb4, sp1, cp1, rfl, rfl, hc1, hc2, hc3⟩, rfl⟩
   refine ⟨[], ?_⟩
   show DP _ _ _ _ _ _ _ _ [_, _, _, ⟨nb4, cu64 l ++ sp1, 22, (0, 0)⟩]
   refine DP_two ⟨[6], [0, 1, 2, 3, 4, 5, 7, 8, 10, 11], [4, 5], [0, 1, 2, 3, 7, 8, 10, 11], [9, 14]⟩ 9 14 _ _ rfl rfl (by decide +kernel) rfl ⟨A2 rfl rfl rfl, A2 rfl rfl rfl, ⟨_, rfl, AC rfl (AB 0 3 1 AF rfl BA rfl rfl)⟩, ⟨_, rfl, AC rfl (AK rfl (AV BF (AS 1 rfl (Seg.head))))⟩, ⟨_, rfl, AC rfl (AB 2 24 1 AF rfl BL rfl rfl)⟩, ⟨_, rfl, AC rfl (AK rfl (AV BW (AS 1 rfl (AJ (AJ (Seg.head))))))⟩, ⟨_, rfl, AC rfl (AB 3 22 1 AF rfl AU rfl rfl)⟩, ⟨_, rfl, AC rfl (AK rfl (AV AX (AS 1 rfl (AJ (AJ (AJ (Seg.head)))))))⟩, trivial⟩ rfl rfl (AZ rfl (BI 113 [.slice sa ns sc] _ (AY _ D5 rfl) (fun w1 hw1 => GF sa ns sc ls w1 hls (by omega) (by omega) (by omega) (EG hw1 rfl hs) (by omega)))) (AZ rfl (BG _ ([U64 0, U64 0, I64 0, .slice none 0 0, .slice none 0 0, U64 0] ++ cu8 (zr8 16)) BK (by kernel_rfl))) ?_ ?_
   ·
    rintro v1 L1 ⟨_, ⟨nb6, sp2, cp2, rfl, rfl, hc4, hc5, hc6⟩, rfl⟩
    refine ⟨[(12, .agg #[I64 k, Slc nb4 0 ni cp1, Slc nb6 0 ns cp2, U64 bl]), (13, .agg ([U64 pv, U64 ep, I64 k, Slc nb4 0 ni cp1, Slc nb6 0 ns cp2, U64 bl] ++ cu8 (zr8 16)).toArray)], ?_⟩
    show DP _ _ _ _ _ _ _ _ [_, _, _, _, ⟨nb6, ls.flatMap sealC ++ sp2, 161, (0, 0)⟩]
    refine CR ⟨[6, 9], [0, 1, 2, 3, 4, 5, 7, 8, 10, 11, 12, 13], [4, 5, 7, 8], [0, 1, 2, 3, 10, 11, 12, 13], [14]⟩ 14 _ rfl rfl (by decide +kernel) rfl ⟨A2 rfl rfl rfl, A2 rfl rfl rfl, ⟨_, rfl, AC rfl (AB 0 3 1 AF rfl BA rfl rfl)⟩, ⟨_, rfl, AC rfl (AK rfl (AV BF (AS 1 rfl (Seg.head))))⟩, ⟨_, rfl, AC rfl (AB 3 22 1 AF rfl AU rfl rfl)⟩, ⟨_, rfl, AC rfl (AK rfl (AV AX (AS 1 rfl (AJ (AJ (AJ (Seg.head)))))))⟩, ⟨_, rfl, AC rfl (B8 [(0, I64 k), (1, Slc nb4 0 ni cp1), (2, Slc nb6 0 ns cp2), (3, U64 bl)] _ rfl (fun _ => DX rfl rfl rfl rfl))⟩, ⟨_, rfl, AC rfl (B8 [(0, U64 pv), (1, U64 ep), (2, .agg #[I64 k, Slc nb4 0 ni cp1, Slc nb6 0 ns cp2, U64 bl])] _ rfl (fun _ => EH rfl rfl (by simp [AP])))⟩, trivial⟩ rfl (AZ rfl (BG _ ([U64 0, U64 0, I64 0, .slice none 0 0, .slice none 0 0, U64 0] ++ cu8 (zr8 16)) BK (by kernel_rfl))) ?_
    rintro v1 L1 ⟨nb8, hnb8, rfl, rfl⟩
    refine ⟨[], ?_⟩
    show DP _ _ _ _ _ _ _ _ [_, _, _, _, _, ⟨nb8, [U64 0, U64 0, I64 0, .slice none 0 0, .slice none 0 0, U64 0] ++ cu8 (zr8 16), 29, (0, 0)⟩]
    refine CQ ⟨[6, 9, 14], [0, 1, 2, 3, 4, 5, 7, 8, 10, 11, 12, 13], [4, 5, 7, 8], [0, 1, 2, 3, 10, 11, 12, 13], [15]⟩ 15 rfl rfl (by decide +kernel) rfl ⟨A2 rfl rfl rfl, A2 rfl rfl rfl, ⟨_, rfl, AC rfl (AB 0 3 1 AF rfl BA rfl rfl)⟩, ⟨_, rfl, AC rfl (AK rfl (AV BF (AS 1 rfl (Seg.head))))⟩, ⟨_, rfl, AC rfl (AB 3 22 1 AF rfl AU rfl rfl)⟩, ⟨_, rfl, AC rfl (AK rfl (AV AX (AS 1 rfl (AJ (AJ (AJ (Seg.head)))))))⟩, ⟨_, rfl, AC rfl (B8 [(0, I64 k), (1, Slc nb4 0 ni cp1), (2, Slc nb6 0 ns cp2), (3, U64 bl)] _ rfl (fun _ => DX rfl rfl rfl rfl))⟩, ⟨_, rfl, AC rfl (B8 [(0, U64 pv), (1, U64 ep), (2, .agg #[I64 k, Slc nb4 0 ni cp1, Slc nb6 0 ns cp2, U64 bl])] _ rfl (fun _ => EH rfl rfl (by simp [AP])))⟩, trivial⟩ rfl (AZ rfl (A5 5 nb8 22 ([U64 0, U64 0, I64 0, .slice none 0 0, .slice none 0 0, U64 0] ++ cu8 (zr8 16)) 29 ([U64 pv, U64 ep, I64 k, Slc nb4 0 ni cp1, Slc nb6 0 ns cp2, U64 bl] ++ cu8 (zr8 16)) rfl rfl rfl AT (by simp [(AP 16)]) (CO (by simp [Value.oneCell']) CD) (by simp [(AP 16)]) (BC (by simp [(AP 16), (AP 16)])))) ?_
    show DP _ _ _ _ _ _ _ _ [_, _, _, _, _, ⟨nb8, [U64 pv, U64 ep, I64 k, Slc nb4 0 ni cp1, Slc nb6 0 ns cp2, U64 bl] ++ cu8 (zr8 16), 29, (0, 0)⟩]
    refine C4 ⟨[6, 9, 14, 15], [0, 1, 2, 3, 4, 5, 7, 8, 10, 11, 12, 13], [0, 1, 2, 3, 4, 5, 7, 8, 10, 11, 12, 13], [], []⟩ rfl rfl (by decide +kernel) rfl trivial ?_
    refine CI (F' := [(10, Ptr nb8 0), (4, Ptr nb1 0), (8, Ptr nb3 0), (9, .nilIface)]) (by kernel_rfl) ?_
    refine E9 [0, 2, 3, 4, 5] (by decide) ?_
    show JQ _ _ _ _ [_, _, _, _, _]
    refine E6 (nb8, nb4, cp1, nb6, cp2, sp1, sp2) ⟨(by first | exact hc1 | omega | (simp; done)), (by first | exact hc2 | omega | (simp; done)), (by first | exact hc3 | omega | (simp; done)), (by first | exact hc4 | omega | (simp; done)), (by first | exact hc5 | omega | (simp; done)), (by first | exact hc6 | omega | (simp; done))⟩ (Sub.all rfl) rfl
   ·
    rintro v1 L1 ⟨nb7, hnb7, rfl, rfl⟩
    refine ⟨[], ?_⟩
    show DP _ _ _ _ _ _ _ _ [_, _, _, _, ⟨nb7, [U64 0, U64 0, I64 0, .slice none 0 0, .slice none 0 0, U64 0] ++ cu8 (zr8 16), 29, (0, 0)⟩]
    refine CR ⟨[6, 14], [0, 1, 2, 3, 4, 5, 7, 8, 10, 11], [4, 5], [0, 1, 2, 3, 7, 8, 10, 11], [9]⟩ 9 _ rfl rfl (by decide +kernel) rfl ⟨A2 rfl rfl rfl, A2 rfl rfl rfl, ⟨_, rfl, AC rfl (AB 0 3 1 AF rfl BA rfl rfl)⟩, ⟨_, rfl, AC rfl (AK rfl (AV BF (AS 1 rfl (Seg.head))))⟩, ⟨_, rfl, AC rfl (AB 2 24 1 AF rfl BL rfl rfl)⟩, ⟨_, rfl, AC rfl (AK rfl (AV BW (AS 1 rfl (AJ (AJ (Seg.head))))))⟩, ⟨_, rfl, AC rfl (AB 3 22 1 AF rfl AU rfl rfl)⟩, ⟨_, rfl, AC rfl (AK rfl (AV AX (AS 1 rfl (AJ (AJ (AJ (Seg.head)))))))⟩, trivial⟩ rfl (AZ rfl (BI 113 [.slice sa ns sc] _ (AY _ D5 rfl) (fun w1 hw1 => GF sa ns sc ls w1 hls (by omega) (by omega) (by omega) (EG hw1 rfl hs) (by omega)))) ?_
    rintro v1 L1 ⟨_, ⟨nb9, sp3, cp3, rfl, rfl, hc7, hc8, hc9⟩, rfl⟩
    refine ⟨[(12, .agg #[I64 k, Slc nb4 0 ni cp1, Slc nb9 0 ns cp3, U64 bl]), (13, .agg ([U64 pv, U64 ep, I64 k, Slc nb4 0 ni cp1, Slc nb9 0 ns cp3, U64 bl] ++ cu8 (zr8 16)).toArray)], ?_⟩
    show DP _ _ _ _ _ _ _ _ [_, _, _, _, _, ⟨nb9, ls.flatMap sealC ++ sp3, 161, (0, 0)⟩]
    refine CQ ⟨[6, 14, 9], [0, 1, 2, 3, 4, 5, 7, 8, 10, 11, 12, 13], [4, 5, 7, 8], [0, 1, 2, 3, 10, 11, 12, 13], [15]⟩ 15 rfl rfl (by decide +kernel) rfl ⟨A2 rfl rfl rfl, A2 rfl rfl rfl, ⟨_, rfl, AC rfl (AB 0 3 1 AF rfl BA rfl rfl)⟩, ⟨_, rfl, AC rfl (AK rfl (AV BF (AS 1 rfl (Seg.head))))⟩, ⟨_, rfl, AC rfl (AB 3 22 1 AF rfl AU rfl rfl)⟩, ⟨_, rfl, AC rfl (AK rfl (AV AX (AS 1 rfl (AJ (AJ (AJ (Seg.head)))))))⟩, ⟨_, rfl, AC rfl (B8 [(0, I64 k), (1, Slc nb4 0 ni cp1), (2, Slc nb9 0 ns cp3), (3, U64 bl)] _ rfl (fun _ => DX rfl rfl rfl rfl))⟩, ⟨_, rfl, AC rfl (B8 [(0, U64 pv), (1, U64 ep), (2, .agg #[I64 k, Slc nb4 0 ni cp1, Slc nb9 0 ns cp3, U64 bl])] _ rfl (fun _ => EH rfl rfl (by simp [AP])))⟩, trivial⟩ rfl (AZ rfl (A5 4 nb7 22 ([U64 0, U64 0, I64 0, .slice none 0 0, .slice none 0 0, U64 0] ++ cu8 (zr8 16)) 29 ([U64 pv, U64 ep, I64 k, Slc nb4 0 ni cp1, Slc nb9 0 ns cp3, U64 bl] ++ cu8 (zr8 16)) rfl rfl rfl AT (by simp [(AP 16)]) (CO (by simp [Value.oneCell']) CD) (by simp [(AP 16)]) (BC (by simp [(AP 16), (AP 16)])))) ?_
    show DP _ _ _ _ _ _ _ _ [_, _, _, _, ⟨nb7, [U64 pv, U64 ep, I64 k, Slc nb4 0 ni cp1, Slc nb9 0 ns cp3, U64 bl] ++ cu8 (zr8 16), 29, (0, 0)⟩, _]
    refine C4 ⟨[6, 14, 9, 15], [0, 1, 2, 3, 4, 5, 7, 8, 10, 11, 12, 13], [0, 1, 2, 3, 4, 5, 7, 8, 10, 11, 12, 13], [], []⟩ rfl rfl (by decide +kernel) rfl trivial ?_
    refine CI (F' := [(10, Ptr nb7 0), (4, Ptr nb1 0), (8, Ptr nb3 0), (9, .nilIface)]) (by kernel_rfl) ?_
    refine E9 [0, 2, 3, 5, 4] (by decide) ?_
    show JQ _ _ _ _ [_, _, _, _, _]
    refine E6 (nb7, nb4, cp1, nb9, cp3, sp1, sp3) ⟨(by first | exact hc1 | omega | (simp; done)), (by first | exact hc2 | omega | (simp; done)), (by first | exact hc3 | omega | (simp; done)), (by first | exact hc7 | omega | (simp; done)), (by first | exact hc8 | omega | (simp; done)), (by first | exact hc9 | omega | (simp; done))⟩ (Sub.all rfl) rfl
  ·
   rintro v1 L1 ⟨nb5, hnb5, rfl, rfl⟩
   refine ⟨[], ?_⟩
   show DP _ _ _ _ _ _ _ _ [_, _, _, ⟨nb5, [U64 0, U64 0, I64 0, .slice none 0 0, .slice none 0 0, U64 0] ++ cu8 (zr8 16), 29, (0, 0)⟩]
   refine CR ⟨[14], [0, 1, 2, 3, 4, 5, 7, 8, 10, 11], [], [0, 1, 2, 3, 4, 5, 7, 8, 10, 11], [6]⟩ 6 _ rfl rfl (by decide +kernel) rfl ⟨A2 rfl rfl rfl, A2 rfl rfl rfl, ⟨_, rfl, AC rfl (AB 0 3 1 AF rfl BA rfl rfl)⟩, ⟨_, rfl, AC rfl (AK rfl (AV BF (AS 1 rfl (Seg.head))))⟩, ⟨_, rfl, AC rfl (AB 1 23 1 AF rfl CB rfl rfl)⟩, ⟨_, rfl, AC rfl (AK rfl (AV CP (AS 1 rfl (AJ (Seg.head)))))⟩, ⟨_, rfl, AC rfl (AB 2 24 1 AF rfl BL rfl rfl)⟩, ⟨_, rfl, AC rfl (AK rfl (AV BW (AS 1 rfl (AJ (AJ (Seg.head))))))⟩, ⟨_, rfl, AC rfl (AB 3 22 1 AF rfl AU rfl rfl)⟩, ⟨_, rfl, AC rfl (AK rfl (AV AX (AS 1 rfl (AJ (AJ (AJ (Seg.head)))))))⟩, trivial⟩ rfl (AZ rfl (BI 112 [.slice ai ni ci] _ (AY _ EY rfl) (fun w1 hw1 => GB ai ni ci l w1 hl (by omega) (by omega) (by omega) (EG hw1 rfl hv) (by omega)))) ?_
   rintro v1 L1 ⟨_, ⟨nb10, sp4, cp4, rfl, rfl, hc10, hc11, hc12⟩, rfl⟩
   refine ⟨[], ?_⟩
   show DP _ _ _ _ _ _ _ _ [_, _, _, _, ⟨nb10, cu64 l ++ sp4, 22, (0, 0)⟩]
   refine CR ⟨[14, 6], [0, 1, 2, 3, 4, 5, 7, 8, 10, 11], [4, 5], [0, 1, 2, 3, 7, 8, 10, 11], [9]⟩ 9 _ rfl rfl (by decide +kernel) rfl ⟨A2 rfl rfl rfl, A2 rfl rfl rfl, ⟨_, rfl, AC rfl (AB 0 3 1 AF rfl BA rfl rfl)⟩, ⟨_, rfl, AC rfl (AK rfl (AV BF (AS 1 rfl (Seg.head))))⟩, ⟨_, rfl, AC rfl (AB 2 24 1 AF rfl BL rfl rfl)⟩, ⟨_, rfl, AC rfl (AK rfl (AV BW (AS 1 rfl (AJ (AJ (Seg.head))))))⟩, ⟨_, rfl, AC rfl (AB 3 22 1 AF rfl AU rfl rfl)⟩, ⟨_, rfl, AC rfl (AK rfl (AV AX (AS 1 rfl (AJ (AJ (AJ (Seg.head)))))))⟩, trivial⟩ rfl (AZ rfl (BI 113 [.slice sa ns sc] _ (AY _ D5 rfl) (fun w1 hw1 => GF sa ns sc ls w1 hls (by omega) (by omega) (by omega) (EG hw1 rfl hs) (by omega)))) ?_
   rintro v1 L1 ⟨_, ⟨nb11, sp5, cp5, rfl, rfl, hc13, hc14, hc15⟩, rfl⟩
   refine ⟨[(12, .agg #[I64 k, Slc nb10 0 ni cp4, Slc nb11 0 ns cp5, U64 bl]), (13, .agg ([U64 pv, U64 ep, I64 k, Slc nb10 0 ni cp4, Slc nb11 0 ns cp5, U64 bl] ++ cu8 (zr8 16)).toArray)], ?_⟩
   show DP _ _ _ _ _ _ _ _ [_, _, _, _, _, ⟨nb11, ls.flatMap sealC ++ sp5, 161, (0, 0)⟩]
   refine CQ ⟨[14, 6, 9], [0, 1, 2, 3, 4, 5, 7, 8, 10, 11, 12, 13], [4, 5, 7, 8], [0, 1, 2, 3, 10, 11, 12, 13], [15]⟩ 15 rfl rfl (by decide +kernel) rfl ⟨A2 rfl rfl rfl, A2 rfl rfl rfl, ⟨_, rfl, AC rfl (AB 0 3 1 AF rfl BA rfl rfl)⟩, ⟨_, rfl, AC rfl (AK rfl (AV BF (AS 1 rfl (Seg.head))))⟩, ⟨_, rfl, AC rfl (AB 3 22 1 AF rfl AU rfl rfl)⟩, ⟨_, rfl, AC rfl (AK rfl (AV AX (AS 1 rfl (AJ (AJ (AJ (Seg.head)))))))⟩, ⟨_, rfl, AC rfl (B8 [(0, I64 k), (1, Slc nb10 0 ni cp4), (2, Slc nb11 0 ns cp5), (3, U64 bl)] _ rfl (fun _ => DX rfl rfl rfl rfl))⟩, ⟨_, rfl, AC rfl (B8 [(0, U64 pv), (1, U64 ep), (2, .agg #[I64 k, Slc nb10 0 ni cp4, Slc nb11 0 ns cp5, U64 bl])] _ rfl (fun _ => EH rfl rfl (by simp [AP])))⟩, trivial⟩ rfl (AZ rfl (A5 3 nb5 22 ([U64 0, U64 0, I64 0, .slice none 0 0, .slice none 0 0, U64 0] ++ cu8 (zr8 16)) 29 ([U64 pv, U64 ep, I64 k, Slc nb10 0 ni cp4, Slc nb11 0 ns cp5, U64 bl] ++ cu8 (zr8 16)) rfl rfl rfl AT (by simp [(AP 16)]) (CO (by simp [Value.oneCell']) CD) (by simp [(AP 16)]) (BC (by simp [(AP 16), (AP 16)])))) ?_
   show DP _ _ _ _ _ _ _ _ [_, _, _, ⟨nb5, [U64 pv, U64 ep, I64 k, Slc nb10 0 ni cp4, Slc nb11 0 ns cp5, U64 bl] ++ cu8 (zr8 16), 29, (0, 0)⟩, _, _]
   refine C4 ⟨[14, 6, 9, 15], [0, 1, 2, 3, 4, 5, 7, 8, 10, 11, 12, 13], [0, 1, 2, 3, 4, 5, 7, 8, 10, 11, 12, 13], [], []⟩ rfl rfl (by decide +kernel) rfl trivial ?_
   refine CI (F' := [(10, Ptr nb5 0), (4, Ptr nb1 0), (8, Ptr nb3 0), (9, .nilIface)]) (by kernel_rfl) ?_
   refine E9 [0, 2, 4, 5, 3] (by decide) ?_
   show JQ _ _ _ _ [_, _, _, _, _]
   refine E6 (nb5, nb10, cp4, nb11, cp5, sp4, sp5) ⟨(by first | exact hc10 | omega | (simp; done)), (by first | exact hc11 | omega | (simp; done)), (by first | exact hc12 | omega | (simp; done)), (by first | exact hc13 | omega | (simp; done)), (by first | exact hc14 | omega | (simp; done)), (by first | exact hc15 | omega | (simp; done))⟩ (Sub.all rfl) rfl
 ·
  rintro ⟨ynb0, ynb1, ycp2, ynb3, ycp4, ysp5, ysp6⟩ ⟨hy1, hy2, hy3, hy4, hy5, hy6⟩
  show JQ _ _ _ [(4, Ptr nb1 0), (8, Ptr nb3 0), (9, .nilIface), (10, Ptr ynb0 0)] [⟨nb1, cu8 key, 54, (0, 0)⟩, ⟨nb3, [U64 0, U64 0, I64 0, .slice none 0 0, .slice none 0 0, U64 0] ++ cu8 (zr8 16), 29, (0, 0)⟩, ⟨ynb1, cu64 l ++ ysp5, 22, (0, 0)⟩, ⟨ynb3, ls.flatMap sealC ++ ysp6, 161, (0, 0)⟩, ⟨ynb0, [U64 pv, U64 ep, I64 k, Slc ynb1 0 ni ycp2, Slc ynb3 0 ns ycp4, U64 bl] ++ cu8 (zr8 16), 29, (0, 0)⟩]
  refine AE (AI (AD (AA (.agg ([U64 pv, U64 ep, I64 k, Slc ynb1 0 ni ycp2, Slc ynb3 0 ns ycp4, U64 bl] ++ cu8 (zr8 16)).toArray) (AK rfl (BH A9 AT (by simp [(AP 16)]) (AS 4 rfl (AL _)))) rfl ?_)))
  refine A1 (BI 114 [.agg ([U64 pv, U64 ep, I64 k, Slc ynb1 0 ni ycp2, Slc ynb3 0 ns ycp4, U64 bl] ++ cu8 (zr8 16)).toArray] _ (AY _ Tryd.call114 rfl) (fun w1 hw1 => text_w pv ep k (some ⟨ynb1, 0, none⟩) ni ycp2 l (some ⟨ynb3, 0, none⟩) ns ycp4 ls bl (zr8 16) tot w1 hl (by omega) (by omega) (by omega) (RdV.of hw1 (AS 2 rfl (A4 (AL _)))) hls (by omega) (by omega) (by omega) (RdV.of hw1 (AS 3 rfl (A4 (AL _)))) (AP 16) hmay (by omega) (by omega) htot)) rfl ?_
  rintro v1 L1 ⟨_, ⟨nb12, sp6, cp6, rfl, rfl, hc16, hc17, hc18⟩, rfl⟩
  show JL _ _ _ _ ((29, .tuple #[Slc nb12 0 tot cp6, .nilIface]) :: _) [_, _, _, _, _, ⟨nb12, cu8 (tktT pv ep k l ls bl) ++ sp6, 5, (0, 0)⟩]
  refine AA _ (AH rfl) rfl ?_
  refine AA _ (B4 rfl rfl) rfl ?_
  refine AA _ (B4 rfl rfl) rfl ?_
  refine AA _ (AG rfl) rfl ?_
  refine AA _ (AG rfl) rfl ?_
  refine AN (AE (AI (AI (AD (AA _ (AH rfl) rfl ?_)))))
  refine AA (.bool false) (C2 _ _ _ rfl rfl (fun _ => EA ..) fun _ => DC A6) rfl ?_
  refine AN (AE (CK _ rfl rfl ?_))
  refine BT (AE (AI (C1 44 4 [(0, Ptr ynb0 6), (1, Slc ynb0 6 16 16), (2, Slc nb1 0 32 32), (3, Slc nb12 0 tot cp6)] BV rfl (by decide +kernel) ?_)))
  refine CR ⟨[], [0, 1, 2, 3], [], [0, 1, 2, 3], [4]⟩ 4 _ rfl rfl (by decide +kernel) rfl ⟨⟨_, rfl, AC rfl (AB 6 27 16 AO rfl BE rfl rfl)⟩, ⟨_, rfl, AC rfl (B3 16 5 1 0 16 6 16 BJ AW rfl rfl rfl (by omega) (by omega) (by omega) (by omega) (by omega) 16 (by omega))⟩, ⟨_, rfl, AC rfl (B3 32 5 1 0 32 0 32 B9 AW rfl rfl rfl (by omega) (by omega) (by omega) (by omega) (by omega) 32 (by omega))⟩, A2 rfl rfl rfl, trivial⟩ rfl (AZ rfl (B0 43 1 _ [(0, Slc nb12 0 tot cp6)] ([Slc nb12 0 tot cp6]) ER B7 Tryd.zeroValue43 rfl rfl rfl (by kernel_rfl))) ?_
  rintro v1 L1 ⟨nb13, hnb13, rfl, rfl⟩
  refine ⟨[], ?_⟩
  show DP _ _ _ _ _ _ _ _ [_, _, _, _, _, _, ⟨nb13, [Slc nb12 0 tot cp6], 43, (0, 0)⟩]
  refine CR ⟨[4], [0, 1, 2, 3], [3], [0, 1, 2], [5]⟩ 5 _ rfl rfl (by decide +kernel) rfl ⟨⟨_, rfl, AC rfl (AB 6 27 16 AO rfl BE rfl rfl)⟩, ⟨_, rfl, AC rfl (B3 16 5 1 0 16 6 16 BJ AW rfl rfl rfl (by omega) (by omega) (by omega) (by omega) (by omega) 16 (by omega))⟩, ⟨_, rfl, AC rfl (B3 32 5 1 0 32 0 32 B9 AW rfl rfl rfl (by omega) (by omega) (by omega) (by omega) (by omega) 32 (by omega))⟩, trivial⟩ rfl (AZ rfl (BI 90 [Slc nb1 0 32 32, Slc nb13 0 1 1] _ (AY _ Tryd.call90 rfl) (fun w1 hw1 => short_c (some ⟨nb1, 0, none⟩) 32 32 key nb13 1 [Slc nb12 0 tot cp6] [tktT pv ep k l ls bl] w1 hk32 (fun h => by cases h) (by omega) (RdB.of hw1 (AS 0 rfl (AL _)) (by simp)) (by simp) (by simp) (by simp) ⟨RdA.of hw1 (AS 6 rfl (Seg.head)) (by simp), ⟨⟨(some ⟨nb12, 0, none⟩), cp6, congrArg (fun n => Value.slice (some ⟨nb12, 0, none⟩) n cp6) ((show (tktT pv ep k l ls bl).length = tot from ((EX hl hls).trans htot))).symm, (RdB.of hw1 (AS 5 rfl (A4 (AL _))) (by simp))⟩, trivial⟩⟩ (by simp only [List.flatten_cons, List.flatten_nil, List.length_append, List.length_nil, (show (tktT pv ep k l ls bl).length = tot from ((EX hl hls).trans htot))]; omega) (hG.at hw1)))) ?_
  rintro v1 L1 ⟨_, ⟨nb14, sp7, cp7, rfl, rfl, hc19, hc20, hc21⟩, rfl⟩
  refine ⟨[], ?_⟩
  show DP _ _ _ _ _ _ _ _ [_, _, _, _, _, _, _, ⟨nb14, cu8 (mid (macL key ([tktT pv ep k l ls bl].flatten)) 0 16) ++ sp7, 5, (0, 0)⟩]
  refine CQ ⟨[4, 5], [0, 1, 2, 3], [2, 3], [0, 1], [6]⟩ 6 rfl rfl (by decide +kernel) rfl ⟨⟨_, rfl, AC rfl (AB 6 27 16 AO rfl BE rfl rfl)⟩, ⟨_, rfl, AC rfl (B3 16 5 1 0 16 6 16 BJ AW rfl rfl rfl (by omega) (by omega) (by omega) (by omega) (by omega) 16 (by omega))⟩, trivial⟩ rfl (AZ rfl (EW 43 43 5 4 ynb0 6 16 16 ([U64 pv, U64 ep, I64 k, Slc ynb1 0 ni ycp2, Slc ynb3 0 ns ycp4, U64 bl] ++ cu8 (zr8 16)) 29 (some ⟨nb14, 0, none⟩) 16 cp7 16 (cu8 (mid (macL key ([tktT pv ep k l ls bl].flatten)) 0 16)) ([U64 pv, U64 ep, I64 k, Slc ynb1 0 ni ycp2, Slc ynb3 0 ns ycp4, U64 bl] ++ cu8 (mid (macL key ([tktT pv ep k l ls bl].flatten)) 0 16)) AM DZ rfl rfl rfl rfl (by rw [FY]; exact (show (mid (macL key ([tktT pv ep k l ls bl].flatten)) 0 16).length = 16 from E3 (by rw [EB]; omega))) (SrcAt.mem (AS 7 rfl (A4 (AL _)))) (by simp [(AP 16)]; try omega) (by first | exact CD | exact D3 | exact D1 | (simp [cu8, cu32, cu64, Value.oneCell']; done)) (GD 6 0 rfl rfl (BC (by rw [FY, FY]; first | exact ((show (mid (macL key ([tktT pv ep k l ls bl].flatten)) 0 16).length = 16 from E3 (by rw [EB]; omega))).trans ((AP 16)).symm | exact ((AP 16)).trans ((show (mid (macL key ([tktT pv ep k l ls bl].flatten)) 0 16).length = 16 from E3 (by rw [EB]; omega))).symm))))) ?_
  show DP _ _ _ _ _ _ _ _ [_, _, _, _, ⟨ynb0, [U64 pv, U64 ep, I64 k, Slc ynb1 0 ni ycp2, Slc ynb3 0 ns ycp4, U64 bl] ++ cu8 (mid (macL key ([tktT pv ep k l ls bl].flatten)) 0 16), 29, (0, 0)⟩, _, _, _]
  refine C4 ⟨[4, 5, 6], [0, 1, 2, 3], [0, 1, 2, 3], [], []⟩ rfl rfl (by decide +kernel) rfl trivial ?_
  refine CI (F' := [(8, Ptr nb3 0), (9, .nilIface), (10, Ptr ynb0 0)]) (by kernel_rfl) ?_
  refine AE (AI ?_)
  rw [tkG_of key pv ep k l ls bl]
  show JC _ _ _ _ [⟨nb1, cu8 key, 54, (0, 0)⟩, ⟨nb3, [U64 0, U64 0, I64 0, .slice none 0 0, .slice none 0 0, U64 0] ++ cu8 (zr8 16), 29, (0, 0)⟩, ⟨ynb1, cu64 l ++ ysp5, 22, (0, 0)⟩, ⟨ynb3, ls.flatMap sealC ++ ysp6, 161, (0, 0)⟩, ⟨ynb0, [U64 pv, U64 ep, I64 k, Slc ynb1 0 ni ycp2, Slc ynb3 0 ns ycp4, U64 bl] ++ cu8 (tkG key pv ep k l ls bl), 29, (0, 0)⟩, ⟨nb12, cu8 (tktT pv ep k l ls bl) ++ sp6, 5, (0, 0)⟩, ⟨nb13, [Slc nb12 0 tot cp6], 43, (0, 0)⟩, ⟨nb14, cu8 (tkG key pv ep k l ls bl) ++ sp7, 5, (0, 0)⟩]
  refine AD (AA (.agg ([U64 pv, U64 ep, I64 k, Slc ynb1 0 ni ycp2, Slc ynb3 0 ns ycp4, U64 bl] ++ cu8 (tkG key pv ep k l ls bl)).toArray) (AK rfl (BH A9 AT (by simp [(CL _ _ _ _ _ _ _)]) (AS 4 rfl (AL _)))) rfl ?_)
  refine A7 (A5 1 nb3 22 ([U64 0, U64 0, I64 0, .slice none 0 0, .slice none 0 0, U64 0] ++ cu8 (zr8 16)) 29 ([U64 pv, U64 ep, I64 k, Slc ynb1 0 ni ycp2, Slc ynb3 0 ns ycp4, U64 bl] ++ cu8 (tkG key pv ep k l ls bl)) rfl rfl rfl AT (by simp [(CL _ _ _ _ _ _ _)]) (CO (by simp [Value.oneCell']) CD) (by simp [(AP 16)]) (BC (by simp [(AP 16), (CL _ _ _ _ _ _ _)]))) rfl ?_
  show JL _ _ _ _ _ [_, ⟨nb3, [U64 pv, U64 ep, I64 k, Slc ynb1 0 ni ycp2, Slc ynb3 0 ns ycp4, U64 bl] ++ cu8 (tkG key pv ep k l ls bl), 29, (0, 0)⟩, _, _, _, _, _, _]
  refine AA _ (AG rfl) rfl ?_
  refine AN (AE (BP (CH [false, true, true, true, false, false, false, false] ?_)))
  show JQ _ _ _ _ [_, _, _]
  refine BQ (.tuple #[.agg ([U64 pv, U64 ep, I64 k, Slc ynb1 0 ni ycp2, Slc ynb3 0 ns ycp4, U64 bl] ++ cu8 (tkG key pv ep k l ls bl)).toArray, .nilIface]) (res2 Tryd.results46 (DU rfl (BH A9 AT (by simp [(CL _ _ _ _ _ _ _)]) (AS 0 rfl (AL _)))) (B2 rfl)) fun w1 hw1 => ?_
  exact ⟨_, _, rfl, ⟨ynb1, ysp5, ycp2, ynb3, ysp6, ycp4, rfl, rfl, (hy1.trans (by omega)), hy2, hy3, (hy4.trans (by omega)), hy5, hy6⟩, hw1.sub (by simp) (by simpa using hw1.ne (i := 1) (j := 2) rfl rfl (by decide))⟩
theorem sign2_c (key : List UInt8) (pv ep : UInt64) (k : Nat) (ai : Option Addr) (ni ci : Nat) (l : List UInt64) (sa : Option Addr) (sc : Nat) (bl : UInt64) (tot : Nat)  (w : World) (hk32 : key.length = 32) (hl : l.length = ni) (hnm : ni ≤ 2000000) (hnc : ni ≤ ci) (hcm : ci ≤ maxLen) (hv : RdV w ai (cu64 l)) (hcs : sc ≤ maxLen) (hnS : sa = none → sc = 0) (hp1 : 0 < ni) (hmay : mayN pv ep (k:Int) l ([] : List SealR) bl = 0) (hk : k = 2) (htot : tktN k ni 0 = tot) (htb : tot ≤ 30000) (hnb : ni ≤ 300) (hG : GLs w)  : Calls Tryd.prog 46 #[.agg (cu8 key).toArray, U64 pv, U64 ep, .agg #[I64 k, .slice ai ni ci, .slice sa 0 sc, U64 bl]] w (Post w [] (fun v L => ∃ g1 sp1 cp1 a2 c2, v = .tuple #[.agg ([U64 pv, U64 ep, I64 k, Slc g1 0 ni cp1, .slice a2 0 c2, U64 bl] ++ cu8 (tkG key pv ep k l ([] : List SealR) bl)).toArray, .nilIface] ∧ L = [⟨g1, cu64 l ++ sp1, 22, (0, 0)⟩] ∧ sp1.length = cp1 - ni ∧ ni ≤ cp1 ∧ cp1 ≤ maxLen ∧ c2 ≤ maxLen ∧ (a2 = none → c2 = 0))) := by
 have hmx : maxLen = 9223372036854775807 := rfl
 refine enter (P := Tryd.prog) (f := 46) (fn := Tryd.f46) w [] 44 [] [.agg (cu8 key).toArray, U64 pv, U64 ep, .agg #[I64 k, .slice ai ni ci, .slice sa 0 sc, U64 bl]] Tryd.func46 rfl rfl (by simp) (BZ (by simp) (by simp) (by simp)) ?_
 show JC _ _ _ [(0, .agg (cu8 key).toArray), (1, U64 pv), (2, U64 ep), (3, .agg #[I64 k, .slice ai ni ci, .slice sa 0 sc, U64 bl])] _
 refine AI (AD (A1 (CW (.agg (cu8 key).toArray) (cu8 key) rfl (by first | rfl | simp)) rfl ?_))
 rintro v1 L1 ⟨nb1, hnb1, rfl, rfl⟩
 show JL _ _ _ _ ((4, Ptr nb1 0) :: _) [⟨nb1, cu8 key, 54, (0, 0)⟩]
 refine A1 (CW (.agg #[I64 k, .slice ai ni ci, .slice sa 0 sc, U64 bl]) ([I64 k, .slice ai ni ci, .slice sa 0 sc, U64 bl]) rfl (by first | rfl | simp)) rfl ?_
 rintro v1 L1 ⟨nb2, hnb2, rfl, rfl⟩
 show JL _ _ _ _ ((7, Ptr nb2 0) :: _) [_, ⟨nb2, [I64 k, .slice ai ni ci, .slice sa 0 sc, U64 bl], 26, (0, 0)⟩]
 refine A1 (BG _ ([U64 0, U64 0, I64 0, .slice none 0 0, .slice none 0 0, U64 0] ++ cu8 (zr8 16)) BK (by kernel_rfl)) rfl ?_
 rintro v1 L1 ⟨nb3, hnb3, rfl, rfl⟩
 show JL _ _ _ _ ((8, Ptr nb3 0) :: _) [_, _, ⟨nb3, [U64 0, U64 0, I64 0, .slice none 0 0, .slice none 0 0, U64 0] ++ cu8 (zr8 16), 29, (0, 0)⟩]
 refine AA _ (AG rfl) rfl ?_
 refine AN (AE (AI (JC_cut (ι := Nat × Nat × Nat × Option Addr × Nat × List Value) (fun ⟨ynb0, ynb1, ycp2, yao3, yca4, ysp5⟩ => [(4, Ptr nb1 0), (8, Ptr nb3 0), (9, .nilIface), (10, Ptr ynb0 0)]) (fun ⟨ynb0, ynb1, ycp2, yao3, yca4, ysp5⟩ => [⟨nb1, cu8 key, 54, (0, 0)⟩, ⟨nb3, [U64 0, U64 0, I64 0, .slice none 0 0, .slice none 0 0, U64 0] ++ cu8 (zr8 16), 29, (0, 0)⟩, ⟨ynb1, cu64 l ++ ysp5, 22, (0, 0)⟩, ⟨ynb0, [U64 pv, U64 ep, I64 k, Slc ynb1 0 ni ycp2, .slice yao3 0 yca4, U64 bl] ++ cu8 (zr8 16), 29, (0, 0)⟩]) (fun ⟨ynb0, ynb1, ycp2, yao3, yca4, ysp5⟩ => ysp5.length = (ycp2 - ni) ∧ ni ≤ ycp2 ∧ ycp2 ≤ maxLen ∧ yca4 ≤ maxLen ∧ (yao3 = none → yca4 = 0)) ?_ ?_)))
 ·
  refine C1 44 5 [(0, U64 pv), (1, U64 ep), (2, Ptr nb2 0), (3, I64 k), (4, Ptr nb2 1), (5, .slice ai ni ci), (7, Ptr nb2 2), (8, .slice sa 0 sc), (10, Ptr nb2 3), (11, U64 bl)] BV rfl (by decide +kernel) ?_
  refine DP_two ⟨[], [0, 1, 2, 3, 4, 5, 7, 8, 10, 11], [], [0, 1, 2, 3, 4, 5, 7, 8, 10, 11], [6, 14]⟩ 6 14 _ _ rfl rfl (by decide +kernel) rfl ⟨A2 rfl rfl rfl, A2 rfl rfl rfl, ⟨_, rfl, AC rfl (AB 0 3 1 AF rfl BA rfl rfl)⟩, ⟨_, rfl, AC rfl (AK rfl (AV BF (AS 1 rfl (Seg.head))))⟩, ⟨_, rfl, AC rfl (AB 1 23 1 AF rfl CB rfl rfl)⟩, ⟨_, rfl, AC rfl (AK rfl (AV CP (AS 1 rfl (AJ (Seg.head)))))⟩, ⟨_, rfl, AC rfl (AB 2 24 1 AF rfl BL rfl rfl)⟩, ⟨_, rfl, AC rfl (AK rfl (AV BW (AS 1 rfl (AJ (AJ (Seg.head))))))⟩, ⟨_, rfl, AC rfl (AB 3 22 1 AF rfl AU rfl rfl)⟩, ⟨_, rfl, AC rfl (AK rfl (AV AX (AS 1 rfl (AJ (AJ (AJ (Seg.head)))))))⟩, trivial⟩ rfl rfl (AZ rfl (BI 112 [.slice ai ni ci] _ (AY _ EY rfl) (fun w1 hw1 => GB ai ni ci l w1 hl (by omega) (by omega) (by omega) (EG hw1 rfl hv) (by omega)))) (AZ rfl (BG _ ([U64 0, U64 0, I64 0, .slice none 0 0, .slice none 0 0, U64 0] ++ cu8 (zr8 16)) BK (by kernel_rfl))) ?_ ?_
  ·
   rintro v1 L1 ⟨_, ⟨nb4, sp1, cp1, rfl, rfl, hc1, hc2, hc3⟩, rfl⟩
   refine ⟨[], ?_⟩
   show DP _ _ _ _ _ _ _ _ [_, _, _, ⟨nb4, cu64 l ++ sp1, 22, (0, 0)⟩]
   refine DP_two ⟨[6], [0, 1, 2, 3, 4, 5, 7, 8, 10, 11], [4, 5], [0, 1, 2, 3, 7, 8, 10, 11], [9, 14]⟩ 9 14 _ _ rfl rfl (by decide +kernel) rfl ⟨A2 rfl rfl rfl, A2 rfl rfl rfl, ⟨_, rfl, AC rfl (AB 0 3 1 AF rfl BA rfl rfl)⟩, ⟨_, rfl, AC rfl (AK rfl (AV BF (AS 1 rfl (Seg.head))))⟩, ⟨_, rfl, AC rfl (AB 2 24 1 AF rfl BL rfl rfl)⟩, ⟨_, rfl, AC rfl (AK rfl (AV BW (AS 1 rfl (AJ (AJ (Seg.head))))))⟩, ⟨_, rfl, AC rfl (AB 3 22 1 AF rfl AU rfl rfl)⟩, ⟨_, rfl, AC rfl (AK rfl (AV AX (AS 1 rfl (AJ (AJ (AJ (Seg.head)))))))⟩, trivial⟩ rfl rfl (AZ rfl (BI 113 [.slice sa 0 sc] _ (AY _ D5 rfl) (fun w1 hw1 => FS sa sc w1 (by omega) hnS))) (AZ rfl (BG _ ([U64 0, U64 0, I64 0, .slice none 0 0, .slice none 0 0, U64 0] ++ cu8 (zr8 16)) BK (by kernel_rfl))) ?_ ?_
   ·
    rintro v1 L1 ⟨_, ⟨ao1, ca1, rfl, rfl, hc4, hc5⟩, rfl⟩
    refine ⟨[(12, .agg #[I64 k, Slc nb4 0 ni cp1, .slice ao1 0 ca1, U64 bl]), (13, .agg ([U64 pv, U64 ep, I64 k, Slc nb4 0 ni cp1, .slice ao1 0 ca1, U64 bl] ++ cu8 (zr8 16)).toArray)], ?_⟩
    show DP _ _ _ _ _ _ _ _ [_, _, _, _]
    refine CR ⟨[6, 9], [0, 1, 2, 3, 4, 5, 7, 8, 10, 11, 12, 13], [4, 5, 7, 8], [0, 1, 2, 3, 10, 11, 12, 13], [14]⟩ 14 _ rfl rfl (by decide +kernel) rfl ⟨A2 rfl rfl rfl, A2 rfl rfl rfl, ⟨_, rfl, AC rfl (AB 0 3 1 AF rfl BA rfl rfl)⟩, ⟨_, rfl, AC rfl (AK rfl (AV BF (AS 1 rfl (Seg.head))))⟩, ⟨_, rfl, AC rfl (AB 3 22 1 AF rfl AU rfl rfl)⟩, ⟨_, rfl, AC rfl (AK rfl (AV AX (AS 1 rfl (AJ (AJ (AJ (Seg.head)))))))⟩, ⟨_, rfl, AC rfl (B8 [(0, I64 k), (1, Slc nb4 0 ni cp1), (2, .slice ao1 0 ca1), (3, U64 bl)] _ rfl (fun _ => DX rfl rfl rfl rfl))⟩, ⟨_, rfl, AC rfl (B8 [(0, U64 pv), (1, U64 ep), (2, .agg #[I64 k, Slc nb4 0 ni cp1, .slice ao1 0 ca1, U64 bl])] _ rfl (fun _ => EH rfl rfl (by simp [AP])))⟩, trivial⟩ rfl (AZ rfl (BG _ ([U64 0, U64 0, I64 0, .slice none 0 0, .slice none 0 0, U64 0] ++ cu8 (zr8 16)) BK (by kernel_rfl))) ?_
    rintro v1 L1 ⟨nb7, hnb7, rfl, rfl⟩
    refine ⟨[], ?_⟩
    show DP _ _ _ _ _ _ _ _ [_, _, _, _, ⟨nb7, [U64 0, U64 0, I64 0, .slice none 0 0, .slice none 0 0, U64 0] ++ cu8 (zr8 16), 29, (0, 0)⟩]
    refine CQ ⟨[6, 9, 14], [0, 1, 2, 3, 4, 5, 7, 8, 10, 11, 12, 13], [4, 5, 7, 8], [0, 1, 2, 3, 10, 11, 12, 13], [15]⟩ 15 rfl rfl (by decide +kernel) rfl ⟨A2 rfl rfl rfl, A2 rfl rfl rfl, ⟨_, rfl, AC rfl (AB 0 3 1 AF rfl BA rfl rfl)⟩, ⟨_, rfl, AC rfl (AK rfl (AV BF (AS 1 rfl (Seg.head))))⟩, ⟨_, rfl, AC rfl (AB 3 22 1 AF rfl AU rfl rfl)⟩, ⟨_, rfl, AC rfl (AK rfl (AV AX (AS 1 rfl (AJ (AJ (AJ (Seg.head)))))))⟩, ⟨_, rfl, AC rfl (B8 [(0, I64 k), (1, Slc nb4 0 ni cp1), (2, .slice ao1 0 ca1), (3, U64 bl)] _ rfl (fun _ => DX rfl rfl rfl rfl))⟩, ⟨_, rfl, AC rfl (B8 [(0, U64 pv), (1, U64 ep), (2, .agg #[I64 k, Slc nb4 0 ni cp1, .slice ao1 0 ca1, U64 bl])] _ rfl (fun _ => EH rfl rfl (by simp [AP])))⟩, trivial⟩ rfl (AZ rfl (A5 4 nb7 22 ([U64 0, U64 0, I64 0, .slice none 0 0, .slice none 0 0, U64 0] ++ cu8 (zr8 16)) 29 ([U64 pv, U64 ep, I64 k, Slc nb4 0 ni cp1, .slice ao1 0 ca1, U64 bl] ++ cu8 (zr8 16)) rfl rfl rfl AT (by simp [(AP 16)]) (CO (by simp [Value.oneCell']) CD) (by simp [(AP 16)]) (BC (by simp [(AP 16), (AP 16)])))) ?_
    show DP _ _ _ _ _ _ _ _ [_, _, _, _, ⟨nb7, [U64 pv, U64 ep, I64 k, Slc nb4 0 ni cp1, .slice ao1 0 ca1, U64 bl] ++ cu8 (zr8 16), 29, (0, 0)⟩]
    refine C4 ⟨[6, 9, 14, 15], [0, 1, 2, 3, 4, 5, 7, 8, 10, 11, 12, 13], [0, 1, 2, 3, 4, 5, 7, 8, 10, 11, 12, 13], [], []⟩ rfl rfl (by decide +kernel) rfl trivial ?_
    refine CI (F' := [(10, Ptr nb7 0), (4, Ptr nb1 0), (8, Ptr nb3 0), (9, .nilIface)]) (by kernel_rfl) ?_
    refine E9 [0, 2, 3, 4] (by decide) ?_
    show JQ _ _ _ _ [_, _, _, _]
    refine E6 (nb7, nb4, cp1, ao1, ca1, sp1) ⟨(by first | exact hc1 | omega | (simp; done)), (by first | exact hc2 | omega | (simp; done)), (by first | exact hc3 | omega | (simp; done)), (by first | omega | (simp; done)), (by first | exact hc5 | omega | (simp; done))⟩ (Sub.all rfl) rfl
   ·
    rintro v1 L1 ⟨nb6, hnb6, rfl, rfl⟩
    refine ⟨[], ?_⟩
    show DP _ _ _ _ _ _ _ _ [_, _, _, _, ⟨nb6, [U64 0, U64 0, I64 0, .slice none 0 0, .slice none 0 0, U64 0] ++ cu8 (zr8 16), 29, (0, 0)⟩]
    refine CR ⟨[6, 14], [0, 1, 2, 3, 4, 5, 7, 8, 10, 11], [4, 5], [0, 1, 2, 3, 7, 8, 10, 11], [9]⟩ 9 _ rfl rfl (by decide +kernel) rfl ⟨A2 rfl rfl rfl, A2 rfl rfl rfl, ⟨_, rfl, AC rfl (AB 0 3 1 AF rfl BA rfl rfl)⟩, ⟨_, rfl, AC rfl (AK rfl (AV BF (AS 1 rfl (Seg.head))))⟩, ⟨_, rfl, AC rfl (AB 2 24 1 AF rfl BL rfl rfl)⟩, ⟨_, rfl, AC rfl (AK rfl (AV BW (AS 1 rfl (AJ (AJ (Seg.head))))))⟩, ⟨_, rfl, AC rfl (AB 3 22 1 AF rfl AU rfl rfl)⟩, ⟨_, rfl, AC rfl (AK rfl (AV AX (AS 1 rfl (AJ (AJ (AJ (Seg.head)))))))⟩, trivial⟩ rfl (AZ rfl (BI 113 [.slice sa 0 sc] _ (AY _ D5 rfl) (fun w1 hw1 => FS sa sc w1 (by omega) hnS))) ?_
    rintro v1 L1 ⟨_, ⟨ao2, ca2, rfl, rfl, hc6, hc7⟩, rfl⟩
    refine ⟨[(12, .agg #[I64 k, Slc nb4 0 ni cp1, .slice ao2 0 ca2, U64 bl]), (13, .agg ([U64 pv, U64 ep, I64 k, Slc nb4 0 ni cp1, .slice ao2 0 ca2, U64 bl] ++ cu8 (zr8 16)).toArray)], ?_⟩
    show DP _ _ _ _ _ _ _ _ [_, _, _, _, _]
    refine CQ ⟨[6, 14, 9], [0, 1, 2, 3, 4, 5, 7, 8, 10, 11, 12, 13], [4, 5, 7, 8], [0, 1, 2, 3, 10, 11, 12, 13], [15]⟩ 15 rfl rfl (by decide +kernel) rfl ⟨A2 rfl rfl rfl, A2 rfl rfl rfl, ⟨_, rfl, AC rfl (AB 0 3 1 AF rfl BA rfl rfl)⟩, ⟨_, rfl, AC rfl (AK rfl (AV BF (AS 1 rfl (Seg.head))))⟩, ⟨_, rfl, AC rfl (AB 3 22 1 AF rfl AU rfl rfl)⟩, ⟨_, rfl, AC rfl (AK rfl (AV AX (AS 1 rfl (AJ (AJ (AJ (Seg.head)))))))⟩, ⟨_, rfl, AC rfl (B8 [(0, I64 k), (1, Slc nb4 0 ni cp1), (2, .slice ao2 0 ca2), (3, U64 bl)] _ rfl (fun _ => DX rfl rfl rfl rfl))⟩, ⟨_, rfl, AC rfl (B8 [(0, U64 pv), (1, U64 ep), (2, .agg #[I64 k, Slc nb4 0 ni cp1, .slice ao2 0 ca2, U64 bl])] _ rfl (fun _ => EH rfl rfl (by simp [AP])))⟩, trivial⟩ rfl (AZ rfl (A5 4 nb6 22 ([U64 0, U64 0, I64 0, .slice none 0 0, .slice none 0 0, U64 0] ++ cu8 (zr8 16)) 29 ([U64 pv, U64 ep, I64 k, Slc nb4 0 ni cp1, .slice ao2 0 ca2, U64 bl] ++ cu8 (zr8 16)) rfl rfl rfl AT (by simp [(AP 16)]) (CO (by simp [Value.oneCell']) CD) (by simp [(AP 16)]) (BC (by simp [(AP 16), (AP 16)])))) ?_
    show DP _ _ _ _ _ _ _ _ [_, _, _, _, ⟨nb6, [U64 pv, U64 ep, I64 k, Slc nb4 0 ni cp1, .slice ao2 0 ca2, U64 bl] ++ cu8 (zr8 16), 29, (0, 0)⟩]
    refine C4 ⟨[6, 14, 9, 15], [0, 1, 2, 3, 4, 5, 7, 8, 10, 11, 12, 13], [0, 1, 2, 3, 4, 5, 7, 8, 10, 11, 12, 13], [], []⟩ rfl rfl (by decide +kernel) rfl trivial ?_
    refine CI (F' := [(10, Ptr nb6 0), (4, Ptr nb1 0), (8, Ptr nb3 0), (9, .nilIface)]) (by kernel_rfl) ?_
    refine E9 [0, 2, 3, 4] (by decide) ?_
    show JQ _ _ _ _ [_, _, _, _]
    refine E6 (nb6, nb4, cp1, ao2, ca2, sp1) ⟨(by first | exact hc1 | omega | (simp; done)), (by first | exact hc2 | omega | (simp; done)), (by first | exact hc3 | omega | (simp; done)), (by first | omega | (simp; done)), (by first | exact hc7 | omega | (simp; done))⟩ (Sub.all rfl) rfl
  ·
   rintro v1 L1 ⟨nb5, hnb5, rfl, rfl⟩
   refine ⟨[], ?_⟩
   show DP _ _ _ _ _ _ _ _ [_, _, _, ⟨nb5, [U64 0, U64 0, I64 0, .slice none 0 0, .slice none 0 0, U64 0] ++ cu8 (zr8 16), 29, (0, 0)⟩]
   refine CR ⟨[14], [0, 1, 2, 3, 4, 5, 7, 8, 10, 11], [], [0, 1, 2, 3, 4, 5, 7, 8, 10, 11], [6]⟩ 6 _ rfl rfl (by decide +kernel) rfl ⟨A2 rfl rfl rfl, A2 rfl rfl rfl, ⟨_, rfl, AC rfl (AB 0 3 1 AF rfl BA rfl rfl)⟩, ⟨_, rfl, AC rfl (AK rfl (AV BF (AS 1 rfl (Seg.head))))⟩, ⟨_, rfl, AC rfl (AB 1 23 1 AF rfl CB rfl rfl)⟩, ⟨_, rfl, AC rfl (AK rfl (AV CP (AS 1 rfl (AJ (Seg.head)))))⟩, ⟨_, rfl, AC rfl (AB 2 24 1 AF rfl BL rfl rfl)⟩, ⟨_, rfl, AC rfl (AK rfl (AV BW (AS 1 rfl (AJ (AJ (Seg.head))))))⟩, ⟨_, rfl, AC rfl (AB 3 22 1 AF rfl AU rfl rfl)⟩, ⟨_, rfl, AC rfl (AK rfl (AV AX (AS 1 rfl (AJ (AJ (AJ (Seg.head)))))))⟩, trivial⟩ rfl (AZ rfl (BI 112 [.slice ai ni ci] _ (AY _ EY rfl) (fun w1 hw1 => GB ai ni ci l w1 hl (by omega) (by omega) (by omega) (EG hw1 rfl hv) (by omega)))) ?_
   rintro v1 L1 ⟨_, ⟨nb8, sp2, cp2, rfl, rfl, hc8, hc9, hc10⟩, rfl⟩
   refine ⟨[], ?_⟩
   show DP _ _ _ _ _ _ _ _ [_, _, _, _, ⟨nb8, cu64 l ++ sp2, 22, (0, 0)⟩]
   refine CR ⟨[14, 6], [0, 1, 2, 3, 4, 5, 7, 8, 10, 11], [4, 5], [0, 1, 2, 3, 7, 8, 10, 11], [9]⟩ 9 _ rfl rfl (by decide +kernel) rfl ⟨A2 rfl rfl rfl, A2 rfl rfl rfl, ⟨_, rfl, AC rfl (AB 0 3 1 AF rfl BA rfl rfl)⟩, ⟨_, rfl, AC rfl (AK rfl (AV BF (AS 1 rfl (Seg.head))))⟩, ⟨_, rfl, AC rfl (AB 2 24 1 AF rfl BL rfl rfl)⟩, ⟨_, rfl, AC rfl (AK rfl (AV BW (AS 1 rfl (AJ (AJ (Seg.head))))))⟩, ⟨_, rfl, AC rfl (AB 3 22 1 AF rfl AU rfl rfl)⟩, ⟨_, rfl, AC rfl (AK rfl (AV AX (AS 1 rfl (AJ (AJ (AJ (Seg.head)))))))⟩, trivial⟩ rfl (AZ rfl (BI 113 [.slice sa 0 sc] _ (AY _ D5 rfl) (fun w1 hw1 => FS sa sc w1 (by omega) hnS))) ?_
   rintro v1 L1 ⟨_, ⟨ao3, ca3, rfl, rfl, hc11, hc12⟩, rfl⟩
   refine ⟨[(12, .agg #[I64 k, Slc nb8 0 ni cp2, .slice ao3 0 ca3, U64 bl]), (13, .agg ([U64 pv, U64 ep, I64 k, Slc nb8 0 ni cp2, .slice ao3 0 ca3, U64 bl] ++ cu8 (zr8 16)).toArray)], ?_⟩
   show DP _ _ _ _ _ _ _ _ [_, _, _, _, _]
   refine CQ ⟨[14, 6, 9], [0, 1, 2, 3, 4, 5, 7, 8, 10, 11, 12, 13], [4, 5, 7, 8], [0, 1, 2, 3, 10, 11, 12, 13], [15]⟩ 15 rfl rfl (by decide +kernel) rfl ⟨A2 rfl rfl rfl, A2 rfl rfl rfl, ⟨_, rfl, AC rfl (AB 0 3 1 AF rfl BA rfl rfl)⟩, ⟨_, rfl, AC rfl (AK rfl (AV BF (AS 1 rfl (Seg.head))))⟩, ⟨_, rfl, AC rfl (AB 3 22 1 AF rfl AU rfl rfl)⟩, ⟨_, rfl, AC rfl (AK rfl (AV AX (AS 1 rfl (AJ (AJ (AJ (Seg.head)))))))⟩, ⟨_, rfl, AC rfl (B8 [(0, I64 k), (1, Slc nb8 0 ni cp2), (2, .slice ao3 0 ca3), (3, U64 bl)] _ rfl (fun _ => DX rfl rfl rfl rfl))⟩, ⟨_, rfl, AC rfl (B8 [(0, U64 pv), (1, U64 ep), (2, .agg #[I64 k, Slc nb8 0 ni cp2, .slice ao3 0 ca3, U64 bl])] _ rfl (fun _ => EH rfl rfl (by simp [AP])))⟩, trivial⟩ rfl (AZ rfl (A5 3 nb5 22 ([U64 0, U64 0, I64 0, .slice none 0 0, .slice none 0 0, U64 0] ++ cu8 (zr8 16)) 29 ([U64 pv, U64 ep, I64 k, Slc nb8 0 ni cp2, .slice ao3 0 ca3, U64 bl] ++ cu8 (zr8 16)) rfl rfl rfl AT (by simp [(AP 16)]) (CO (by simp [Value.oneCell']) CD) (by simp [(AP 16)]) (BC (by simp [(AP 16), (AP 16)])))) ?_
   show DP _ _ _ _ _ _ _ _ [_, _, _, ⟨nb5, [U64 pv, U64 ep, I64 k, Slc nb8 0 ni cp2, .slice ao3 0 ca3, U64 bl] ++ cu8 (zr8 16), 29, (0, 0)⟩, _]
   refine C4 ⟨[14, 6, 9, 15], [0, 1, 2, 3, 4, 5, 7, 8, 10, 11, 12, 13], [0, 1, 2, 3, 4, 5, 7, 8, 10, 11, 12, 13], [], []⟩ rfl rfl (by decide +kernel) rfl trivial ?_
   refine CI (F' := [(10, Ptr nb5 0), (4, Ptr nb1 0), (8, Ptr nb3 0), (9, .nilIface)]) (by kernel_rfl) ?_
   refine E9 [0, 2, 4, 3] (by decide) ?_
   show JQ _ _ _ _ [_, _, _, _]
   refine E6 (nb5, nb8, cp2, ao3, ca3, sp2) ⟨(by first | exact hc8 | omega | (simp; done)), (by first | exact hc9 | omega | (simp; done)), (by first | exact hc10 | omega | (simp; done)), (by first | omega | (simp; done)), (by first | exact hc12 | omega | (simp; done))⟩ (Sub.all rfl) rfl
 ·
  rintro ⟨ynb0, ynb1, ycp2, yao3, yca4, ysp5⟩ ⟨hy1, hy2, hy3, hy4, hy5⟩
  show JQ _ _ _ [(4, Ptr nb1 0), (8, Ptr nb3 0), (9, .nilIface), (10, Ptr ynb0 0)] [⟨nb1, cu8 key, 54, (0, 0)⟩, ⟨nb3, [U64 0, U64 0, I64 0, .slice none 0 0, .slice none 0 0, U64 0] ++ cu8 (zr8 16), 29, (0, 0)⟩, ⟨ynb1, cu64 l ++ ysp5, 22, (0, 0)⟩, ⟨ynb0, [U64 pv, U64 ep, I64 k, Slc ynb1 0 ni ycp2, .slice yao3 0 yca4, U64 bl] ++ cu8 (zr8 16), 29, (0, 0)⟩]
  refine AE (AI (AD (AA (.agg ([U64 pv, U64 ep, I64 k, Slc ynb1 0 ni ycp2, .slice yao3 0 yca4, U64 bl] ++ cu8 (zr8 16)).toArray) (AK rfl (BH A9 AT (by simp [(AP 16)]) (AS 3 rfl (AL _)))) rfl ?_)))
  refine A1 (BI 114 [.agg ([U64 pv, U64 ep, I64 k, Slc ynb1 0 ni ycp2, .slice yao3 0 yca4, U64 bl] ++ cu8 (zr8 16)).toArray] _ (AY _ Tryd.call114 rfl) (fun w1 hw1 => text_w pv ep k (some ⟨ynb1, 0, none⟩) ni ycp2 l yao3 0 yca4 ([] : List SealR) bl (zr8 16) tot w1 hl (by omega) (by omega) (by omega) (RdV.of hw1 (AS 2 rfl (A4 (AL _)))) rfl (by omega) (by omega) (by omega) RdV.nil (AP 16) hmay (by omega) (by omega) htot)) rfl ?_
  rintro v1 L1 ⟨_, ⟨nb9, sp3, cp3, rfl, rfl, hc13, hc14, hc15⟩, rfl⟩
  show JL _ _ _ _ ((29, .tuple #[Slc nb9 0 tot cp3, .nilIface]) :: _) [_, _, _, _, ⟨nb9, cu8 (tktT pv ep k l ([] : List SealR) bl) ++ sp3, 5, (0, 0)⟩]
  refine AA _ (AH rfl) rfl ?_
  refine AA _ (B4 rfl rfl) rfl ?_
  refine AA _ (B4 rfl rfl) rfl ?_
  refine AA _ (AG rfl) rfl ?_
  refine AA _ (AG rfl) rfl ?_
  refine AN (AE (AI (AI (AD (AA _ (AH rfl) rfl ?_)))))
  refine AA (.bool false) (C2 _ _ _ rfl rfl (fun _ => EA ..) fun _ => DC A6) rfl ?_
  refine AN (AE (CK _ rfl rfl ?_))
  refine BT (AE (AI (C1 44 4 [(0, Ptr ynb0 6), (1, Slc ynb0 6 16 16), (2, Slc nb1 0 32 32), (3, Slc nb9 0 tot cp3)] BV rfl (by decide +kernel) ?_)))
  refine CR ⟨[], [0, 1, 2, 3], [], [0, 1, 2, 3], [4]⟩ 4 _ rfl rfl (by decide +kernel) rfl ⟨⟨_, rfl, AC rfl (AB 6 27 16 AO rfl BE rfl rfl)⟩, ⟨_, rfl, AC rfl (B3 16 5 1 0 16 6 16 BJ AW rfl rfl rfl (by omega) (by omega) (by omega) (by omega) (by omega) 16 (by omega))⟩, ⟨_, rfl, AC rfl (B3 32 5 1 0 32 0 32 B9 AW rfl rfl rfl (by omega) (by omega) (by omega) (by omega) (by omega) 32 (by omega))⟩, A2 rfl rfl rfl, trivial⟩ rfl (AZ rfl (B0 43 1 _ [(0, Slc nb9 0 tot cp3)] ([Slc nb9 0 tot cp3]) ER B7 Tryd.zeroValue43 rfl rfl rfl (by kernel_rfl))) ?_
  rintro v1 L1 ⟨nb10, hnb10, rfl, rfl⟩
  refine ⟨[], ?_⟩
  show DP _ _ _ _ _ _ _ _ [_, _, _, _, _, ⟨nb10, [Slc nb9 0 tot cp3], 43, (0, 0)⟩]
  refine CR ⟨[4], [0, 1, 2, 3], [3], [0, 1, 2], [5]⟩ 5 _ rfl rfl (by decide +kernel) rfl ⟨⟨_, rfl, AC rfl (AB 6 27 16 AO rfl BE rfl rfl)⟩, ⟨_, rfl, AC rfl (B3 16 5 1 0 16 6 16 BJ AW rfl rfl rfl (by omega) (by omega) (by omega) (by omega) (by omega) 16 (by omega))⟩, ⟨_, rfl, AC rfl (B3 32 5 1 0 32 0 32 B9 AW rfl rfl rfl (by omega) (by omega) (by omega) (by omega) (by omega) 32 (by omega))⟩, trivial⟩ rfl (AZ rfl (BI 90 [Slc nb1 0 32 32, Slc nb10 0 1 1] _ (AY _ Tryd.call90 rfl) (fun w1 hw1 => short_c (some ⟨nb1, 0, none⟩) 32 32 key nb10 1 [Slc nb9 0 tot cp3] [tktT pv ep k l ([] : List SealR) bl] w1 hk32 (fun h => by cases h) (by omega) (RdB.of hw1 (AS 0 rfl (AL _)) (by simp)) (by simp) (by simp) (by simp) ⟨RdA.of hw1 (AS 5 rfl (Seg.head)) (by simp), ⟨⟨(some ⟨nb9, 0, none⟩), cp3, congrArg (fun n => Value.slice (some ⟨nb9, 0, none⟩) n cp3) ((show (tktT pv ep k l ([] : List SealR) bl).length = tot from ((EX hl rfl).trans htot))).symm, (RdB.of hw1 (AS 4 rfl (A4 (AL _))) (by simp))⟩, trivial⟩⟩ (by simp only [List.flatten_cons, List.flatten_nil, List.length_append, List.length_nil, (show (tktT pv ep k l ([] : List SealR) bl).length = tot from ((EX hl rfl).trans htot))]; omega) (hG.at hw1)))) ?_
  rintro v1 L1 ⟨_, ⟨nb11, sp4, cp4, rfl, rfl, hc16, hc17, hc18⟩, rfl⟩
  refine ⟨[], ?_⟩
  show DP _ _ _ _ _ _ _ _ [_, _, _, _, _, _, ⟨nb11, cu8 (mid (macL key ([tktT pv ep k l ([] : List SealR) bl].flatten)) 0 16) ++ sp4, 5, (0, 0)⟩]
  refine CQ ⟨[4, 5], [0, 1, 2, 3], [2, 3], [0, 1], [6]⟩ 6 rfl rfl (by decide +kernel) rfl ⟨⟨_, rfl, AC rfl (AB 6 27 16 AO rfl BE rfl rfl)⟩, ⟨_, rfl, AC rfl (B3 16 5 1 0 16 6 16 BJ AW rfl rfl rfl (by omega) (by omega) (by omega) (by omega) (by omega) 16 (by omega))⟩, trivial⟩ rfl (AZ rfl (EW 43 43 5 3 ynb0 6 16 16 ([U64 pv, U64 ep, I64 k, Slc ynb1 0 ni ycp2, .slice yao3 0 yca4, U64 bl] ++ cu8 (zr8 16)) 29 (some ⟨nb11, 0, none⟩) 16 cp4 16 (cu8 (mid (macL key ([tktT pv ep k l ([] : List SealR) bl].flatten)) 0 16)) ([U64 pv, U64 ep, I64 k, Slc ynb1 0 ni ycp2, .slice yao3 0 yca4, U64 bl] ++ cu8 (mid (macL key ([tktT pv ep k l ([] : List SealR) bl].flatten)) 0 16)) AM DZ rfl rfl rfl rfl (by rw [FY]; exact (show (mid (macL key ([tktT pv ep k l ([] : List SealR) bl].flatten)) 0 16).length = 16 from E3 (by rw [EB]; omega))) (SrcAt.mem (AS 6 rfl (A4 (AL _)))) (by simp [(AP 16)]; try omega) (by first | exact CD | exact D3 | exact D1 | (simp [cu8, cu32, cu64, Value.oneCell']; done)) (GD 6 0 rfl rfl (BC (by rw [FY, FY]; first | exact ((show (mid (macL key ([tktT pv ep k l ([] : List SealR) bl].flatten)) 0 16).length = 16 from E3 (by rw [EB]; omega))).trans ((AP 16)).symm | exact ((AP 16)).trans ((show (mid (macL key ([tktT pv ep k l ([] : List SealR) bl].flatten)) 0 16).length = 16 from E3 (by rw [EB]; omega))).symm))))) ?_
  show DP _ _ _ _ _ _ _ _ [_, _, _, ⟨ynb0, [U64 pv, U64 ep, I64 k, Slc ynb1 0 ni ycp2, .slice yao3 0 yca4, U64 bl] ++ cu8 (mid (macL key ([tktT pv ep k l ([] : List SealR) bl].flatten)) 0 16), 29, (0, 0)⟩, _, _, _]
  refine C4 ⟨[4, 5, 6], [0, 1, 2, 3], [0, 1, 2, 3], [], []⟩ rfl rfl (by decide +kernel) rfl trivial ?_
  refine CI (F' := [(8, Ptr nb3 0), (9, .nilIface), (10, Ptr ynb0 0)]) (by kernel_rfl) ?_
  refine AE (AI ?_)
  rw [tkG_of key pv ep k l ([] : List SealR) bl]
  show JC _ _ _ _ [⟨nb1, cu8 key, 54, (0, 0)⟩, ⟨nb3, [U64 0, U64 0, I64 0, .slice none 0 0, .slice none 0 0, U64 0] ++ cu8 (zr8 16), 29, (0, 0)⟩, ⟨ynb1, cu64 l ++ ysp5, 22, (0, 0)⟩, ⟨ynb0, [U64 pv, U64 ep, I64 k, Slc ynb1 0 ni ycp2, .slice yao3 0 yca4, U64 bl] ++ cu8 (tkG key pv ep k l ([] : List SealR) bl), 29, (0, 0)⟩, ⟨nb9, cu8 (tktT pv ep k l ([] : List SealR) bl) ++ sp3, 5, (0, 0)⟩, ⟨nb10, [Slc nb9 0 tot cp3], 43, (0, 0)⟩, ⟨nb11, cu8 (tkG key pv ep k l ([] : List SealR) bl) ++ sp4, 5, (0, 0)⟩]
  refine AD (AA (.agg ([U64 pv, U64 ep, I64 k, Slc ynb1 0 ni ycp2, .slice yao3 0 yca4, U64 bl] ++ cu8 (tkG key pv ep k l ([] : List SealR) bl)).toArray) (AK rfl (BH A9 AT (by simp [(CL _ _ _ _ _ _ _)]) (AS 3 rfl (AL _)))) rfl ?_)
  refine A7 (A5 1 nb3 22 ([U64 0, U64 0, I64 0, .slice none 0 0, .slice none 0 0, U64 0] ++ cu8 (zr8 16)) 29 ([U64 pv, U64 ep, I64 k, Slc ynb1 0 ni ycp2, .slice yao3 0 yca4, U64 bl] ++ cu8 (tkG key pv ep k l ([] : List SealR) bl)) rfl rfl rfl AT (by simp [(CL _ _ _ _ _ _ _)]) (CO (by simp [Value.oneCell']) CD) (by simp [(AP 16)]) (BC (by simp [(AP 16), (CL _ _ _ _ _ _ _)]))) rfl ?_
  show JL _ _ _ _ _ [_, ⟨nb3, [U64 pv, U64 ep, I64 k, Slc ynb1 0 ni ycp2, .slice yao3 0 yca4, U64 bl] ++ cu8 (tkG key pv ep k l ([] : List SealR) bl), 29, (0, 0)⟩, _, _, _, _, _]
  refine AA _ (AG rfl) rfl ?_
  refine AN (AE (BP (CH [false, true, true, false, false, false, false] ?_)))
  show JQ _ _ _ _ [_, _]
  refine BQ (.tuple #[.agg ([U64 pv, U64 ep, I64 k, Slc ynb1 0 ni ycp2, .slice yao3 0 yca4, U64 bl] ++ cu8 (tkG key pv ep k l ([] : List SealR) bl)).toArray, .nilIface]) (res2 Tryd.results46 (DU rfl (BH A9 AT (by simp [(CL _ _ _ _ _ _ _)]) (AS 0 rfl (AL _)))) (B2 rfl)) fun w1 hw1 => ?_
  exact ⟨_, _, rfl, ⟨ynb1, ysp5, ycp2, yao3, yca4, rfl, rfl, (hy1.trans (by omega)), hy2, hy3, (by omega), hy5⟩, hw1.sub (by simp) (by simp)⟩
theorem sign3_c (key : List UInt8) (pv ep : UInt64) (k : Nat) (ai : Option Addr) (ci : Nat) (sa : Option Addr) (sc : Nat) (bl : UInt64) (tot : Nat)  (w : World) (hk32 : key.length = 32) (hci : ci ≤ maxLen) (hnI : ai = none → ci = 0) (hcs : sc ≤ maxLen) (hnS : sa = none → sc = 0) (hmay : mayN pv ep (k:Int) ([] : List UInt64) ([] : List SealR) bl = 0) (hk : k = 3) (htot : tktN k 0 0 = tot) (htb : tot ≤ 30000) (hG : GLs w)  : Calls Tryd.prog 46 #[.agg (cu8 key).toArray, U64 pv, U64 ep, .agg #[I64 k, .slice ai 0 ci, .slice sa 0 sc, U64 bl]] w (Post w [] (fun v L => ∃ a1 c1 a2 c2, v = .tuple #[.agg ([U64 pv, U64 ep, I64 k, .slice a1 0 c1, .slice a2 0 c2, U64 bl] ++ cu8 (tkG key pv ep k ([] : List UInt64) ([] : List SealR) bl)).toArray, .nilIface] ∧ L = [] ∧ c1 ≤ maxLen ∧ (a1 = none → c1 = 0) ∧ c2 ≤ maxLen ∧ (a2 = none → c2 = 0))) := by
 have hmx : maxLen = 9223372036854775807 := rfl
 refine enter (P := Tryd.prog) (f := 46) (fn := Tryd.f46) w [] 44 [] [.agg (cu8 key).toArray, U64 pv, U64 ep, .agg #[I64 k, .slice ai 0 ci, .slice sa 0 sc, U64 bl]] Tryd.func46 rfl rfl (by simp) (BZ (by simp) (by simp) (by simp)) ?_
 show JC _ _ _ [(0, .agg (cu8 key).toArray), (1, U64 pv), (2, U64 ep), (3, .agg #[I64 k, .slice ai 0 ci, .slice sa 0 sc, U64 bl])] _
 refine AI (AD (A1 (CW (.agg (cu8 key).toArray) (cu8 key) rfl (by first | rfl | simp)) rfl ?_))
 rintro v1 L1 ⟨nb1, hnb1, rfl, rfl⟩
 show JL _ _ _ _ ((4, Ptr nb1 0) :: _) [⟨nb1, cu8 key, 54, (0, 0)⟩]
 refine A1 (CW (.agg #[I64 k, .slice ai 0 ci, .slice sa 0 sc, U64 bl]) ([I64 k, .slice ai 0 ci, .slice sa 0 sc, U64 bl]) rfl (by first | rfl | simp)) rfl ?_
 rintro v1 L1 ⟨nb2, hnb2, rfl, rfl⟩
 show JL _ _ _ _ ((7, Ptr nb2 0) :: _) [_, ⟨nb2, [I64 k, .slice ai 0 ci, .slice sa 0 sc, U64 bl], 26, (0, 0)⟩]
 refine A1 (BG _ ([U64 0, U64 0, I64 0, .slice none 0 0, .slice none 0 0, U64 0] ++ cu8 (zr8 16)) BK (by kernel_rfl)) rfl ?_
 rintro v1 L1 ⟨nb3, hnb3, rfl, rfl⟩
 show JL _ _ _ _ ((8, Ptr nb3 0) :: _) [_, _, ⟨nb3, [U64 0, U64 0, I64 0, .slice none 0 0, .slice none 0 0, U64 0] ++ cu8 (zr8 16), 29, (0, 0)⟩]
 refine AA _ (AG rfl) rfl ?_
 refine AN (AE (AI (JC_cut (ι := Nat × Option Addr × Nat × Option Addr × Nat) (fun ⟨ynb0, yao1, yca2, yao3, yca4⟩ => [(4, Ptr nb1 0), (8, Ptr nb3 0), (9, .nilIface), (10, Ptr ynb0 0)]) (fun ⟨ynb0, yao1, yca2, yao3, yca4⟩ => [⟨nb1, cu8 key, 54, (0, 0)⟩, ⟨nb3, [U64 0, U64 0, I64 0, .slice none 0 0, .slice none 0 0, U64 0] ++ cu8 (zr8 16), 29, (0, 0)⟩, ⟨ynb0, [U64 pv, U64 ep, I64 k, .slice yao1 0 yca2, .slice yao3 0 yca4, U64 bl] ++ cu8 (zr8 16), 29, (0, 0)⟩]) (fun ⟨ynb0, yao1, yca2, yao3, yca4⟩ => yca2 ≤ maxLen ∧ (yao1 = none → yca2 = 0) ∧ yca4 ≤ maxLen ∧ (yao3 = none → yca4 = 0)) ?_ ?_)))
 ·
  refine C1 44 5 [(0, U64 pv), (1, U64 ep), (2, Ptr nb2 0), (3, I64 k), (4, Ptr nb2 1), (5, .slice ai 0 ci), (7, Ptr nb2 2), (8, .slice sa 0 sc), (10, Ptr nb2 3), (11, U64 bl)] BV rfl (by decide +kernel) ?_
  refine DP_two ⟨[], [0, 1, 2, 3, 4, 5, 7, 8, 10, 11], [], [0, 1, 2, 3, 4, 5, 7, 8, 10, 11], [6, 14]⟩ 6 14 _ _ rfl rfl (by decide +kernel) rfl ⟨A2 rfl rfl rfl, A2 rfl rfl rfl, ⟨_, rfl, AC rfl (AB 0 3 1 AF rfl BA rfl rfl)⟩, ⟨_, rfl, AC rfl (AK rfl (AV BF (AS 1 rfl (Seg.head))))⟩, ⟨_, rfl, AC rfl (AB 1 23 1 AF rfl CB rfl rfl)⟩, ⟨_, rfl, AC rfl (AK rfl (AV CP (AS 1 rfl (AJ (Seg.head)))))⟩, ⟨_, rfl, AC rfl (AB 2 24 1 AF rfl BL rfl rfl)⟩, ⟨_, rfl, AC rfl (AK rfl (AV BW (AS 1 rfl (AJ (AJ (Seg.head))))))⟩, ⟨_, rfl, AC rfl (AB 3 22 1 AF rfl AU rfl rfl)⟩, ⟨_, rfl, AC rfl (AK rfl (AV AX (AS 1 rfl (AJ (AJ (AJ (Seg.head)))))))⟩, trivial⟩ rfl rfl (AZ rfl (BI 112 [.slice ai 0 ci] _ (AY _ EY rfl) (fun w1 hw1 => clone64Z_w ai ci w1 (by omega) hnI))) (AZ rfl (BG _ ([U64 0, U64 0, I64 0, .slice none 0 0, .slice none 0 0, U64 0] ++ cu8 (zr8 16)) BK (by kernel_rfl))) ?_ ?_
  ·
   rintro v1 L1 ⟨_, ⟨ao1, ca1, rfl, rfl, hc1, hc2⟩, rfl⟩
   refine ⟨[], ?_⟩
   show DP _ _ _ _ _ _ _ _ [_, _, _]
   refine DP_two ⟨[6], [0, 1, 2, 3, 4, 5, 7, 8, 10, 11], [4, 5], [0, 1, 2, 3, 7, 8, 10, 11], [9, 14]⟩ 9 14 _ _ rfl rfl (by decide +kernel) rfl ⟨A2 rfl rfl rfl, A2 rfl rfl rfl, ⟨_, rfl, AC rfl (AB 0 3 1 AF rfl BA rfl rfl)⟩, ⟨_, rfl, AC rfl (AK rfl (AV BF (AS 1 rfl (Seg.head))))⟩, ⟨_, rfl, AC rfl (AB 2 24 1 AF rfl BL rfl rfl)⟩, ⟨_, rfl, AC rfl (AK rfl (AV BW (AS 1 rfl (AJ (AJ (Seg.head))))))⟩, ⟨_, rfl, AC rfl (AB 3 22 1 AF rfl AU rfl rfl)⟩, ⟨_, rfl, AC rfl (AK rfl (AV AX (AS 1 rfl (AJ (AJ (AJ (Seg.head)))))))⟩, trivial⟩ rfl rfl (AZ rfl (BI 113 [.slice sa 0 sc] _ (AY _ D5 rfl) (fun w1 hw1 => FS sa sc w1 (by omega) hnS))) (AZ rfl (BG _ ([U64 0, U64 0, I64 0, .slice none 0 0, .slice none 0 0, U64 0] ++ cu8 (zr8 16)) BK (by kernel_rfl))) ?_ ?_
   ·
    rintro v1 L1 ⟨_, ⟨ao2, ca2, rfl, rfl, hc3, hc4⟩, rfl⟩
    refine ⟨[(12, .agg #[I64 k, .slice ao1 0 ca1, .slice ao2 0 ca2, U64 bl]), (13, .agg ([U64 pv, U64 ep, I64 k, .slice ao1 0 ca1, .slice ao2 0 ca2, U64 bl] ++ cu8 (zr8 16)).toArray)], ?_⟩
    show DP _ _ _ _ _ _ _ _ [_, _, _]
    refine CR ⟨[6, 9], [0, 1, 2, 3, 4, 5, 7, 8, 10, 11, 12, 13], [4, 5, 7, 8], [0, 1, 2, 3, 10, 11, 12, 13], [14]⟩ 14 _ rfl rfl (by decide +kernel) rfl ⟨A2 rfl rfl rfl, A2 rfl rfl rfl, ⟨_, rfl, AC rfl (AB 0 3 1 AF rfl BA rfl rfl)⟩, ⟨_, rfl, AC rfl (AK rfl (AV BF (AS 1 rfl (Seg.head))))⟩, ⟨_, rfl, AC rfl (AB 3 22 1 AF rfl AU rfl rfl)⟩, ⟨_, rfl, AC rfl (AK rfl (AV AX (AS 1 rfl (AJ (AJ (AJ (Seg.head)))))))⟩, ⟨_, rfl, AC rfl (B8 [(0, I64 k), (1, .slice ao1 0 ca1), (2, .slice ao2 0 ca2), (3, U64 bl)] _ rfl (fun _ => DX rfl rfl rfl rfl))⟩, ⟨_, rfl, AC rfl (B8 [(0, U64 pv), (1, U64 ep), (2, .agg #[I64 k, .slice ao1 0 ca1, .slice ao2 0 ca2, U64 bl])] _ rfl (fun _ => EH rfl rfl (by simp [AP])))⟩, trivial⟩ rfl (AZ rfl (BG _ ([U64 0, U64 0, I64 0, .slice none 0 0, .slice none 0 0, U64 0] ++ cu8 (zr8 16)) BK (by kernel_rfl))) ?_
    rintro v1 L1 ⟨nb6, hnb6, rfl, rfl⟩
    refine ⟨[], ?_⟩
    show DP _ _ _ _ _ _ _ _ [_, _, _, ⟨nb6, [U64 0, U64 0, I64 0, .slice none 0 0, .slice none 0 0, U64 0] ++ cu8 (zr8 16), 29, (0, 0)⟩]
    refine CQ ⟨[6, 9, 14], [0, 1, 2, 3, 4, 5, 7, 8, 10, 11, 12, 13], [4, 5, 7, 8], [0, 1, 2, 3, 10, 11, 12, 13], [15]⟩ 15 rfl rfl (by decide +kernel) rfl ⟨A2 rfl rfl rfl, A2 rfl rfl rfl, ⟨_, rfl, AC rfl (AB 0 3 1 AF rfl BA rfl rfl)⟩, ⟨_, rfl, AC rfl (AK rfl (AV BF (AS 1 rfl (Seg.head))))⟩, ⟨_, rfl, AC rfl (AB 3 22 1 AF rfl AU rfl rfl)⟩, ⟨_, rfl, AC rfl (AK rfl (AV AX (AS 1 rfl (AJ (AJ (AJ (Seg.head)))))))⟩, ⟨_, rfl, AC rfl (B8 [(0, I64 k), (1, .slice ao1 0 ca1), (2, .slice ao2 0 ca2), (3, U64 bl)] _ rfl (fun _ => DX rfl rfl rfl rfl))⟩, ⟨_, rfl, AC rfl (B8 [(0, U64 pv), (1, U64 ep), (2, .agg #[I64 k, .slice ao1 0 ca1, .slice ao2 0 ca2, U64 bl])] _ rfl (fun _ => EH rfl rfl (by simp [AP])))⟩, trivial⟩ rfl (AZ rfl (A5 3 nb6 22 ([U64 0, U64 0, I64 0, .slice none 0 0, .slice none 0 0, U64 0] ++ cu8 (zr8 16)) 29 ([U64 pv, U64 ep, I64 k, .slice ao1 0 ca1, .slice ao2 0 ca2, U64 bl] ++ cu8 (zr8 16)) rfl rfl rfl AT (by simp [(AP 16)]) (CO (by simp [Value.oneCell']) CD) (by simp [(AP 16)]) (BC (by simp [(AP 16), (AP 16)])))) ?_
    show DP _ _ _ _ _ _ _ _ [_, _, _, ⟨nb6, [U64 pv, U64 ep, I64 k, .slice ao1 0 ca1, .slice ao2 0 ca2, U64 bl] ++ cu8 (zr8 16), 29, (0, 0)⟩]
    refine C4 ⟨[6, 9, 14, 15], [0, 1, 2, 3, 4, 5, 7, 8, 10, 11, 12, 13], [0, 1, 2, 3, 4, 5, 7, 8, 10, 11, 12, 13], [], []⟩ rfl rfl (by decide +kernel) rfl trivial ?_
    refine CI (F' := [(10, Ptr nb6 0), (4, Ptr nb1 0), (8, Ptr nb3 0), (9, .nilIface)]) (by kernel_rfl) ?_
    refine E9 [0, 2, 3] (by decide) ?_
    show JQ _ _ _ _ [_, _, _]
    refine E6 (nb6, ao1, ca1, ao2, ca2) ⟨(by first | omega | (simp; done)), (by first | exact hc2 | omega | (simp; done)), (by first | omega | (simp; done)), (by first | exact hc4 | omega | (simp; done))⟩ (Sub.all rfl) rfl
   ·
    rintro v1 L1 ⟨nb5, hnb5, rfl, rfl⟩
    refine ⟨[], ?_⟩
    show DP _ _ _ _ _ _ _ _ [_, _, _, ⟨nb5, [U64 0, U64 0, I64 0, .slice none 0 0, .slice none 0 0, U64 0] ++ cu8 (zr8 16), 29, (0, 0)⟩]
    refine CR ⟨[6, 14], [0, 1, 2, 3, 4, 5, 7, 8, 10, 11], [4, 5], [0, 1, 2, 3, 7, 8, 10, 11], [9]⟩ 9 _ rfl rfl (by decide +kernel) rfl ⟨A2 rfl rfl rfl, A2 rfl rfl rfl, ⟨_, rfl, AC rfl (AB 0 3 1 AF rfl BA rfl rfl)⟩, ⟨_, rfl, AC rfl (AK rfl (AV BF (AS 1 rfl (Seg.head))))⟩, ⟨_, rfl, AC rfl (AB 2 24 1 AF rfl BL rfl rfl)⟩, ⟨_, rfl, AC rfl (AK rfl (AV BW (AS 1 rfl (AJ (AJ (Seg.head))))))⟩, ⟨_, rfl, AC rfl (AB 3 22 1 AF rfl AU rfl rfl)⟩, ⟨_, rfl, AC rfl (AK rfl (AV AX (AS 1 rfl (AJ (AJ (AJ (Seg.head)))))))⟩, trivial⟩ rfl (AZ rfl (BI 113 [.slice sa 0 sc] _ (AY _ D5 rfl) (fun w1 hw1 => FS sa sc w1 (by omega) hnS))) ?_
    rintro v1 L1 ⟨_, ⟨ao3, ca3, rfl, rfl, hc5, hc6⟩, rfl⟩
    refine ⟨[(12, .agg #[I64 k, .slice ao1 0 ca1, .slice ao3 0 ca3, U64 bl]), (13, .agg ([U64 pv, U64 ep, I64 k, .slice ao1 0 ca1, .slice ao3 0 ca3, U64 bl] ++ cu8 (zr8 16)).toArray)], ?_⟩
    show DP _ _ _ _ _ _ _ _ [_, _, _, _]
    refine CQ ⟨[6, 14, 9], [0, 1, 2, 3, 4, 5, 7, 8, 10, 11, 12, 13], [4, 5, 7, 8], [0, 1, 2, 3, 10, 11, 12, 13], [15]⟩ 15 rfl rfl (by decide +kernel) rfl ⟨A2 rfl rfl rfl, A2 rfl rfl rfl, ⟨_, rfl, AC rfl (AB 0 3 1 AF rfl BA rfl rfl)⟩, ⟨_, rfl, AC rfl (AK rfl (AV BF (AS 1 rfl (Seg.head))))⟩, ⟨_, rfl, AC rfl (AB 3 22 1 AF rfl AU rfl rfl)⟩, ⟨_, rfl, AC rfl (AK rfl (AV AX (AS 1 rfl (AJ (AJ (AJ (Seg.head)))))))⟩, ⟨_, rfl, AC rfl (B8 [(0, I64 k), (1, .slice ao1 0 ca1), (2, .slice ao3 0 ca3), (3, U64 bl)] _ rfl (fun _ => DX rfl rfl rfl rfl))⟩, ⟨_, rfl, AC rfl (B8 [(0, U64 pv), (1, U64 ep), (2, .agg #[I64 k, .slice ao1 0 ca1, .slice ao3 0 ca3, U64 bl])] _ rfl (fun _ => EH rfl rfl (by simp [AP])))⟩, trivial⟩ rfl (AZ rfl (A5 3 nb5 22 ([U64 0, U64 0, I64 0, .slice none 0 0, .slice none 0 0, U64 0] ++ cu8 (zr8 16)) 29 ([U64 pv, U64 ep, I64 k, .slice ao1 0 ca1, .slice ao3 0 ca3, U64 bl] ++ cu8 (zr8 16)) rfl rfl rfl AT (by simp [(AP 16)]) (CO (by simp [Value.oneCell']) CD) (by simp [(AP 16)]) (BC (by simp [(AP 16), (AP 16)])))) ?_
    show DP _ _ _ _ _ _ _ _ [_, _, _, ⟨nb5, [U64 pv, U64 ep, I64 k, .slice ao1 0 ca1, .slice ao3 0 ca3, U64 bl] ++ cu8 (zr8 16), 29, (0, 0)⟩]
    refine C4 ⟨[6, 14, 9, 15], [0, 1, 2, 3, 4, 5, 7, 8, 10, 11, 12, 13], [0, 1, 2, 3, 4, 5, 7, 8, 10, 11, 12, 13], [], []⟩ rfl rfl (by decide +kernel) rfl trivial ?_
    refine CI (F' := [(10, Ptr nb5 0), (4, Ptr nb1 0), (8, Ptr nb3 0), (9, .nilIface)]) (by kernel_rfl) ?_
    refine E9 [0, 2, 3] (by decide) ?_
    show JQ _ _ _ _ [_, _, _]
    refine E6 (nb5, ao1, ca1, ao3, ca3) ⟨(by first | omega | (simp; done)), (by first | exact hc2 | omega | (simp; done)), (by first | omega | (simp; done)), (by first | exact hc6 | omega | (simp; done))⟩ (Sub.all rfl) rfl
  ·
   rintro v1 L1 ⟨nb4, hnb4, rfl, rfl⟩
   refine ⟨[], ?_⟩
   show DP _ _ _ _ _ _ _ _ [_, _, _, ⟨nb4, [U64 0, U64 0, I64 0, .slice none 0 0, .slice none 0 0, U64 0] ++ cu8 (zr8 16), 29, (0, 0)⟩]
   refine CR ⟨[14], [0, 1, 2, 3, 4, 5, 7, 8, 10, 11], [], [0, 1, 2, 3, 4, 5, 7, 8, 10, 11], [6]⟩ 6 _ rfl rfl (by decide +kernel) rfl ⟨A2 rfl rfl rfl, A2 rfl rfl rfl, ⟨_, rfl, AC rfl (AB 0 3 1 AF rfl BA rfl rfl)⟩, ⟨_, rfl, AC rfl (AK rfl (AV BF (AS 1 rfl (Seg.head))))⟩, ⟨_, rfl, AC rfl (AB 1 23 1 AF rfl CB rfl rfl)⟩, ⟨_, rfl, AC rfl (AK rfl (AV CP (AS 1 rfl (AJ (Seg.head)))))⟩, ⟨_, rfl, AC rfl (AB 2 24 1 AF rfl BL rfl rfl)⟩, ⟨_, rfl, AC rfl (AK rfl (AV BW (AS 1 rfl (AJ (AJ (Seg.head))))))⟩, ⟨_, rfl, AC rfl (AB 3 22 1 AF rfl AU rfl rfl)⟩, ⟨_, rfl, AC rfl (AK rfl (AV AX (AS 1 rfl (AJ (AJ (AJ (Seg.head)))))))⟩, trivial⟩ rfl (AZ rfl (BI 112 [.slice ai 0 ci] _ (AY _ EY rfl) (fun w1 hw1 => clone64Z_w ai ci w1 (by omega) hnI))) ?_
   rintro v1 L1 ⟨_, ⟨ao4, ca4, rfl, rfl, hc7, hc8⟩, rfl⟩
   refine ⟨[], ?_⟩
   show DP _ _ _ _ _ _ _ _ [_, _, _, _]
   refine CR ⟨[14, 6], [0, 1, 2, 3, 4, 5, 7, 8, 10, 11], [4, 5], [0, 1, 2, 3, 7, 8, 10, 11], [9]⟩ 9 _ rfl rfl (by decide +kernel) rfl ⟨A2 rfl rfl rfl, A2 rfl rfl rfl, ⟨_, rfl, AC rfl (AB 0 3 1 AF rfl BA rfl rfl)⟩, ⟨_, rfl, AC rfl (AK rfl (AV BF (AS 1 rfl (Seg.head))))⟩, ⟨_, rfl, AC rfl (AB 2 24 1 AF rfl BL rfl rfl)⟩, ⟨_, rfl, AC rfl (AK rfl (AV BW (AS 1 rfl (AJ (AJ (Seg.head))))))⟩, ⟨_, rfl, AC rfl (AB 3 22 1 AF rfl AU rfl rfl)⟩, ⟨_, rfl, AC rfl (AK rfl (AV AX (AS 1 rfl (AJ (AJ (AJ (Seg.head)))))))⟩, trivial⟩ rfl (AZ rfl (BI 113 [.slice sa 0 sc] _ (AY _ D5 rfl) (fun w1 hw1 => FS sa sc w1 (by omega) hnS))) ?_
   rintro v1 L1 ⟨_, ⟨ao5, ca5, rfl, rfl, hc9, hc10⟩, rfl⟩
   refine ⟨[(12, .agg #[I64 k, .slice ao4 0 ca4, .slice ao5 0 ca5, U64 bl]), (13, .agg ([U64 pv, U64 ep, I64 k, .slice ao4 0 ca4, .slice ao5 0 ca5, U64 bl] ++ cu8 (zr8 16)).toArray)], ?_⟩
   show DP _ _ _ _ _ _ _ _ [_, _, _, _]
   refine CQ ⟨[14, 6, 9], [0, 1, 2, 3, 4, 5, 7, 8, 10, 11, 12, 13], [4, 5, 7, 8], [0, 1, 2, 3, 10, 11, 12, 13], [15]⟩ 15 rfl rfl (by decide +kernel) rfl ⟨A2 rfl rfl rfl, A2 rfl rfl rfl, ⟨_, rfl, AC rfl (AB 0 3 1 AF rfl BA rfl rfl)⟩, ⟨_, rfl, AC rfl (AK rfl (AV BF (AS 1 rfl (Seg.head))))⟩, ⟨_, rfl, AC rfl (AB 3 22 1 AF rfl AU rfl rfl)⟩, ⟨_, rfl, AC rfl (AK rfl (AV AX (AS 1 rfl (AJ (AJ (AJ (Seg.head)))))))⟩, ⟨_, rfl, AC rfl (B8 [(0, I64 k), (1, .slice ao4 0 ca4), (2, .slice ao5 0 ca5), (3, U64 bl)] _ rfl (fun _ => DX rfl rfl rfl rfl))⟩, ⟨_, rfl, AC rfl (B8 [(0, U64 pv), (1, U64 ep), (2, .agg #[I64 k, .slice ao4 0 ca4, .slice ao5 0 ca5, U64 bl])] _ rfl (fun _ => EH rfl rfl (by simp [AP])))⟩, trivial⟩ rfl (AZ rfl (A5 3 nb4 22 ([U64 0, U64 0, I64 0, .slice none 0 0, .slice none 0 0, U64 0] ++ cu8 (zr8 16)) 29 ([U64 pv, U64 ep, I64 k, .slice ao4 0 ca4, .slice ao5 0 ca5, U64 bl] ++ cu8 (zr8 16)) rfl rfl rfl AT (by simp [(AP 16)]) (CO (by simp [Value.oneCell']) CD) (by simp [(AP 16)]) (BC (by simp [(AP 16), (AP 16)])))) ?_
   show DP _ _ _ _ _ _ _ _ [_, _, _, ⟨nb4, [U64 pv, U64 ep, I64 k, .slice ao4 0 ca4, .slice ao5 0 ca5, U64 bl] ++ cu8 (zr8 16), 29, (0, 0)⟩]
   refine C4 ⟨[14, 6, 9, 15], [0, 1, 2, 3, 4, 5, 7, 8, 10, 11, 12, 13], [0, 1, 2, 3, 4, 5, 7, 8, 10, 11, 12, 13], [], []⟩ rfl rfl (by decide +kernel) rfl trivial ?_
   refine CI (F' := [(10, Ptr nb4 0), (4, Ptr nb1 0), (8, Ptr nb3 0), (9, .nilIface)]) (by kernel_rfl) ?_
   refine E9 [0, 2, 3] (by decide) ?_
   show JQ _ _ _ _ [_, _, _]
   refine E6 (nb4, ao4, ca4, ao5, ca5) ⟨(by first | omega | (simp; done)), (by first | exact hc8 | omega | (simp; done)), (by first | omega | (simp; done)), (by first | exact hc10 | omega | (simp; done))⟩ (Sub.all rfl) rfl
 ·
  rintro ⟨ynb0, yao1, yca2, yao3, yca4⟩ ⟨hy1, hy2, hy3, hy4⟩
  show JQ _ _ _ [(4, Ptr nb1 0), (8, Ptr nb3 0), (9, .nilIface), (10, Ptr ynb0 0)] [⟨nb1, cu8 key, 54, (0, 0)⟩, ⟨nb3, [U64 0, U64 0, I64 0, .slice none 0 0, .slice none 0 0, U64 0] ++ cu8 (zr8 16), 29, (0, 0)⟩, ⟨ynb0, [U64 pv, U64 ep, I64 k, .slice yao1 0 yca2, .slice yao3 0 yca4, U64 bl] ++ cu8 (zr8 16), 29, (0, 0)⟩]
  refine AE (AI (AD (AA (.agg ([U64 pv, U64 ep, I64 k, .slice yao1 0 yca2, .slice yao3 0 yca4, U64 bl] ++ cu8 (zr8 16)).toArray) (AK rfl (BH A9 AT (by simp [(AP 16)]) (AS 2 rfl (AL _)))) rfl ?_)))
  refine A1 (BI 114 [.agg ([U64 pv, U64 ep, I64 k, .slice yao1 0 yca2, .slice yao3 0 yca4, U64 bl] ++ cu8 (zr8 16)).toArray] _ (AY _ Tryd.call114 rfl) (fun w1 hw1 => text_w pv ep k yao1 0 yca2 ([] : List UInt64) yao3 0 yca4 ([] : List SealR) bl (zr8 16) tot w1 rfl (by omega) (by omega) (by omega) RdV.nil rfl (by omega) (by omega) (by omega) RdV.nil (AP 16) hmay (by omega) (by omega) htot)) rfl ?_
  rintro v1 L1 ⟨_, ⟨nb7, sp1, cp1, rfl, rfl, hc11, hc12, hc13⟩, rfl⟩
  show JL _ _ _ _ ((29, .tuple #[Slc nb7 0 tot cp1, .nilIface]) :: _) [_, _, _, ⟨nb7, cu8 (tktT pv ep k ([] : List UInt64) ([] : List SealR) bl) ++ sp1, 5, (0, 0)⟩]
  refine AA _ (AH rfl) rfl ?_
  refine AA _ (B4 rfl rfl) rfl ?_
  refine AA _ (B4 rfl rfl) rfl ?_
  refine AA _ (AG rfl) rfl ?_
  refine AA _ (AG rfl) rfl ?_
  refine AN (AE (AI (AI (AD (AA _ (AH rfl) rfl ?_)))))
  refine AA (.bool false) (C2 _ _ _ rfl rfl (fun _ => EA ..) fun _ => DC A6) rfl ?_
  refine AN (AE (CK _ rfl rfl ?_))
  refine BT (AE (AI (C1 44 4 [(0, Ptr ynb0 6), (1, Slc ynb0 6 16 16), (2, Slc nb1 0 32 32), (3, Slc nb7 0 tot cp1)] BV rfl (by decide +kernel) ?_)))
  refine CR ⟨[], [0, 1, 2, 3], [], [0, 1, 2, 3], [4]⟩ 4 _ rfl rfl (by decide +kernel) rfl ⟨⟨_, rfl, AC rfl (AB 6 27 16 AO rfl BE rfl rfl)⟩, ⟨_, rfl, AC rfl (B3 16 5 1 0 16 6 16 BJ AW rfl rfl rfl (by omega) (by omega) (by omega) (by omega) (by omega) 16 (by omega))⟩, ⟨_, rfl, AC rfl (B3 32 5 1 0 32 0 32 B9 AW rfl rfl rfl (by omega) (by omega) (by omega) (by omega) (by omega) 32 (by omega))⟩, A2 rfl rfl rfl, trivial⟩ rfl (AZ rfl (B0 43 1 _ [(0, Slc nb7 0 tot cp1)] ([Slc nb7 0 tot cp1]) ER B7 Tryd.zeroValue43 rfl rfl rfl (by kernel_rfl))) ?_
  rintro v1 L1 ⟨nb8, hnb8, rfl, rfl⟩
  refine ⟨[], ?_⟩
  show DP _ _ _ _ _ _ _ _ [_, _, _, _, ⟨nb8, [Slc nb7 0 tot cp1], 43, (0, 0)⟩]
  refine CR ⟨[4], [0, 1, 2, 3], [3], [0, 1, 2], [5]⟩ 5 _ rfl rfl (by decide +kernel) rfl ⟨⟨_, rfl, AC rfl (AB 6 27 16 AO rfl BE rfl rfl)⟩, ⟨_, rfl, AC rfl (B3 16 5 1 0 16 6 16 BJ AW rfl rfl rfl (by omega) (by omega) (by omega) (by omega) (by omega) 16 (by omega))⟩, ⟨_, rfl, AC rfl (B3 32 5 1 0 32 0 32 B9 AW rfl rfl rfl (by omega) (by omega) (by omega) (by omega) (by omega) 32 (by omega))⟩, trivial⟩ rfl (AZ rfl (BI 90 [Slc nb1 0 32 32, Slc nb8 0 1 1] _ (AY _ Tryd.call90 rfl) (fun w1 hw1 => short_c (some ⟨nb1, 0, none⟩) 32 32 key nb8 1 [Slc nb7 0 tot cp1] [tktT pv ep k ([] : List UInt64) ([] : List SealR) bl] w1 hk32 (fun h => by cases h) (by omega) (RdB.of hw1 (AS 0 rfl (AL _)) (by simp)) (by simp) (by simp) (by simp) ⟨RdA.of hw1 (AS 4 rfl (Seg.head)) (by simp), ⟨⟨(some ⟨nb7, 0, none⟩), cp1, congrArg (fun n => Value.slice (some ⟨nb7, 0, none⟩) n cp1) ((show (tktT pv ep k ([] : List UInt64) ([] : List SealR) bl).length = tot from ((EX rfl rfl).trans htot))).symm, (RdB.of hw1 (AS 3 rfl (A4 (AL _))) (by simp))⟩, trivial⟩⟩ (by simp only [List.flatten_cons, List.flatten_nil, List.length_append, List.length_nil, (show (tktT pv ep k ([] : List UInt64) ([] : List SealR) bl).length = tot from ((EX rfl rfl).trans htot))]; omega) (hG.at hw1)))) ?_
  rintro v1 L1 ⟨_, ⟨nb9, sp2, cp2, rfl, rfl, hc14, hc15, hc16⟩, rfl⟩
  refine ⟨[], ?_⟩
  show DP _ _ _ _ _ _ _ _ [_, _, _, _, _, ⟨nb9, cu8 (mid (macL key ([tktT pv ep k ([] : List UInt64) ([] : List SealR) bl].flatten)) 0 16) ++ sp2, 5, (0, 0)⟩]
  refine CQ ⟨[4, 5], [0, 1, 2, 3], [2, 3], [0, 1], [6]⟩ 6 rfl rfl (by decide +kernel) rfl ⟨⟨_, rfl, AC rfl (AB 6 27 16 AO rfl BE rfl rfl)⟩, ⟨_, rfl, AC rfl (B3 16 5 1 0 16 6 16 BJ AW rfl rfl rfl (by omega) (by omega) (by omega) (by omega) (by omega) 16 (by omega))⟩, trivial⟩ rfl (AZ rfl (EW 43 43 5 2 ynb0 6 16 16 ([U64 pv, U64 ep, I64 k, .slice yao1 0 yca2, .slice yao3 0 yca4, U64 bl] ++ cu8 (zr8 16)) 29 (some ⟨nb9, 0, none⟩) 16 cp2 16 (cu8 (mid (macL key ([tktT pv ep k ([] : List UInt64) ([] : List SealR) bl].flatten)) 0 16)) ([U64 pv, U64 ep, I64 k, .slice yao1 0 yca2, .slice yao3 0 yca4, U64 bl] ++ cu8 (mid (macL key ([tktT pv ep k ([] : List UInt64) ([] : List SealR) bl].flatten)) 0 16)) AM DZ rfl rfl rfl rfl (by rw [FY]; exact (show (mid (macL key ([tktT pv ep k ([] : List UInt64) ([] : List SealR) bl].flatten)) 0 16).length = 16 from E3 (by rw [EB]; omega))) (SrcAt.mem (AS 5 rfl (A4 (AL _)))) (by simp [(AP 16)]; try omega) (by first | exact CD | exact D3 | exact D1 | (simp [cu8, cu32, cu64, Value.oneCell']; done)) (GD 6 0 rfl rfl (BC (by rw [FY, FY]; first | exact ((show (mid (macL key ([tktT pv ep k ([] : List UInt64) ([] : List SealR) bl].flatten)) 0 16).length = 16 from E3 (by rw [EB]; omega))).trans ((AP 16)).symm | exact ((AP 16)).trans ((show (mid (macL key ([tktT pv ep k ([] : List UInt64) ([] : List SealR) bl].flatten)) 0 16).length = 16 from E3 (by rw [EB]; omega))).symm))))) ?_
  show DP _ _ _ _ _ _ _ _ [_, _, ⟨ynb0, [U64 pv, U64 ep, I64 k, .slice yao1 0 yca2, .slice yao3 0 yca4, U64 bl] ++ cu8 (mid (macL key ([tktT pv ep k ([] : List UInt64) ([] : List SealR) bl].flatten)) 0 16), 29, (0, 0)⟩, _, _, _]
  refine C4 ⟨[4, 5, 6], [0, 1, 2, 3], [0, 1, 2, 3], [], []⟩ rfl rfl (by decide +kernel) rfl trivial ?_
  refine CI (F' := [(8, Ptr nb3 0), (9, .nilIface), (10, Ptr ynb0 0)]) (by kernel_rfl) ?_
  refine AE (AI ?_)
  rw [tkG_of key pv ep k ([] : List UInt64) ([] : List SealR) bl]
  show JC _ _ _ _ [⟨nb1, cu8 key, 54, (0, 0)⟩, ⟨nb3, [U64 0, U64 0, I64 0, .slice none 0 0, .slice none 0 0, U64 0] ++ cu8 (zr8 16), 29, (0, 0)⟩, ⟨ynb0, [U64 pv, U64 ep, I64 k, .slice yao1 0 yca2, .slice yao3 0 yca4, U64 bl] ++ cu8 (tkG key pv ep k ([] : List UInt64) ([] : List SealR) bl), 29, (0, 0)⟩, ⟨nb7, cu8 (tktT pv ep k ([] : List UInt64) ([] : List SealR) bl) ++ sp1, 5, (0, 0)⟩, ⟨nb8, [Slc nb7 0 tot cp1], 43, (0, 0)⟩, ⟨nb9, cu8 (tkG key pv ep k ([] : List UInt64) ([] : List SealR) bl) ++ sp2, 5, (0, 0)⟩]
  refine AD (AA (.agg ([U64 pv, U64 ep, I64 k, .slice yao1 0 yca2, .slice yao3 0 yca4, U64 bl] ++ cu8 (tkG key pv ep k ([] : List UInt64) ([] : List SealR) bl)).toArray) (AK rfl (BH A9 AT (by simp [(CL _ _ _ _ _ _ _)]) (AS 2 rfl (AL _)))) rfl ?_)
  refine A7 (A5 1 nb3 22 ([U64 0, U64 0, I64 0, .slice none 0 0, .slice none 0 0, U64 0] ++ cu8 (zr8 16)) 29 ([U64 pv, U64 ep, I64 k, .slice yao1 0 yca2, .slice yao3 0 yca4, U64 bl] ++ cu8 (tkG key pv ep k ([] : List UInt64) ([] : List SealR) bl)) rfl rfl rfl AT (by simp [(CL _ _ _ _ _ _ _)]) (CO (by simp [Value.oneCell']) CD) (by simp [(AP 16)]) (BC (by simp [(AP 16), (CL _ _ _ _ _ _ _)]))) rfl ?_
  show JL _ _ _ _ _ [_, ⟨nb3, [U64 pv, U64 ep, I64 k, .slice yao1 0 yca2, .slice yao3 0 yca4, U64 bl] ++ cu8 (tkG key pv ep k ([] : List UInt64) ([] : List SealR) bl), 29, (0, 0)⟩, _, _, _, _]
  refine AA _ (AG rfl) rfl ?_
  refine AN (AE (BP (CH [false, true, false, false, false, false] ?_)))
  show JQ _ _ _ _ [_]
  refine BQ (.tuple #[.agg ([U64 pv, U64 ep, I64 k, .slice yao1 0 yca2, .slice yao3 0 yca4, U64 bl] ++ cu8 (tkG key pv ep k ([] : List UInt64) ([] : List SealR) bl)).toArray, .nilIface]) (res2 Tryd.results46 (DU rfl (BH A9 AT (by simp [(CL _ _ _ _ _ _ _)]) (AS 0 rfl (AL _)))) (B2 rfl)) fun w1 hw1 => ?_
  exact ⟨_, _, rfl, ⟨yao1, yca2, yao3, yca4, rfl, rfl, (by omega), hy2, (by omega), hy4⟩, hw1.sub (by simp) (by simp)⟩
theorem signBPP_c (key : List UInt8) (pv ep : UInt64) (kd : Int) (ai : Option Addr) (ni ci : Nat) (l : List UInt64) (sa : Option Addr) (ns sc : Nat) (ls : List SealR) (bl : UInt64)  (w : World) (hk32 : key.length = 32) (hl : l.length = ni) (hnm : ni ≤ 2000000) (hnc : ni ≤ ci) (hcm : ci ≤ maxLen) (hv : RdV w ai (cu64 l)) (hls : ls.length = ns) (hnn : ns ≤ 2000000) (hnd : ns ≤ sc) (hcn : sc ≤ maxLen) (hs : RdV w sa (ls.flatMap sealC)) (hp1 : 0 < ni) (hp0 : 0 < ns) (hm : mayN pv ep kd l ls bl ≠ 0)  : Calls Tryd.prog 46 #[.agg (cu8 key).toArray, U64 pv, U64 ep, .agg #[I64 (kd), .slice ai ni ci, .slice sa ns sc, U64 bl]] w (Post w [] (fun v L => v = .tuple #[.agg ([U64 0, U64 0, I64 0, .slice none 0 0, .slice none 0 0, U64 0] ++ cu8 (zr8 16)).toArray, errV 50 (mayN pv ep kd l ls bl)] ∧ L = [])) := by
 have hmx : maxLen = 9223372036854775807 := rfl
 refine enter (P := Tryd.prog) (f := 46) (fn := Tryd.f46) w [] 44 [] [.agg (cu8 key).toArray, U64 pv, U64 ep, .agg #[I64 (kd), .slice ai ni ci, .slice sa ns sc, U64 bl]] Tryd.func46 rfl rfl (by simp) (BZ (by simp) (by simp) (by simp)) ?_
 show JC _ _ _ [(0, .agg (cu8 key).toArray), (1, U64 pv), (2, U64 ep), (3, .agg #[I64 (kd), .slice ai ni ci, .slice sa ns sc, U64 bl])] _
 refine AI (AD (A1 (CW (.agg (cu8 key).toArray) (cu8 key) rfl (by first | rfl | simp)) rfl ?_))
 rintro v1 L1 ⟨nb1, hnb1, rfl, rfl⟩
 show JL _ _ _ _ ((4, Ptr nb1 0) :: _) [⟨nb1, cu8 key, 54, (0, 0)⟩]
 refine A1 (CW (.agg #[I64 (kd), .slice ai ni ci, .slice sa ns sc, U64 bl]) ([I64 (kd), .slice ai ni ci, .slice sa ns sc, U64 bl]) rfl (by first | rfl | simp)) rfl ?_
 rintro v1 L1 ⟨nb2, hnb2, rfl, rfl⟩
 show JL _ _ _ _ ((7, Ptr nb2 0) :: _) [_, ⟨nb2, [I64 (kd), .slice ai ni ci, .slice sa ns sc, U64 bl], 26, (0, 0)⟩]
 refine A1 (BG _ ([U64 0, U64 0, I64 0, .slice none 0 0, .slice none 0 0, U64 0] ++ cu8 (zr8 16)) BK (by kernel_rfl)) rfl ?_
 rintro v1 L1 ⟨nb3, hnb3, rfl, rfl⟩
 show JL _ _ _ _ ((8, Ptr nb3 0) :: _) [_, _, ⟨nb3, [U64 0, U64 0, I64 0, .slice none 0 0, .slice none 0 0, U64 0] ++ cu8 (zr8 16), 29, (0, 0)⟩]
 refine AA _ (AG rfl) rfl ?_
 refine AN (AE (AI (JC_cut (ι := Nat × Nat × Nat × Nat × Nat × List Value × List Value) (fun ⟨ynb0, ynb1, ycp2, ynb3, ycp4, ysp5, ysp6⟩ => [(4, Ptr nb1 0), (8, Ptr nb3 0), (9, .nilIface), (10, Ptr ynb0 0)]) (fun ⟨ynb0, ynb1, ycp2, ynb3, ycp4, ysp5, ysp6⟩ => [⟨nb1, cu8 key, 54, (0, 0)⟩, ⟨nb3, [U64 0, U64 0, I64 0, .slice none 0 0, .slice none 0 0, U64 0] ++ cu8 (zr8 16), 29, (0, 0)⟩, ⟨ynb1, cu64 l ++ ysp5, 22, (0, 0)⟩, ⟨ynb3, ls.flatMap sealC ++ ysp6, 161, (0, 0)⟩, ⟨ynb0, [U64 pv, U64 ep, I64 (kd), Slc ynb1 0 ni ycp2, Slc ynb3 0 ns ycp4, U64 bl] ++ cu8 (zr8 16), 29, (0, 0)⟩]) (fun ⟨ynb0, ynb1, ycp2, ynb3, ycp4, ysp5, ysp6⟩ => ysp5.length = (ycp2 - ni) ∧ ni ≤ ycp2 ∧ ycp2 ≤ maxLen ∧ ysp6.length = (49*ycp4 - 49*ns) ∧ ns ≤ ycp4 ∧ ycp4 ≤ maxLen) ?_ ?_)))
 ·
  refine C1 44 5 [(0, U64 pv), (1, U64 ep), (2, Ptr nb2 0), (3, I64 (kd)), (4, Ptr nb2 1), (5, .slice ai ni ci), (7, Ptr nb2 2), (8, .slice sa ns sc), (10, Ptr nb2 3), (11, U64 bl)] BV rfl (by decide +kernel) ?_
  refine DP_two ⟨[], [0, 1, 2, 3, 4, 5, 7, 8, 10, 11], [], [0, 1, 2, 3, 4, 5, 7, 8, 10, 11], [6, 14]⟩ 6 14 _ _ rfl rfl (by decide +kernel) rfl ⟨A2 rfl rfl rfl, A2 rfl rfl rfl, ⟨_, rfl, AC rfl (AB 0 3 1 AF rfl BA rfl rfl)⟩, ⟨_, rfl, AC rfl (AK rfl (AV BF (AS 1 rfl (Seg.head))))⟩, ⟨_, rfl, AC rfl (AB 1 23 1 AF rfl CB rfl rfl)⟩, ⟨_, rfl, AC rfl (AK rfl (AV CP (AS 1 rfl (AJ (Seg.head)))))⟩, ⟨_, rfl, AC rfl (AB 2 24 1 AF rfl BL rfl rfl)⟩, ⟨_, rfl, AC rfl (AK rfl (AV BW (AS 1 rfl (AJ (AJ (Seg.head))))))⟩, ⟨_, rfl, AC rfl (AB 3 22 1 AF rfl AU rfl rfl)⟩, ⟨_, rfl, AC rfl (AK rfl (AV AX (AS 1 rfl (AJ (AJ (AJ (Seg.head)))))))⟩, trivial⟩ rfl rfl (AZ rfl (BI 112 [.slice ai ni ci] _ (AY _ EY rfl) (fun w1 hw1 => GB ai ni ci l w1 hl (by omega) (by omega) (by omega) (EG hw1 rfl hv) (by omega)))) (AZ rfl (BG _ ([U64 0, U64 0, I64 0, .slice none 0 0, .slice none 0 0, U64 0] ++ cu8 (zr8 16)) BK (by kernel_rfl))) ?_ ?_
  ·
   rintro v1 L1 ⟨_, ⟨nb4, sp1, cp1, rfl, rfl, hc1, hc2, hc3⟩, rfl⟩
   refine ⟨[], ?_⟩
   show DP _ _ _ _ _ _ _ _ [_, _, _, ⟨nb4, cu64 l ++ sp1, 22, (0, 0)⟩]
   refine DP_two ⟨[6], [0, 1, 2, 3, 4, 5, 7, 8, 10, 11], [4, 5], [0, 1, 2, 3, 7, 8, 10, 11], [9, 14]⟩ 9 14 _ _ rfl rfl (by decide +kernel) rfl ⟨A2 rfl rfl rfl, A2 rfl rfl rfl, ⟨_, rfl, AC rfl (AB 0 3 1 AF rfl BA rfl rfl)⟩, ⟨_, rfl, AC rfl (AK rfl (AV BF (AS 1 rfl (Seg.head))))⟩, ⟨_, rfl, AC rfl (AB 2 24 1 AF rfl BL rfl rfl)⟩, ⟨_, rfl, AC rfl (AK rfl (AV BW (AS 1 rfl (AJ (AJ (Seg.head))))))⟩, ⟨_, rfl, AC rfl (AB 3 22 1 AF rfl AU rfl rfl)⟩, ⟨_, rfl, AC rfl (AK rfl (AV AX (AS 1 rfl (AJ (AJ (AJ (Seg.head)))))))⟩, trivial⟩ rfl rfl (AZ rfl (BI 113 [.slice sa ns sc] _ (AY _ D5 rfl) (fun w1 hw1 => GF sa ns sc ls w1 hls (by omega) (by omega) (by omega) (EG hw1 rfl hs) (by omega)))) (AZ rfl (BG _ ([U64 0, U64 0, I64 0, .slice none 0 0, .slice none 0 0, U64 0] ++ cu8 (zr8 16)) BK (by kernel_rfl))) ?_ ?_
   ·
    rintro v1 L1 ⟨_, ⟨nb6, sp2, cp2, rfl, rfl, hc4, hc5, hc6⟩, rfl⟩
    refine ⟨[(12, .agg #[I64 (kd), Slc nb4 0 ni cp1, Slc nb6 0 ns cp2, U64 bl]), (13, .agg ([U64 pv, U64 ep, I64 (kd), Slc nb4 0 ni cp1, Slc nb6 0 ns cp2, U64 bl] ++ cu8 (zr8 16)).toArray)], ?_⟩
    show DP _ _ _ _ _ _ _ _ [_, _, _, _, ⟨nb6, ls.flatMap sealC ++ sp2, 161, (0, 0)⟩]
    refine CR ⟨[6, 9], [0, 1, 2, 3, 4, 5, 7, 8, 10, 11, 12, 13], [4, 5, 7, 8], [0, 1, 2, 3, 10, 11, 12, 13], [14]⟩ 14 _ rfl rfl (by decide +kernel) rfl ⟨A2 rfl rfl rfl, A2 rfl rfl rfl, ⟨_, rfl, AC rfl (AB 0 3 1 AF rfl BA rfl rfl)⟩, ⟨_, rfl, AC rfl (AK rfl (AV BF (AS 1 rfl (Seg.head))))⟩, ⟨_, rfl, AC rfl (AB 3 22 1 AF rfl AU rfl rfl)⟩, ⟨_, rfl, AC rfl (AK rfl (AV AX (AS 1 rfl (AJ (AJ (AJ (Seg.head)))))))⟩, ⟨_, rfl, AC rfl (B8 [(0, I64 (kd)), (1, Slc nb4 0 ni cp1), (2, Slc nb6 0 ns cp2), (3, U64 bl)] _ rfl (fun _ => DX rfl rfl rfl rfl))⟩, ⟨_, rfl, AC rfl (B8 [(0, U64 pv), (1, U64 ep), (2, .agg #[I64 (kd), Slc nb4 0 ni cp1, Slc nb6 0 ns cp2, U64 bl])] _ rfl (fun _ => EH rfl rfl (by simp [AP])))⟩, trivial⟩ rfl (AZ rfl (BG _ ([U64 0, U64 0, I64 0, .slice none 0 0, .slice none 0 0, U64 0] ++ cu8 (zr8 16)) BK (by kernel_rfl))) ?_
    rintro v1 L1 ⟨nb8, hnb8, rfl, rfl⟩
    refine ⟨[], ?_⟩
    show DP _ _ _ _ _ _ _ _ [_, _, _, _, _, ⟨nb8, [U64 0, U64 0, I64 0, .slice none 0 0, .slice none 0 0, U64 0] ++ cu8 (zr8 16), 29, (0, 0)⟩]
    refine CQ ⟨[6, 9, 14], [0, 1, 2, 3, 4, 5, 7, 8, 10, 11, 12, 13], [4, 5, 7, 8], [0, 1, 2, 3, 10, 11, 12, 13], [15]⟩ 15 rfl rfl (by decide +kernel) rfl ⟨A2 rfl rfl rfl, A2 rfl rfl rfl, ⟨_, rfl, AC rfl (AB 0 3 1 AF rfl BA rfl rfl)⟩, ⟨_, rfl, AC rfl (AK rfl (AV BF (AS 1 rfl (Seg.head))))⟩, ⟨_, rfl, AC rfl (AB 3 22 1 AF rfl AU rfl rfl)⟩, ⟨_, rfl, AC rfl (AK rfl (AV AX (AS 1 rfl (AJ (AJ (AJ (Seg.head)))))))⟩, ⟨_, rfl, AC rfl (B8 [(0, I64 (kd)), (1, Slc nb4 0 ni cp1), (2, Slc nb6 0 ns cp2), (3, U64 bl)] _ rfl (fun _ => DX rfl rfl rfl rfl))⟩, ⟨_, rfl, AC rfl (B8 [(0, U64 pv), (1, U64 ep), (2, .agg #[I64 (kd), Slc nb4 0 ni cp1, Slc nb6 0 ns cp2, U64 bl])] _ rfl (fun _ => EH rfl rfl (by simp [AP])))⟩, trivial⟩ rfl (AZ rfl (A5 5 nb8 22 ([U64 0, U64 0, I64 0, .slice none 0 0, .slice none 0 0, U64 0] ++ cu8 (zr8 16)) 29 ([U64 pv, U64 ep, I64 (kd), Slc nb4 0 ni cp1, Slc nb6 0 ns cp2, U64 bl] ++ cu8 (zr8 16)) rfl rfl rfl AT (by simp [(AP 16)]) (CO (by simp [Value.oneCell']) CD) (by simp [(AP 16)]) (BC (by simp [(AP 16), (AP 16)])))) ?_
    show DP _ _ _ _ _ _ _ _ [_, _, _, _, _, ⟨nb8, [U64 pv, U64 ep, I64 (kd), Slc nb4 0 ni cp1, Slc nb6 0 ns cp2, U64 bl] ++ cu8 (zr8 16), 29, (0, 0)⟩]
    refine C4 ⟨[6, 9, 14, 15], [0, 1, 2, 3, 4, 5, 7, 8, 10, 11, 12, 13], [0, 1, 2, 3, 4, 5, 7, 8, 10, 11, 12, 13], [], []⟩ rfl rfl (by decide +kernel) rfl trivial ?_
    refine CI (F' := [(10, Ptr nb8 0), (4, Ptr nb1 0), (8, Ptr nb3 0), (9, .nilIface)]) (by kernel_rfl) ?_
    refine E9 [0, 2, 3, 4, 5] (by decide) ?_
    show JQ _ _ _ _ [_, _, _, _, _]
    refine E6 (nb8, nb4, cp1, nb6, cp2, sp1, sp2) ⟨(by first | exact hc1 | omega | (simp; done)), (by first | exact hc2 | omega | (simp; done)), (by first | exact hc3 | omega | (simp; done)), (by first | exact hc4 | omega | (simp; done)), (by first | exact hc5 | omega | (simp; done)), (by first | exact hc6 | omega | (simp; done))⟩ (Sub.all rfl) rfl
   ·
    rintro v1 L1 ⟨nb7, hnb7, rfl, rfl⟩
    refine ⟨[], ?_⟩
    show DP _ _ _ _ _ _ _ _ [_, _, _, _, ⟨nb7, [U64 0, U64 0, I64 0, .slice none 0 0, .slice none 0 0, U64 0] ++ cu8 (zr8 16), 29, (0, 0)⟩]
    refine CR ⟨[6, 14], [0, 1, 2, 3, 4, 5, 7, 8, 10, 11], [4, 5], [0, 1, 2, 3, 7, 8, 10, 11], [9]⟩ 9 _ rfl rfl (by decide +kernel) rfl ⟨A2 rfl rfl rfl, A2 rfl rfl rfl, ⟨_, rfl, AC rfl (AB 0 3 1 AF rfl BA rfl rfl)⟩, ⟨_, rfl, AC rfl (AK rfl (AV BF (AS 1 rfl (Seg.head))))⟩, ⟨_, rfl, AC rfl (AB 2 24 1 AF rfl BL rfl rfl)⟩, ⟨_, rfl, AC rfl (AK rfl (AV BW (AS 1 rfl (AJ (AJ (Seg.head))))))⟩, ⟨_, rfl, AC rfl (AB 3 22 1 AF rfl AU rfl rfl)⟩, ⟨_, rfl, AC rfl (AK rfl (AV AX (AS 1 rfl (AJ (AJ (AJ (Seg.head)))))))⟩, trivial⟩ rfl (AZ rfl (BI 113 [.slice sa ns sc] _ (AY _ D5 rfl) (fun w1 hw1 => GF sa ns sc ls w1 hls (by omega) (by omega) (by omega) (EG hw1 rfl hs) (by omega)))) ?_
    rintro v1 L1 ⟨_, ⟨nb9, sp3, cp3, rfl, rfl, hc7, hc8, hc9⟩, rfl⟩
    refine ⟨[(12, .agg #[I64 (kd), Slc nb4 0 ni cp1, Slc nb9 0 ns cp3, U64 bl]), (13, .agg ([U64 pv, U64 ep, I64 (kd), Slc nb4 0 ni cp1, Slc nb9 0 ns cp3, U64 bl] ++ cu8 (zr8 16)).toArray)], ?_⟩
    show DP _ _ _ _ _ _ _ _ [_, _, _, _, _, ⟨nb9, ls.flatMap sealC ++ sp3, 161, (0, 0)⟩]
    refine CQ ⟨[6, 14, 9], [0, 1, 2, 3, 4, 5, 7, 8, 10, 11, 12, 13], [4, 5, 7, 8], [0, 1, 2, 3, 10, 11, 12, 13], [15]⟩ 15 rfl rfl (by decide +kernel) rfl ⟨A2 rfl rfl rfl, A2 rfl rfl rfl, ⟨_, rfl, AC rfl (AB 0 3 1 AF rfl BA rfl rfl)⟩, ⟨_, rfl, AC rfl (AK rfl (AV BF (AS 1 rfl (Seg.head))))⟩, ⟨_, rfl, AC rfl (AB 3 22 1 AF rfl AU rfl rfl)⟩, ⟨_, rfl, AC rfl (AK rfl (AV AX (AS 1 rfl (AJ (AJ (AJ (Seg.head)))))))⟩, ⟨_, rfl, AC rfl (B8 [(0, I64 (kd)), (1, Slc nb4 0 ni cp1), (2, Slc nb9 0 ns cp3), (3, U64 bl)] _ rfl (fun _ => DX rfl rfl rfl rfl))⟩, ⟨_, rfl, AC rfl (B8 [(0, U64 pv), (1, U64 ep), (2, .agg #[I64 (kd), Slc nb4 0 ni cp1, Slc nb9 0 ns cp3, U64 bl])] _ rfl (fun _ => EH rfl rfl (by simp [AP])))⟩, trivial⟩ rfl (AZ rfl (A5 4 nb7 22 ([U64 0, U64 0, I64 0, .slice none 0 0, .slice none 0 0, U64 0] ++ cu8 (zr8 16)) 29 ([U64 pv, U64 ep, I64 (kd), Slc nb4 0 ni cp1, Slc nb9 0 ns cp3, U64 bl] ++ cu8 (zr8 16)) rfl rfl rfl AT (by simp [(AP 16)]) (CO (by simp [Value.oneCell']) CD) (by simp [(AP 16)]) (BC (by simp [(AP 16), (AP 16)])))) ?_
    show DP _ _ _ _ _ _ _ _ [_, _, _, _, ⟨nb7, [U64 pv, U64 ep, I64 (kd), Slc nb4 0 ni cp1, Slc nb9 0 ns cp3, U64 bl] ++ cu8 (zr8 16), 29, (0, 0)⟩, _]
    refine C4 ⟨[6, 14, 9, 15], [0, 1, 2, 3, 4, 5, 7, 8, 10, 11, 12, 13], [0, 1, 2, 3, 4, 5, 7, 8, 10, 11, 12, 13], [], []⟩ rfl rfl (by decide +kernel) rfl trivial ?_
    refine CI (F' := [(10, Ptr nb7 0), (4, Ptr nb1 0), (8, Ptr nb3 0), (9, .nilIface)]) (by kernel_rfl) ?_
    refine E9 [0, 2, 3, 5, 4] (by decide) ?_
    show JQ _ _ _ _ [_, _, _, _, _]
    refine E6 (nb7, nb4, cp1, nb9, cp3, sp1, sp3) ⟨(by first | exact hc1 | omega | (simp; done)), (by first | exact hc2 | omega | (simp; done)), (by first | exact hc3 | omega | (simp; done)), (by first | exact hc7 | omega | (simp; done)), (by first | exact hc8 | omega | (simp; done)), (by first | exact hc9 | omega | (simp; done))⟩ (Sub.all rfl) rfl
  ·
   rintro v1 L1 ⟨nb5, hnb5, rfl, rfl⟩
   refine ⟨[], ?_⟩
   show DP _ _ _ _ _ _ _ _ [_, _, _, ⟨nb5, [U64 0, U64 0, I64 0, .slice none 0 0, .slice none 0 0, U64 0] ++ cu8 (zr8 16), 29, (0, 0)⟩]
   refine CR ⟨[14], [0, 1, 2, 3, 4, 5, 7, 8, 10, 11], [], [0, 1, 2, 3, 4, 5, 7, 8, 10, 11], [6]⟩ 6 _ rfl rfl (by decide +kernel) rfl ⟨A2 rfl rfl rfl, A2 rfl rfl rfl, ⟨_, rfl, AC rfl (AB 0 3 1 AF rfl BA rfl rfl)⟩, ⟨_, rfl, AC rfl (AK rfl (AV BF (AS 1 rfl (Seg.head))))⟩, ⟨_, rfl, AC rfl (AB 1 23 1 AF rfl CB rfl rfl)⟩, ⟨_, rfl, AC rfl (AK rfl (AV CP (AS 1 rfl (AJ (Seg.head)))))⟩, ⟨_, rfl, AC rfl (AB 2 24 1 AF rfl BL rfl rfl)⟩, ⟨_, rfl, AC rfl (AK rfl (AV BW (AS 1 rfl (AJ (AJ (Seg.head))))))⟩, ⟨_, rfl, AC rfl (AB 3 22 1 AF rfl AU rfl rfl)⟩, ⟨_, rfl, AC rfl (AK rfl (AV AX (AS 1 rfl (AJ (AJ (AJ (Seg.head)))))))⟩, trivial⟩ rfl (AZ rfl (BI 112 [.slice ai ni ci] _ (AY _ EY rfl) (fun w1 hw1 => GB ai ni ci l w1 hl (by omega) (by omega) (by omega) (EG hw1 rfl hv) (by omega)))) ?_
   rintro v1 L1 ⟨_, ⟨nb10, sp4, cp4, rfl, rfl, hc10, hc11, hc12⟩, rfl⟩
   refine ⟨[], ?_⟩
   show DP _ _ _ _ _ _ _ _ [_, _, _, _, ⟨nb10, cu64 l ++ sp4, 22, (0, 0)⟩]
   refine CR ⟨[14, 6], [0, 1, 2, 3, 4, 5, 7, 8, 10, 11], [4, 5], [0, 1, 2, 3, 7, 8, 10, 11], [9]⟩ 9 _ rfl rfl (by decide +kernel) rfl ⟨A2 rfl rfl rfl, A2 rfl rfl rfl, ⟨_, rfl, AC rfl (AB 0 3 1 AF rfl BA rfl rfl)⟩, ⟨_, rfl, AC rfl (AK rfl (AV BF (AS 1 rfl (Seg.head))))⟩, ⟨_, rfl, AC rfl (AB 2 24 1 AF rfl BL rfl rfl)⟩, ⟨_, rfl, AC rfl (AK rfl (AV BW (AS 1 rfl (AJ (AJ (Seg.head))))))⟩, ⟨_, rfl, AC rfl (AB 3 22 1 AF rfl AU rfl rfl)⟩, ⟨_, rfl, AC rfl (AK rfl (AV AX (AS 1 rfl (AJ (AJ (AJ (Seg.head)))))))⟩, trivial⟩ rfl (AZ rfl (BI 113 [.slice sa ns sc] _ (AY _ D5 rfl) (fun w1 hw1 => GF sa ns sc ls w1 hls (by omega) (by omega) (by omega) (EG hw1 rfl hs) (by omega)))) ?_
   rintro v1 L1 ⟨_, ⟨nb11, sp5, cp5, rfl, rfl, hc13, hc14, hc15⟩, rfl⟩
   refine ⟨[(12, .agg #[I64 (kd), Slc nb10 0 ni cp4, Slc nb11 0 ns cp5, U64 bl]), (13, .agg ([U64 pv, U64 ep, I64 (kd), Slc nb10 0 ni cp4, Slc nb11 0 ns cp5, U64 bl] ++ cu8 (zr8 16)).toArray)], ?_⟩
   show DP _ _ _ _ _ _ _ _ [_, _, _, _, _, ⟨nb11, ls.flatMap sealC ++ sp5, 161, (0, 0)⟩]
   refine CQ ⟨[14, 6, 9], [0, 1, 2, 3, 4, 5, 7, 8, 10, 11, 12, 13], [4, 5, 7, 8], [0, 1, 2, 3, 10, 11, 12, 13], [15]⟩ 15 rfl rfl (by decide +kernel) rfl ⟨A2 rfl rfl rfl, A2 rfl rfl rfl, ⟨_, rfl, AC rfl (AB 0 3 1 AF rfl BA rfl rfl)⟩, ⟨_, rfl, AC rfl (AK rfl (AV BF (AS 1 rfl (Seg.head))))⟩, ⟨_, rfl, AC rfl (AB 3 22 1 AF rfl AU rfl rfl)⟩, ⟨_, rfl, AC rfl (AK rfl (AV AX (AS 1 rfl (AJ (AJ (AJ (Seg.head)))))))⟩, ⟨_, rfl, AC rfl (B8 [(0, I64 (kd)), (1, Slc nb10 0 ni cp4), (2, Slc nb11 0 ns cp5), (3, U64 bl)] _ rfl (fun _ => DX rfl rfl rfl rfl))⟩, ⟨_, rfl, AC rfl (B8 [(0, U64 pv), (1, U64 ep), (2, .agg #[I64 (kd), Slc nb10 0 ni cp4, Slc nb11 0 ns cp5, U64 bl])] _ rfl (fun _ => EH rfl rfl (by simp [AP])))⟩, trivial⟩ rfl (AZ rfl (A5 3 nb5 22 ([U64 0, U64 0, I64 0, .slice none 0 0, .slice none 0 0, U64 0] ++ cu8 (zr8 16)) 29 ([U64 pv, U64 ep, I64 (kd), Slc nb10 0 ni cp4, Slc nb11 0 ns cp5, U64 bl] ++ cu8 (zr8 16)) rfl rfl rfl AT (by simp [(AP 16)]) (CO (by simp [Value.oneCell']) CD) (by simp [(AP 16)]) (BC (by simp [(AP 16), (AP 16)])))) ?_
   show DP _ _ _ _ _ _ _ _ [_, _, _, ⟨nb5, [U64 pv, U64 ep, I64 (kd), Slc nb10 0 ni cp4, Slc nb11 0 ns cp5, U64 bl] ++ cu8 (zr8 16), 29, (0, 0)⟩, _, _]
   refine C4 ⟨[14, 6, 9, 15], [0, 1, 2, 3, 4, 5, 7, 8, 10, 11, 12, 13], [0, 1, 2, 3, 4, 5, 7, 8, 10, 11, 12, 13], [], []⟩ rfl rfl (by decide +kernel) rfl trivial ?_
   refine CI (F' := [(10, Ptr nb5 0), (4, Ptr nb1 0), (8, Ptr nb3 0), (9, .nilIface)]) (by kernel_rfl) ?_
   refine E9 [0, 2, 4, 5, 3] (by decide) ?_
   show JQ _ _ _ _ [_, _, _, _, _]
   refine E6 (nb5, nb10, cp4, nb11, cp5, sp4, sp5) ⟨(by first | exact hc10 | omega | (simp; done)), (by first | exact hc11 | omega | (simp; done)), (by first | exact hc12 | omega | (simp; done)), (by first | exact hc13 | omega | (simp; done)), (by first | exact hc14 | omega | (simp; done)), (by first | exact hc15 | omega | (simp; done))⟩ (Sub.all rfl) rfl
 ·
  rintro ⟨ynb0, ynb1, ycp2, ynb3, ycp4, ysp5, ysp6⟩ ⟨hy1, hy2, hy3, hy4, hy5, hy6⟩
  show JQ _ _ _ [(4, Ptr nb1 0), (8, Ptr nb3 0), (9, .nilIface), (10, Ptr ynb0 0)] [⟨nb1, cu8 key, 54, (0, 0)⟩, ⟨nb3, [U64 0, U64 0, I64 0, .slice none 0 0, .slice none 0 0, U64 0] ++ cu8 (zr8 16), 29, (0, 0)⟩, ⟨ynb1, cu64 l ++ ysp5, 22, (0, 0)⟩, ⟨ynb3, ls.flatMap sealC ++ ysp6, 161, (0, 0)⟩, ⟨ynb0, [U64 pv, U64 ep, I64 (kd), Slc ynb1 0 ni ycp2, Slc ynb3 0 ns ycp4, U64 bl] ++ cu8 (zr8 16), 29, (0, 0)⟩]
  refine AE (AI (AD (AA (.agg ([U64 pv, U64 ep, I64 (kd), Slc ynb1 0 ni ycp2, Slc ynb3 0 ns ycp4, U64 bl] ++ cu8 (zr8 16)).toArray) (AK rfl (BH A9 AT (by simp [(AP 16)]) (AS 4 rfl (AL _)))) rfl ?_)))
  refine A7 (A3 114 [.agg ([U64 pv, U64 ep, I64 (kd), Slc ynb1 0 ni ycp2, Slc ynb3 0 ns ycp4, U64 bl] ++ cu8 (zr8 16)).toArray] (.tuple #[.slice none 0 0, errV 50 (mayN pv ep (kd) l ls bl)]) (AY _ Tryd.call114 rfl) (fun w1 hw1 => textB_c pv ep (kd) (some ⟨ynb1, 0, none⟩) ni ycp2 l (some ⟨ynb3, 0, none⟩) ns ycp4 ls bl (zr8 16) w1 hl (by omega) (by omega) (by omega) (RdV.of hw1 (AS 2 rfl (A4 (AL _)))) hls (by omega) (by omega) (by omega) (RdV.of hw1 (AS 3 rfl (A4 (AL _)))) (AP 16) hm)) rfl ?_
  show JL _ _ _ _ ((29, .tuple #[.slice none 0 0, errV 50 (mayN pv ep (kd) l ls bl)]) :: _) [_, _, _, _, _]
  refine AA _ (AH rfl) rfl ?_
  refine AA _ (B4 rfl rfl) rfl ?_
  refine AA _ (B4 rfl rfl) rfl ?_
  refine AA _ (AG rfl) rfl ?_
  refine AA _ (AG rfl) rfl ?_
  refine AN (AE (AI (AI (AD (AA _ (AH rfl) rfl ?_)))))
  refine AA (.bool (!(decide (mayN pv ep (kd) l ls bl = 0)))) (C2 _ _ _ rfl rfl (fun _ => CJ ..) fun _ => EF A6 _ _) rfl ?_
  refine AN (AE (DJ _ rfl (by rw [show (decide (mayN pv ep (kd) l ls bl = 0)) = false from (decide_eq_false hm)] <;> rfl) ?_))
  refine AI (AD (AA (.agg ([U64 0, U64 0, I64 0, .slice none 0 0, .slice none 0 0, U64 0] ++ cu8 (zr8 16)).toArray) (B8 [] _ rfl (fun _ => by kernel_rfl)) rfl ?_))
  refine AA _ (AH rfl) rfl ?_
  refine A7 (A5 1 nb3 22 ([U64 0, U64 0, I64 0, .slice none 0 0, .slice none 0 0, U64 0] ++ cu8 (zr8 16)) 29 ([U64 0, U64 0, I64 0, .slice none 0 0, .slice none 0 0, U64 0] ++ cu8 (zr8 16)) rfl rfl rfl AT (by simp [(AP 16)]) (CO (by simp [Value.oneCell']) CD) (by simp [(AP 16)]) (BC (by simp [(AP 16), (AP 16)]))) rfl ?_
  show JL _ _ _ _ _ [_, ⟨nb3, [U64 0, U64 0, I64 0, .slice none 0 0, .slice none 0 0, U64 0] ++ cu8 (zr8 16), 29, (0, 0)⟩, _, _, _]
  refine AA _ (AG rfl) rfl ?_
  refine AN (AE (BP (BN (CH [false, true, false, false, false] ?_))))
  show JQ _ _ _ _ [_]
  refine BQ (.tuple #[.agg ([U64 0, U64 0, I64 0, .slice none 0 0, .slice none 0 0, U64 0] ++ cu8 (zr8 16)).toArray, errV 50 (mayN pv ep (kd) l ls bl)]) (res2 Tryd.results46 (DU rfl (BH A9 AT (by simp [(AP 16)]) (AS 0 rfl (AL _)))) (B2 rfl)) fun w1 hw1 => ?_
  exact ⟨_, [], rfl, ⟨rfl, rfl⟩, hw1.sub (by simp) (by simp)⟩
theorem signBPZ_c (key : List UInt8) (pv ep : UInt64) (kd : Int) (ai : Option Addr) (ni ci : Nat) (l : List UInt64) (sa : Option Addr) (sc : Nat) (bl : UInt64)  (w : World) (hk32 : key.length = 32) (hl : l.length = ni) (hnm : ni ≤ 2000000) (hnc : ni ≤ ci) (hcm : ci ≤ maxLen) (hv : RdV w ai (cu64 l)) (hcs : sc ≤ maxLen) (hnS : sa = none → sc = 0) (hp1 : 0 < ni) (hm : mayN pv ep kd l ([] : List SealR) bl ≠ 0)  : Calls Tryd.prog 46 #[.agg (cu8 key).toArray, U64 pv, U64 ep, .agg #[I64 (kd), .slice ai ni ci, .slice sa 0 sc, U64 bl]] w (Post w [] (fun v L => v = .tuple #[.agg ([U64 0, U64 0, I64 0, .slice none 0 0, .slice none 0 0, U64 0] ++ cu8 (zr8 16)).toArray, errV 50 (mayN pv ep kd l ([] : List SealR) bl)] ∧ L = [])) := by
 have hmx : maxLen = 9223372036854775807 := rfl
 refine enter (P := Tryd.prog) (f := 46) (fn := Tryd.f46) w [] 44 [] [.agg (cu8 key).toArray, U64 pv, U64 ep, .agg #[I64 (kd), .slice ai ni ci, .slice sa 0 sc, U64 bl]] Tryd.func46 rfl rfl (by simp) (BZ (by simp) (by simp) (by simp)) ?_
 show JC _ _ _ [(0, .agg (cu8 key).toArray), (1, U64 pv), (2, U64 ep), (3, .agg #[I64 (kd), .slice ai ni ci, .slice sa 0 sc, U64 bl])] _
 refine AI (AD (A1 (CW (.agg (cu8 key).toArray) (cu8 key) rfl (by first | rfl | simp)) rfl ?_))
 rintro v1 L1 ⟨nb1, hnb1, rfl, rfl⟩
 show JL _ _ _ _ ((4, Ptr nb1 0) :: _) [⟨nb1, cu8 key, 54, (0, 0)⟩]
 refine A1 (CW (.agg #[I64 (kd), .slice ai ni ci, .slice sa 0 sc, U64 bl]) ([I64 (kd), .slice ai ni ci, .slice sa 0 sc, U64 bl]) rfl (by first | rfl | simp)) rfl ?_
 rintro v1 L1 ⟨nb2, hnb2, rfl, rfl⟩
 show JL _ _ _ _ ((7, Ptr nb2 0) :: _) [_, ⟨nb2, [I64 (kd), .slice ai ni ci, .slice sa 0 sc, U64 bl], 26, (0, 0)⟩]
 refine A1 (BG _ ([U64 0, U64 0, I64 0, .slice none 0 0, .slice none 0 0, U64 0] ++ cu8 (zr8 16)) BK (by kernel_rfl)) rfl ?_
 rintro v1 L1 ⟨nb3, hnb3, rfl, rfl⟩
 show JL _ _ _ _ ((8, Ptr nb3 0) :: _) [_, _, ⟨nb3, [U64 0, U64 0, I64 0, .slice none 0 0, .slice none 0 0, U64 0] ++ cu8 (zr8 16), 29, (0, 0)⟩]
 refine AA _ (AG rfl) rfl ?_
 refine AN (AE (AI (JC_cut (ι := Nat × Nat × Nat × Option Addr × Nat × List Value) (fun ⟨ynb0, ynb1, ycp2, yao3, yca4, ysp5⟩ => [(4, Ptr nb1 0), (8, Ptr nb3 0), (9, .nilIface), (10, Ptr ynb0 0)]) (fun ⟨ynb0, ynb1, ycp2, yao3, yca4, ysp5⟩ => [⟨nb1, cu8 key, 54, (0, 0)⟩, ⟨nb3, [U64 0, U64 0, I64 0, .slice none 0 0, .slice none 0 0, U64 0] ++ cu8 (zr8 16), 29, (0, 0)⟩, ⟨ynb1, cu64 l ++ ysp5, 22, (0, 0)⟩, ⟨ynb0, [U64 pv, U64 ep, I64 (kd), Slc ynb1 0 ni ycp2, .slice yao3 0 yca4, U64 bl] ++ cu8 (zr8 16), 29, (0, 0)⟩]) (fun ⟨ynb0, ynb1, ycp2, yao3, yca4, ysp5⟩ => ysp5.length = (ycp2 - ni) ∧ ni ≤ ycp2 ∧ ycp2 ≤ maxLen ∧ yca4 ≤ maxLen ∧ (yao3 = none → yca4 = 0)) ?_ ?_)))
 ·
  refine C1 44 5 [(0, U64 pv), (1, U64 ep), (2, Ptr nb2 0), (3, I64 (kd)), (4, Ptr nb2 1), (5, .slice ai ni ci), (7, Ptr nb2 2), (8, .slice sa 0 sc), (10, Ptr nb2 3), (11, U64 bl)] BV rfl (by decide +kernel) ?_
  refine DP_two ⟨[], [0, 1, 2, 3, 4, 5, 7, 8, 10, 11], [], [0, 1, 2, 3, 4, 5, 7, 8, 10, 11], [6, 14]⟩ 6 14 _ _ rfl rfl (by decide +kernel) rfl ⟨A2 rfl rfl rfl, A2 rfl rfl rfl, ⟨_, rfl, AC rfl (AB 0 3 1 AF rfl BA rfl rfl)⟩, ⟨_, rfl, AC rfl (AK rfl (AV BF (AS 1 rfl (Seg.head))))⟩, ⟨_, rfl, AC rfl (AB 1 23 1 AF rfl CB rfl rfl)⟩, ⟨_, rfl, AC rfl (AK rfl (AV CP (AS 1 rfl (AJ (Seg.head)))))⟩, ⟨_, rfl, AC rfl (AB 2 24 1 AF rfl BL rfl rfl)⟩, ⟨_, rfl, AC rfl (AK rfl (AV BW (AS 1 rfl (AJ (AJ (Seg.head))))))⟩, ⟨_, rfl, AC rfl (AB 3 22 1 AF rfl AU rfl rfl)⟩, ⟨_, rfl, AC rfl (AK rfl (AV AX (AS 1 rfl (AJ (AJ (AJ (Seg.head)))))))⟩, trivial⟩ rfl rfl (AZ rfl (BI 112 [.slice ai ni ci] _ (AY _ EY rfl) (fun w1 hw1 => GB ai ni ci l w1 hl (by omega) (by omega) (by omega) (EG hw1 rfl hv) (by omega)))) (AZ rfl (BG _ ([U64 0, U64 0, I64 0, .slice none 0 0, .slice none 0 0, U64 0] ++ cu8 (zr8 16)) BK (by kernel_rfl))) ?_ ?_
  ·
   rintro v1 L1 ⟨_, ⟨nb4, sp1, cp1, rfl, rfl, hc1, hc2, hc3⟩, rfl⟩
   refine ⟨[], ?_⟩
   show DP _ _ _ _ _ _ _ _ [_, _, _, ⟨nb4, cu64 l ++ sp1, 22, (0, 0)⟩]
   refine DP_two ⟨[6], [0, 1, 2, 3, 4, 5, 7, 8, 10, 11], [4, 5], [0, 1, 2, 3, 7, 8, 10, 11], [9, 14]⟩ 9 14 _ _ rfl rfl (by decide +kernel) rfl ⟨A2 rfl rfl rfl, A2 rfl rfl rfl, ⟨_, rfl, AC rfl (AB 0 3 1 AF rfl BA rfl rfl)⟩, ⟨_, rfl, AC rfl (AK rfl (AV BF (AS 1 rfl (Seg.head))))⟩, ⟨_, rfl, AC rfl (AB 2 24 1 AF rfl BL rfl rfl)⟩, ⟨_, rfl, AC rfl (AK rfl (AV BW (AS 1 rfl (AJ (AJ (Seg.head))))))⟩, ⟨_, rfl, AC rfl (AB 3 22 1 AF rfl AU rfl rfl)⟩, ⟨_, rfl, AC rfl (AK rfl (AV AX (AS 1 rfl (AJ (AJ (AJ (Seg.head)))))))⟩, trivial⟩ rfl rfl (AZ rfl (BI 113 [.slice sa 0 sc] _ (AY _ D5 rfl) (fun w1 hw1 => FS sa sc w1 (by omega) hnS))) (AZ rfl (BG _ ([U64 0, U64 0, I64 0, .slice none 0 0, .slice none 0 0, U64 0] ++ cu8 (zr8 16)) BK (by kernel_rfl))) ?_ ?_
   ·
    rintro v1 L1 ⟨_, ⟨ao1, ca1, rfl, rfl, hc4, hc5⟩, rfl⟩
    refine ⟨[(12, .agg #[I64 (kd), Slc nb4 0 ni cp1, .slice ao1 0 ca1, U64 bl]), (13, .agg ([U64 pv, U64 ep, I64 (kd), Slc nb4 0 ni cp1, .slice ao1 0 ca1, U64 bl] ++ cu8 (zr8 16)).toArray)], ?_⟩
    show DP _ _ _ _ _ _ _ _ [_, _, _, _]
    refine CR ⟨[6, 9], [0, 1, 2, 3, 4, 5, 7, 8, 10, 11, 12, 13], [4, 5, 7, 8], [0, 1, 2, 3, 10, 11, 12, 13], [14]⟩ 14 _ rfl rfl (by decide +kernel) rfl ⟨A2 rfl rfl rfl, A2 rfl rfl rfl, ⟨_, rfl, AC rfl (AB 0 3 1 AF rfl BA rfl rfl)⟩, ⟨_, rfl, AC rfl (AK rfl (AV BF (AS 1 rfl (Seg.head))))⟩, ⟨_, rfl, AC rfl (AB 3 22 1 AF rfl AU rfl rfl)⟩, ⟨_, rfl, AC rfl (AK rfl (AV AX (AS 1 rfl (AJ (AJ (AJ (Seg.head)))))))⟩, ⟨_, rfl, AC rfl (B8 [(0, I64 (kd)), (1, Slc nb4 0 ni cp1), (2, .slice ao1 0 ca1), (3, U64 bl)] _ rfl (fun _ => DX rfl rfl rfl rfl))⟩, ⟨_, rfl, AC rfl (B8 [(0, U64 pv), (1, U64 ep), (2, .agg #[I64 (kd), Slc nb4 0 ni cp1, .slice ao1 0 ca1, U64 bl])] _ rfl (fun _ => EH rfl rfl (by simp [AP])))⟩, trivial⟩ rfl (AZ rfl (BG _ ([U64 0, U64 0, I64 0, .slice none 0 0, .slice none 0 0, U64 0] ++ cu8 (zr8 16)) BK (by kernel_rfl))) ?_
    rintro v1 L1 ⟨nb7, hnb7, rfl, rfl⟩
    refine ⟨[], ?_⟩
    show DP _ _ _ _ _ _ _ _ [_, _, _, _, ⟨nb7, [U64 0, U64 0, I64 0, .slice none 0 0, .slice none 0 0, U64 0] ++ cu8 (zr8 16), 29, (0, 0)⟩]
    refine CQ ⟨[6, 9, 14], [0, 1, 2, 3, 4, 5, 7, 8, 10, 11, 12, 13], [4, 5, 7, 8], [0, 1, 2, 3, 10, 11, 12, 13], [15]⟩ 15 rfl rfl (by decide +kernel) rfl ⟨A2 rfl rfl rfl, A2 rfl rfl rfl, ⟨_, rfl, AC rfl (AB 0 3 1 AF rfl BA rfl rfl)⟩, ⟨_, rfl, AC rfl (AK rfl (AV BF (AS 1 rfl (Seg.head))))⟩, ⟨_, rfl, AC rfl (AB 3 22 1 AF rfl AU rfl rfl)⟩, ⟨_, rfl, AC rfl (AK rfl (AV AX (AS 1 rfl (AJ (AJ (AJ (Seg.head)))))))⟩, ⟨_, rfl, AC rfl (B8 [(0, I64 (kd)), (1, Slc nb4 0 ni cp1), (2, .slice ao1 0 ca1), (3, U64 bl)] _ rfl (fun _ => DX rfl rfl rfl rfl))⟩, ⟨_, rfl, AC rfl (B8 [(0, U64 pv), (1, U64 ep), (2, .agg #[I64 (kd), Slc nb4 0 ni cp1, .slice ao1 0 ca1, U64 bl])] _ rfl (fun _ => EH rfl rfl (by simp [AP])))⟩, trivial⟩ rfl (AZ rfl (A5 4 nb7 22 ([U64 0, U64 0, I64 0, .slice none 0 0, .slice none 0 0, U64 0] ++ cu8 (zr8 16)) 29 ([U64 pv, U64 ep, I64 (kd), Slc nb4 0 ni cp1, .slice ao1 0 ca1, U64 bl] ++ cu8 (zr8 16)) rfl rfl rfl AT (by simp [(AP 16)]) (CO (by simp [Value.oneCell']) CD) (by simp [(AP 16)]) (BC (by simp [(AP 16), (AP 16)])))) ?_
    show DP _ _ _ _ _ _ _ _ [_, _, _, _, ⟨nb7, [U64 pv, U64 ep, I64 (kd), Slc nb4 0 ni cp1, .slice ao1 0 ca1, U64 bl] ++ cu8 (zr8 16), 29, (0, 0)⟩]
    refine C4 ⟨[6, 9, 14, 15], [0, 1, 2, 3, 4, 5, 7, 8, 10, 11, 12, 13], [0, 1, 2, 3, 4, 5, 7, 8, 10, 11, 12, 13], [], []⟩ rfl rfl (by decide +kernel) rfl trivial ?_
    refine CI (F' := [(10, Ptr nb7 0), (4, Ptr nb1 0), (8, Ptr nb3 0), (9, .nilIface)]) (by kernel_rfl) ?_
    refine E9 [0, 2, 3, 4] (by decide) ?_
    show JQ _ _ _ _ [_, _, _, _]
    refine E6 (nb7, nb4, cp1, ao1, ca1, sp1) ⟨(by first | exact hc1 | omega | (simp; done)), (by first | exact hc2 | omega | (simp; done)), (by first | exact hc3 | omega | (simp; done)), (by first | omega | (simp; done)), (by first | exact hc5 | omega | (simp; done))⟩ (Sub.all rfl) rfl
   ·
    rintro v1 L1 ⟨nb6, hnb6, rfl, rfl⟩
    refine ⟨[], ?_⟩
    show DP _ _ _ _ _ _ _ _ [_, _, _, _, ⟨nb6, [U64 0, U64 0, I64 0, .slice none 0 0, .slice none 0 0, U64 0] ++ cu8 (zr8 16), 29, (0, 0)⟩]
    refine CR ⟨[6, 14], [0, 1, 2, 3, 4, 5, 7, 8, 10, 11], [4, 5], [0, 1, 2, 3, 7, 8, 10, 11], [9]⟩ 9 _ rfl rfl (by decide +kernel) rfl ⟨A2 rfl rfl rfl, A2 rfl rfl rfl, ⟨_, rfl, AC rfl (AB 0 3 1 AF rfl BA rfl rfl)⟩, ⟨_, rfl, AC rfl (AK rfl (AV BF (AS 1 rfl (Seg.head))))⟩, ⟨_, rfl, AC rfl (AB 2 24 1 AF rfl BL rfl rfl)⟩, ⟨_, rfl, AC rfl (AK rfl (AV BW (AS 1 rfl (AJ (AJ (Seg.head))))))⟩, ⟨_, rfl, AC rfl (AB 3 22 1 AF rfl AU rfl rfl)⟩, ⟨_, rfl, AC rfl (AK rfl (AV AX (AS 1 rfl (AJ (AJ (AJ (Seg.head)))))))⟩, trivial⟩ rfl (AZ rfl (BI 113 [.slice sa 0 sc] _ (AY _ D5 rfl) (fun w1 hw1 => FS sa sc w1 (by omega) hnS))) ?_
    rintro v1 L1 ⟨_, ⟨ao2, ca2, rfl, rfl, hc6, hc7⟩, rfl⟩
    refine ⟨[(12, .agg #[I64 (kd), Slc nb4 0 ni cp1, .slice ao2 0 ca2, U64 bl]), (13, .agg ([U64 pv, U64 ep, I64 (kd), Slc nb4 0 ni cp1, .slice ao2 0 ca2, U64 bl] ++ cu8 (zr8 16)).toArray)], ?_⟩
    show DP _ _ _ _ _ _ _ _ [_, _, _, _, _]
    refine CQ ⟨[6, 14, 9], [0, 1, 2, 3, 4, 5, 7, 8, 10, 11, 12, 13], [4, 5, 7, 8], [0, 1, 2, 3, 10, 11, 12, 13], [15]⟩ 15 rfl rfl (by decide +kernel) rfl ⟨A2 rfl rfl rfl, A2 rfl rfl rfl, ⟨_, rfl, AC rfl (AB 0 3 1 AF rfl BA rfl rfl)⟩, ⟨_, rfl, AC rfl (AK rfl (AV BF (AS 1 rfl (Seg.head))))⟩, ⟨_, rfl, AC rfl (AB 3 22 1 AF rfl AU rfl rfl)⟩, ⟨_, rfl, AC rfl (AK rfl (AV AX (AS 1 rfl (AJ (AJ (AJ (Seg.head)))))))⟩, ⟨_, rfl, AC rfl (B8 [(0, I64 (kd)), (1, Slc nb4 0 ni cp1), (2, .slice ao2 0 ca2), (3, U64 bl)] _ rfl (fun _ => DX rfl rfl rfl rfl))⟩, ⟨_, rfl, AC rfl (B8 [(0, U64 pv), (1, U64 ep), (2, .agg #[I64 (kd), Slc nb4 0 ni cp1, .slice ao2 0 ca2, U64 bl])] _ rfl (fun _ => EH rfl rfl (by simp [AP])))⟩, trivial⟩ rfl (AZ rfl (A5 4 nb6 22 ([U64 0, U64 0, I64 0, .slice none 0 0, .slice none 0 0, U64 0] ++ cu8 (zr8 16)) 29 ([U64 pv, U64 ep, I64 (kd), Slc nb4 0 ni cp1, .slice ao2 0 ca2, U64 bl] ++ cu8 (zr8 16)) rfl rfl rfl AT (by simp [(AP 16)]) (CO (by simp [Value.oneCell']) CD) (by simp [(AP 16)]) (BC (by simp [(AP 16), (AP 16)])))) ?_
    show DP _ _ _ _ _ _ _ _ [_, _, _, _, ⟨nb6, [U64 pv, U64 ep, I64 (kd), Slc nb4 0 ni cp1, .slice ao2 0 ca2, U64 bl] ++ cu8 (zr8 16), 29, (0, 0)⟩]
    refine C4 ⟨[6, 14, 9, 15], [0, 1, 2, 3, 4, 5, 7, 8, 10, 11, 12, 13], [0, 1, 2, 3, 4, 5, 7, 8, 10, 11, 12, 13], [], []⟩ rfl rfl (by decide +kernel) rfl trivial ?_
    refine CI (F' := [(10, Ptr nb6 0), (4, Ptr nb1 0), (8, Ptr nb3 0), (9, .nilIface)]) (by kernel_rfl) ?_
    refine E9 [0, 2, 3, 4] (by decide) ?_
    show JQ _ _ _ _ [_, _, _, _]
    refine E6 (nb6, nb4, cp1, ao2, ca2, sp1) ⟨(by first | exact hc1 | omega | (simp; done)), (by first | exact hc2 | omega | (simp; done)), (by first | exact hc3 | omega | (simp; done)), (by first | omega | (simp; done)), (by first | exact hc7 | omega | (simp; done))⟩ (Sub.all rfl) rfl
  ·
   rintro v1 L1 ⟨nb5, hnb5, rfl, rfl⟩
   refine ⟨[], ?_⟩
   show DP _ _ _ _ _ _ _ _ [_, _, _, ⟨nb5, [U64 0, U64 0, I64 0, .slice none 0 0, .slice none 0 0, U64 0] ++ cu8 (zr8 16), 29, (0, 0)⟩]
   refine CR ⟨[14], [0, 1, 2, 3, 4, 5, 7, 8, 10, 11], [], [0, 1, 2, 3, 4, 5, 7, 8, 10, 11], [6]⟩ 6 _ rfl rfl (by decide +kernel) rfl ⟨A2 rfl rfl rfl, A2 rfl rfl rfl, ⟨_, rfl, AC rfl (AB 0 3 1 AF rfl BA rfl rfl)⟩, ⟨_, rfl, AC rfl (AK rfl (AV BF (AS 1 rfl (Seg.head))))⟩, ⟨_, rfl, AC rfl (AB 1 23 1 AF rfl CB rfl rfl)⟩, ⟨_, rfl, AC rfl (AK rfl (AV CP (AS 1 rfl (AJ (Seg.head)))))⟩, ⟨_, rfl, AC rfl (AB 2 24 1 AF rfl BL rfl rfl)⟩, ⟨_, rfl, AC rfl (AK rfl (AV BW (AS 1 rfl (AJ (AJ (Seg.head))))))⟩, ⟨_, rfl, AC rfl (AB 3 22 1 AF rfl AU rfl rfl)⟩, ⟨_, rfl, AC rfl (AK rfl (AV AX (AS 1 rfl (AJ (AJ (AJ (Seg.head)))))))⟩, trivial⟩ rfl (AZ rfl (BI 112 [.slice ai ni ci] _ (AY _ EY rfl) (fun w1 hw1 => GB ai ni ci l w1 hl (by omega) (by omega) (by omega) (EG hw1 rfl hv) (by omega)))) ?_
   rintro v1 L1 ⟨_, ⟨nb8, sp2, cp2, rfl, rfl, hc8, hc9, hc10⟩, rfl⟩
   refine ⟨[], ?_⟩
   show DP _ _ _ _ _ _ _ _ [_, _, _, _, ⟨nb8, cu64 l ++ sp2, 22, (0, 0)⟩]
   refine CR ⟨[14, 6], [0, 1, 2, 3, 4, 5, 7, 8, 10, 11], [4, 5], [0, 1, 2, 3, 7, 8, 10, 11], [9]⟩ 9 _ rfl rfl (by decide +kernel) rfl ⟨A2 rfl rfl rfl, A2 rfl rfl rfl, ⟨_, rfl, AC rfl (AB 0 3 1 AF rfl BA rfl rfl)⟩, ⟨_, rfl, AC rfl (AK rfl (AV BF (AS 1 rfl (Seg.head))))⟩, ⟨_, rfl, AC rfl (AB 2 24 1 AF rfl BL rfl rfl)⟩, ⟨_, rfl, AC rfl (AK rfl (AV BW (AS 1 rfl (AJ (AJ (Seg.head))))))⟩, ⟨_, rfl, AC rfl (AB 3 22 1 AF rfl AU rfl rfl)⟩, ⟨_, rfl, AC rfl (AK rfl (AV AX (AS 1 rfl (AJ (AJ (AJ (Seg.head)))))))⟩, trivial⟩ rfl (AZ rfl (BI 113 [.slice sa 0 sc] _ (AY _ D5 rfl) (fun w1 hw1 => FS sa sc w1 (by omega) hnS))) ?_
   rintro v1 L1 ⟨_, ⟨ao3, ca3, rfl, rfl, hc11, hc12⟩, rfl⟩
   refine ⟨[(12, .agg #[I64 (kd), Slc nb8 0 ni cp2, .slice ao3 0 ca3, U64 bl]), (13, .agg ([U64 pv, U64 ep, I64 (kd), Slc nb8 0 ni cp2, .slice ao3 0 ca3, U64 bl] ++ cu8 (zr8 16)).toArray)], ?_⟩
   show DP _ _ _ _ _ _ _ _ [_, _, _, _, _]
   refine CQ ⟨[14, 6, 9], [0, 1, 2, 3, 4, 5, 7, 8, 10, 11, 12, 13], [4, 5, 7, 8], [0, 1, 2, 3, 10, 11, 12, 13], [15]⟩ 15 rfl rfl (by decide +kernel) rfl ⟨A2 rfl rfl rfl, A2 rfl rfl rfl, ⟨_, rfl, AC rfl (AB 0 3 1 AF rfl BA rfl rfl)⟩, ⟨_, rfl, AC rfl (AK rfl (AV BF (AS 1 rfl (Seg.head))))⟩, ⟨_, rfl, AC rfl (AB 3 22 1 AF rfl AU rfl rfl)⟩, ⟨_, rfl, AC rfl (AK rfl (AV AX (AS 1 rfl (AJ (AJ (AJ (Seg.head)))))))⟩, ⟨_, rfl, AC rfl (B8 [(0, I64 (kd)), (1, Slc nb8 0 ni cp2), (2, .slice ao3 0 ca3), (3, U64 bl)] _ rfl (fun _ => DX rfl rfl rfl rfl))⟩, ⟨_, rfl, AC rfl (B8 [(0, U64 pv), (1, U64 ep), (2, .agg #[I64 (kd), Slc nb8 0 ni cp2, .slice ao3 0 ca3, U64 bl])] _ rfl (fun _ => EH rfl rfl (by simp [AP])))⟩, trivial⟩ rfl (AZ rfl (A5 3 nb5 22 ([U64 0, U64 0, I64 0, .slice none 0 0, .slice none 0 0, U64 0] ++ cu8 (zr8 16)) 29 ([U64 pv, U64 ep, I64 (kd), Slc nb8 0 ni cp2, .slice ao3 0 ca3, U64 bl] ++ cu8 (zr8 16)) rfl rfl rfl AT (by simp [(AP 16)]) (CO (by simp [Value.oneCell']) CD) (by simp [(AP 16)]) (BC (by simp [(AP 16), (AP 16)])))) ?_
   show DP _ _ _ _ _ _ _ _ [_, _, _, ⟨nb5, [U64 pv, U64 ep, I64 (kd), Slc nb8 0 ni cp2, .slice ao3 0 ca3, U64 bl] ++ cu8 (zr8 16), 29, (0, 0)⟩, _]
   refine C4 ⟨[14, 6, 9, 15], [0, 1, 2, 3, 4, 5, 7, 8, 10, 11, 12, 13], [0, 1, 2, 3, 4, 5, 7, 8, 10, 11, 12, 13], [], []⟩ rfl rfl (by decide +kernel) rfl trivial ?_
   refine CI (F' := [(10, Ptr nb5 0), (4, Ptr nb1 0), (8, Ptr nb3 0), (9, .nilIface)]) (by kernel_rfl) ?_
   refine E9 [0, 2, 4, 3] (by decide) ?_
   show JQ _ _ _ _ [_, _, _, _]
   refine E6 (nb5, nb8, cp2, ao3, ca3, sp2) ⟨(by first | exact hc8 | omega | (simp; done)), (by first | exact hc9 | omega | (simp; done)), (by first | exact hc10 | omega | (simp; done)), (by first | omega | (simp; done)), (by first | exact hc12 | omega | (simp; done))⟩ (Sub.all rfl) rfl
 ·
  rintro ⟨ynb0, ynb1, ycp2, yao3, yca4, ysp5⟩ ⟨hy1, hy2, hy3, hy4, hy5⟩
  show JQ _ _ _ [(4, Ptr nb1 0), (8, Ptr nb3 0), (9, .nilIface), (10, Ptr ynb0 0)] [⟨nb1, cu8 key, 54, (0, 0)⟩, ⟨nb3, [U64 0, U64 0, I64 0, .slice none 0 0, .slice none 0 0, U64 0] ++ cu8 (zr8 16), 29, (0, 0)⟩, ⟨ynb1, cu64 l ++ ysp5, 22, (0, 0)⟩, ⟨ynb0, [U64 pv, U64 ep, I64 (kd), Slc ynb1 0 ni ycp2, .slice yao3 0 yca4, U64 bl] ++ cu8 (zr8 16), 29, (0, 0)⟩]
  refine AE (AI (AD (AA (.agg ([U64 pv, U64 ep, I64 (kd), Slc ynb1 0 ni ycp2, .slice yao3 0 yca4, U64 bl] ++ cu8 (zr8 16)).toArray) (AK rfl (BH A9 AT (by simp [(AP 16)]) (AS 3 rfl (AL _)))) rfl ?_)))
  refine A7 (A3 114 [.agg ([U64 pv, U64 ep, I64 (kd), Slc ynb1 0 ni ycp2, .slice yao3 0 yca4, U64 bl] ++ cu8 (zr8 16)).toArray] (.tuple #[.slice none 0 0, errV 50 (mayN pv ep (kd) l ([] : List SealR) bl)]) (AY _ Tryd.call114 rfl) (fun w1 hw1 => textB_c pv ep (kd) (some ⟨ynb1, 0, none⟩) ni ycp2 l yao3 0 yca4 ([] : List SealR) bl (zr8 16) w1 hl (by omega) (by omega) (by omega) (RdV.of hw1 (AS 2 rfl (A4 (AL _)))) rfl (by omega) (by omega) (by omega) RdV.nil (AP 16) hm)) rfl ?_
  show JL _ _ _ _ ((29, .tuple #[.slice none 0 0, errV 50 (mayN pv ep (kd) l ([] : List SealR) bl)]) :: _) [_, _, _, _]
  refine AA _ (AH rfl) rfl ?_
  refine AA _ (B4 rfl rfl) rfl ?_
  refine AA _ (B4 rfl rfl) rfl ?_
  refine AA _ (AG rfl) rfl ?_
  refine AA _ (AG rfl) rfl ?_
  refine AN (AE (AI (AI (AD (AA _ (AH rfl) rfl ?_)))))
  refine AA (.bool (!(decide (mayN pv ep (kd) l ([] : List SealR) bl = 0)))) (C2 _ _ _ rfl rfl (fun _ => CJ ..) fun _ => EF A6 _ _) rfl ?_
  refine AN (AE (DJ _ rfl (by rw [show (decide (mayN pv ep (kd) l ([] : List SealR) bl = 0)) = false from (decide_eq_false hm)] <;> rfl) ?_))
  refine AI (AD (AA (.agg ([U64 0, U64 0, I64 0, .slice none 0 0, .slice none 0 0, U64 0] ++ cu8 (zr8 16)).toArray) (B8 [] _ rfl (fun _ => by kernel_rfl)) rfl ?_))
  refine AA _ (AH rfl) rfl ?_
  refine A7 (A5 1 nb3 22 ([U64 0, U64 0, I64 0, .slice none 0 0, .slice none 0 0, U64 0] ++ cu8 (zr8 16)) 29 ([U64 0, U64 0, I64 0, .slice none 0 0, .slice none 0 0, U64 0] ++ cu8 (zr8 16)) rfl rfl rfl AT (by simp [(AP 16)]) (CO (by simp [Value.oneCell']) CD) (by simp [(AP 16)]) (BC (by simp [(AP 16), (AP 16)]))) rfl ?_
  show JL _ _ _ _ _ [_, ⟨nb3, [U64 0, U64 0, I64 0, .slice none 0 0, .slice none 0 0, U64 0] ++ cu8 (zr8 16), 29, (0, 0)⟩, _, _]
  refine AA _ (AG rfl) rfl ?_
  refine AN (AE (BP (BN (CH [false, true, false, false] ?_))))
  show JQ _ _ _ _ [_]
  refine BQ (.tuple #[.agg ([U64 0, U64 0, I64 0, .slice none 0 0, .slice none 0 0, U64 0] ++ cu8 (zr8 16)).toArray, errV 50 (mayN pv ep (kd) l ([] : List SealR) bl)]) (res2 Tryd.results46 (DU rfl (BH A9 AT (by simp [(AP 16)]) (AS 0 rfl (AL _)))) (B2 rfl)) fun w1 hw1 => ?_
  exact ⟨_, [], rfl, ⟨rfl, rfl⟩, hw1.sub (by simp) (by simp)⟩
theorem signBZP_c (key : List UInt8) (pv ep : UInt64) (kd : Int) (ai : Option Addr) (ci : Nat) (sa : Option Addr) (ns sc : Nat) (ls : List SealR) (bl : UInt64)  (w : World) (hk32 : key.length = 32) (hci : ci ≤ maxLen) (hnI : ai = none → ci = 0) (hls : ls.length = ns) (hnn : ns ≤ 2000000) (hnd : ns ≤ sc) (hcn : sc ≤ maxLen) (hs : RdV w sa (ls.flatMap sealC)) (hp0 : 0 < ns) (hm : mayN pv ep kd ([] : List UInt64) ls bl ≠ 0)  : Calls Tryd.prog 46 #[.agg (cu8 key).toArray, U64 pv, U64 ep, .agg #[I64 (kd), .slice ai 0 ci, .slice sa ns sc, U64 bl]] w (Post w [] (fun v L => v = .tuple #[.agg ([U64 0, U64 0, I64 0, .slice none 0 0, .slice none 0 0, U64 0] ++ cu8 (zr8 16)).toArray, errV 50 (mayN pv ep kd ([] : List UInt64) ls bl)] ∧ L = [])) := by
 have hmx : maxLen = 9223372036854775807 := rfl
 refine enter (P := Tryd.prog) (f := 46) (fn := Tryd.f46) w [] 44 [] [.agg (cu8 key).toArray, U64 pv, U64 ep, .agg #[I64 (kd), .slice ai 0 ci, .slice sa ns sc, U64 bl]] Tryd.func46 rfl rfl (by simp) (BZ (by simp) (by simp) (by simp)) ?_
 show JC _ _ _ [(0, .agg (cu8 key).toArray), (1, U64 pv), (2, U64 ep), (3, .agg #[I64 (kd), .slice ai 0 ci, .slice sa ns sc, U64 bl])] _
 refine AI (AD (A1 (CW (.agg (cu8 key).toArray) (cu8 key) rfl (by first | rfl | simp)) rfl ?_))
 rintro v1 L1 ⟨nb1, hnb1, rfl, rfl⟩
 show JL _ _ _ _ ((4, Ptr nb1 0) :: _) [⟨nb1, cu8 key, 54, (0, 0)⟩]
 refine A1 (CW (.agg #[I64 (kd), .slice ai 0 ci, .slice sa ns sc, U64 bl]) ([I64 (kd), .slice ai 0 ci, .slice sa ns sc, U64 bl]) rfl (by first | rfl | simp)) rfl ?_
 rintro v1 L1 ⟨nb2, hnb2, rfl, rfl⟩
 show JL _ _ _ _ ((7, Ptr nb2 0) :: _) [_, ⟨nb2, [I64 (kd), .slice ai 0 ci, .slice sa ns sc, U64 bl], 26, (0, 0)⟩]
 refine A1 (BG _ ([U64 0, U64 0, I64 0, .slice none 0 0, .slice none 0 0, U64 0] ++ cu8 (zr8 16)) BK (by kernel_rfl)) rfl ?_
 rintro v1 L1 ⟨nb3, hnb3, rfl, rfl⟩
 show JL _ _ _ _ ((8, Ptr nb3 0) :: _) [_, _, ⟨nb3, [U64 0, U64 0, I64 0, .slice none 0 0, .slice none 0 0, U64 0] ++ cu8 (zr8 16), 29, (0, 0)⟩]
 refine AA _ (AG rfl) rfl ?_
 refine AN (AE (AI (JC_cut (ι := Nat × Option Addr × Nat × Nat × Nat × List Value) (fun ⟨ynb0, yao1, yca2, ynb3, ycp4, ysp5⟩ => [(4, Ptr nb1 0), (8, Ptr nb3 0), (9, .nilIface), (10, Ptr ynb0 0)]) (fun ⟨ynb0, yao1, yca2, ynb3, ycp4, ysp5⟩ => [⟨nb1, cu8 key, 54, (0, 0)⟩, ⟨nb3, [U64 0, U64 0, I64 0, .slice none 0 0, .slice none 0 0, U64 0] ++ cu8 (zr8 16), 29, (0, 0)⟩, ⟨ynb3, ls.flatMap sealC ++ ysp5, 161, (0, 0)⟩, ⟨ynb0, [U64 pv, U64 ep, I64 (kd), .slice yao1 0 yca2, Slc ynb3 0 ns ycp4, U64 bl] ++ cu8 (zr8 16), 29, (0, 0)⟩]) (fun ⟨ynb0, yao1, yca2, ynb3, ycp4, ysp5⟩ => ysp5.length = (49*ycp4 - 49*ns) ∧ ns ≤ ycp4 ∧ ycp4 ≤ maxLen ∧ yca2 ≤ maxLen ∧ (yao1 = none → yca2 = 0)) ?_ ?_)))
 ·
  refine C1 44 5 [(0, U64 pv), (1, U64 ep), (2, Ptr nb2 0), (3, I64 (kd)), (4, Ptr nb2 1), (5, .slice ai 0 ci), (7, Ptr nb2 2), (8, .slice sa ns sc), (10, Ptr nb2 3), (11, U64 bl)] BV rfl (by decide +kernel) ?_
  refine DP_two ⟨[], [0, 1, 2, 3, 4, 5, 7, 8, 10, 11], [], [0, 1, 2, 3, 4, 5, 7, 8, 10, 11], [6, 14]⟩ 6 14 _ _ rfl rfl (by decide +kernel) rfl ⟨A2 rfl rfl rfl, A2 rfl rfl rfl, ⟨_, rfl, AC rfl (AB 0 3 1 AF rfl BA rfl rfl)⟩, ⟨_, rfl, AC rfl (AK rfl (AV BF (AS 1 rfl (Seg.head))))⟩, ⟨_, rfl, AC rfl (AB 1 23 1 AF rfl CB rfl rfl)⟩, ⟨_, rfl, AC rfl (AK rfl (AV CP (AS 1 rfl (AJ (Seg.head)))))⟩, ⟨_, rfl, AC rfl (AB 2 24 1 AF rfl BL rfl rfl)⟩, ⟨_, rfl, AC rfl (AK rfl (AV BW (AS 1 rfl (AJ (AJ (Seg.head))))))⟩, ⟨_, rfl, AC rfl (AB 3 22 1 AF rfl AU rfl rfl)⟩, ⟨_, rfl, AC rfl (AK rfl (AV AX (AS 1 rfl (AJ (AJ (AJ (Seg.head)))))))⟩, trivial⟩ rfl rfl (AZ rfl (BI 112 [.slice ai 0 ci] _ (AY _ EY rfl) (fun w1 hw1 => clone64Z_w ai ci w1 (by omega) hnI))) (AZ rfl (BG _ ([U64 0, U64 0, I64 0, .slice none 0 0, .slice none 0 0, U64 0] ++ cu8 (zr8 16)) BK (by kernel_rfl))) ?_ ?_
  ·
   rintro v1 L1 ⟨_, ⟨ao1, ca1, rfl, rfl, hc1, hc2⟩, rfl⟩
   refine ⟨[], ?_⟩
   show DP _ _ _ _ _ _ _ _ [_, _, _]
   refine DP_two ⟨[6], [0, 1, 2, 3, 4, 5, 7, 8, 10, 11], [4, 5], [0, 1, 2, 3, 7, 8, 10, 11], [9, 14]⟩ 9 14 _ _ rfl rfl (by decide +kernel) rfl ⟨A2 rfl rfl rfl, A2 rfl rfl rfl, ⟨_, rfl, AC rfl (AB 0 3 1 AF rfl BA rfl rfl)⟩, ⟨_, rfl, AC rfl (AK rfl (AV BF (AS 1 rfl (Seg.head))))⟩, ⟨_, rfl, AC rfl (AB 2 24 1 AF rfl BL rfl rfl)⟩, ⟨_, rfl, AC rfl (AK rfl (AV BW (AS 1 rfl (AJ (AJ (Seg.head))))))⟩, ⟨_, rfl, AC rfl (AB 3 22 1 AF rfl AU rfl rfl)⟩, ⟨_, rfl, AC rfl (AK rfl (AV AX (AS 1 rfl (AJ (AJ (AJ (Seg.head)))))))⟩, trivial⟩ rfl rfl (AZ rfl (BI 113 [.slice sa ns sc] _ (AY _ D5 rfl) (fun w1 hw1 => GF sa ns sc ls w1 hls (by omega) (by omega) (by omega) (EG hw1 rfl hs) (by omega)))) (AZ rfl (BG _ ([U64 0, U64 0, I64 0, .slice none 0 0, .slice none 0 0, U64 0] ++ cu8 (zr8 16)) BK (by kernel_rfl))) ?_ ?_
   ·
    rintro v1 L1 ⟨_, ⟨nb5, sp1, cp1, rfl, rfl, hc3, hc4, hc5⟩, rfl⟩
    refine ⟨[(12, .agg #[I64 (kd), .slice ao1 0 ca1, Slc nb5 0 ns cp1, U64 bl]), (13, .agg ([U64 pv, U64 ep, I64 (kd), .slice ao1 0 ca1, Slc nb5 0 ns cp1, U64 bl] ++ cu8 (zr8 16)).toArray)], ?_⟩
    show DP _ _ _ _ _ _ _ _ [_, _, _, ⟨nb5, ls.flatMap sealC ++ sp1, 161, (0, 0)⟩]
    refine CR ⟨[6, 9], [0, 1, 2, 3, 4, 5, 7, 8, 10, 11, 12, 13], [4, 5, 7, 8], [0, 1, 2, 3, 10, 11, 12, 13], [14]⟩ 14 _ rfl rfl (by decide +kernel) rfl ⟨A2 rfl rfl rfl, A2 rfl rfl rfl, ⟨_, rfl, AC rfl (AB 0 3 1 AF rfl BA rfl rfl)⟩, ⟨_, rfl, AC rfl (AK rfl (AV BF (AS 1 rfl (Seg.head))))⟩, ⟨_, rfl, AC rfl (AB 3 22 1 AF rfl AU rfl rfl)⟩, ⟨_, rfl, AC rfl (AK rfl (AV AX (AS 1 rfl (AJ (AJ (AJ (Seg.head)))))))⟩, ⟨_, rfl, AC rfl (B8 [(0, I64 (kd)), (1, .slice ao1 0 ca1), (2, Slc nb5 0 ns cp1), (3, U64 bl)] _ rfl (fun _ => DX rfl rfl rfl rfl))⟩, ⟨_, rfl, AC rfl (B8 [(0, U64 pv), (1, U64 ep), (2, .agg #[I64 (kd), .slice ao1 0 ca1, Slc nb5 0 ns cp1, U64 bl])] _ rfl (fun _ => EH rfl rfl (by simp [AP])))⟩, trivial⟩ rfl (AZ rfl (BG _ ([U64 0, U64 0, I64 0, .slice none 0 0, .slice none 0 0, U64 0] ++ cu8 (zr8 16)) BK (by kernel_rfl))) ?_
    rintro v1 L1 ⟨nb7, hnb7, rfl, rfl⟩
    refine ⟨[], ?_⟩
    show DP _ _ _ _ _ _ _ _ [_, _, _, _, ⟨nb7, [U64 0, U64 0, I64 0, .slice none 0 0, .slice none 0 0, U64 0] ++ cu8 (zr8 16), 29, (0, 0)⟩]
    refine CQ ⟨[6, 9, 14], [0, 1, 2, 3, 4, 5, 7, 8, 10, 11, 12, 13], [4, 5, 7, 8], [0, 1, 2, 3, 10, 11, 12, 13], [15]⟩ 15 rfl rfl (by decide +kernel) rfl ⟨A2 rfl rfl rfl, A2 rfl rfl rfl, ⟨_, rfl, AC rfl (AB 0 3 1 AF rfl BA rfl rfl)⟩, ⟨_, rfl, AC rfl (AK rfl (AV BF (AS 1 rfl (Seg.head))))⟩, ⟨_, rfl, AC rfl (AB 3 22 1 AF rfl AU rfl rfl)⟩, ⟨_, rfl, AC rfl (AK rfl (AV AX (AS 1 rfl (AJ (AJ (AJ (Seg.head)))))))⟩, ⟨_, rfl, AC rfl (B8 [(0, I64 (kd)), (1, .slice ao1 0 ca1), (2, Slc nb5 0 ns cp1), (3, U64 bl)] _ rfl (fun _ => DX rfl rfl rfl rfl))⟩, ⟨_, rfl, AC rfl (B8 [(0, U64 pv), (1, U64 ep), (2, .agg #[I64 (kd), .slice ao1 0 ca1, Slc nb5 0 ns cp1, U64 bl])] _ rfl (fun _ => EH rfl rfl (by simp [AP])))⟩, trivial⟩ rfl (AZ rfl (A5 4 nb7 22 ([U64 0, U64 0, I64 0, .slice none 0 0, .slice none 0 0, U64 0] ++ cu8 (zr8 16)) 29 ([U64 pv, U64 ep, I64 (kd), .slice ao1 0 ca1, Slc nb5 0 ns cp1, U64 bl] ++ cu8 (zr8 16)) rfl rfl rfl AT (by simp [(AP 16)]) (CO (by simp [Value.oneCell']) CD) (by simp [(AP 16)]) (BC (by simp [(AP 16), (AP 16)])))) ?_
    show DP _ _ _ _ _ _ _ _ [_, _, _, _, ⟨nb7, [U64 pv, U64 ep, I64 (kd), .slice ao1 0 ca1, Slc nb5 0 ns cp1, U64 bl] ++ cu8 (zr8 16), 29, (0, 0)⟩]
    refine C4 ⟨[6, 9, 14, 15], [0, 1, 2, 3, 4, 5, 7, 8, 10, 11, 12, 13], [0, 1, 2, 3, 4, 5, 7, 8, 10, 11, 12, 13], [], []⟩ rfl rfl (by decide +kernel) rfl trivial ?_
    refine CI (F' := [(10, Ptr nb7 0), (4, Ptr nb1 0), (8, Ptr nb3 0), (9, .nilIface)]) (by kernel_rfl) ?_
    refine E9 [0, 2, 3, 4] (by decide) ?_
    show JQ _ _ _ _ [_, _, _, _]
    refine E6 (nb7, ao1, ca1, nb5, cp1, sp1) ⟨(by first | exact hc3 | omega | (simp; done)), (by first | exact hc4 | omega | (simp; done)), (by first | exact hc5 | omega | (simp; done)), (by first | omega | (simp; done)), (by first | exact hc2 | omega | (simp; done))⟩ (Sub.all rfl) rfl
   ·
    rintro v1 L1 ⟨nb6, hnb6, rfl, rfl⟩
    refine ⟨[], ?_⟩
    show DP _ _ _ _ _ _ _ _ [_, _, _, ⟨nb6, [U64 0, U64 0, I64 0, .slice none 0 0, .slice none 0 0, U64 0] ++ cu8 (zr8 16), 29, (0, 0)⟩]
    refine CR ⟨[6, 14], [0, 1, 2, 3, 4, 5, 7, 8, 10, 11], [4, 5], [0, 1, 2, 3, 7, 8, 10, 11], [9]⟩ 9 _ rfl rfl (by decide +kernel) rfl ⟨A2 rfl rfl rfl, A2 rfl rfl rfl, ⟨_, rfl, AC rfl (AB 0 3 1 AF rfl BA rfl rfl)⟩, ⟨_, rfl, AC rfl (AK rfl (AV BF (AS 1 rfl (Seg.head))))⟩, ⟨_, rfl, AC rfl (AB 2 24 1 AF rfl BL rfl rfl)⟩, ⟨_, rfl, AC rfl (AK rfl (AV BW (AS 1 rfl (AJ (AJ (Seg.head))))))⟩, ⟨_, rfl, AC rfl (AB 3 22 1 AF rfl AU rfl rfl)⟩, ⟨_, rfl, AC rfl (AK rfl (AV AX (AS 1 rfl (AJ (AJ (AJ (Seg.head)))))))⟩, trivial⟩ rfl (AZ rfl (BI 113 [.slice sa ns sc] _ (AY _ D5 rfl) (fun w1 hw1 => GF sa ns sc ls w1 hls (by omega) (by omega) (by omega) (EG hw1 rfl hs) (by omega)))) ?_
    rintro v1 L1 ⟨_, ⟨nb8, sp2, cp2, rfl, rfl, hc6, hc7, hc8⟩, rfl⟩
    refine ⟨[(12, .agg #[I64 (kd), .slice ao1 0 ca1, Slc nb8 0 ns cp2, U64 bl]), (13, .agg ([U64 pv, U64 ep, I64 (kd), .slice ao1 0 ca1, Slc nb8 0 ns cp2, U64 bl] ++ cu8 (zr8 16)).toArray)], ?_⟩
    show DP _ _ _ _ _ _ _ _ [_, _, _, _, ⟨nb8, ls.flatMap sealC ++ sp2, 161, (0, 0)⟩]
    refine CQ ⟨[6, 14, 9], [0, 1, 2, 3, 4, 5, 7, 8, 10, 11, 12, 13], [4, 5, 7, 8], [0, 1, 2, 3, 10, 11, 12, 13], [15]⟩ 15 rfl rfl (by decide +kernel) rfl ⟨A2 rfl rfl rfl, A2 rfl rfl rfl, ⟨_, rfl, AC rfl (AB 0 3 1 AF rfl BA rfl rfl)⟩, ⟨_, rfl, AC rfl (AK rfl (AV BF (AS 1 rfl (Seg.head))))⟩, ⟨_, rfl, AC rfl (AB 3 22 1 AF rfl AU rfl rfl)⟩, ⟨_, rfl, AC rfl (AK rfl (AV AX (AS 1 rfl (AJ (AJ (AJ (Seg.head)))))))⟩, ⟨_, rfl, AC rfl (B8 [(0, I64 (kd)), (1, .slice ao1 0 ca1), (2, Slc nb8 0 ns cp2), (3, U64 bl)] _ rfl (fun _ => DX rfl rfl rfl rfl))⟩, ⟨_, rfl, AC rfl (B8 [(0, U64 pv), (1, U64 ep), (2, .agg #[I64 (kd), .slice ao1 0 ca1, Slc nb8 0 ns cp2, U64 bl])] _ rfl (fun _ => EH rfl rfl (by simp [AP])))⟩, trivial⟩ rfl (AZ rfl (A5 3 nb6 22 ([U64 0, U64 0, I64 0, .slice none 0 0, .slice none 0 0, U64 0] ++ cu8 (zr8 16)) 29 ([U64 pv, U64 ep, I64 (kd), .slice ao1 0 ca1, Slc nb8 0 ns cp2, U64 bl] ++ cu8 (zr8 16)) rfl rfl rfl AT (by simp [(AP 16)]) (CO (by simp [Value.oneCell']) CD) (by simp [(AP 16)]) (BC (by simp [(AP 16), (AP 16)])))) ?_
    show DP _ _ _ _ _ _ _ _ [_, _, _, ⟨nb6, [U64 pv, U64 ep, I64 (kd), .slice ao1 0 ca1, Slc nb8 0 ns cp2, U64 bl] ++ cu8 (zr8 16), 29, (0, 0)⟩, _]
    refine C4 ⟨[6, 14, 9, 15], [0, 1, 2, 3, 4, 5, 7, 8, 10, 11, 12, 13], [0, 1, 2, 3, 4, 5, 7, 8, 10, 11, 12, 13], [], []⟩ rfl rfl (by decide +kernel) rfl trivial ?_
    refine CI (F' := [(10, Ptr nb6 0), (4, Ptr nb1 0), (8, Ptr nb3 0), (9, .nilIface)]) (by kernel_rfl) ?_
    refine E9 [0, 2, 4, 3] (by decide) ?_
    show JQ _ _ _ _ [_, _, _, _]
    refine E6 (nb6, ao1, ca1, nb8, cp2, sp2) ⟨(by first | exact hc6 | omega | (simp; done)), (by first | exact hc7 | omega | (simp; done)), (by first | exact hc8 | omega | (simp; done)), (by first | omega | (simp; done)), (by first | exact hc2 | omega | (simp; done))⟩ (Sub.all rfl) rfl
  ·
   rintro v1 L1 ⟨nb4, hnb4, rfl, rfl⟩
   refine ⟨[], ?_⟩
   show DP _ _ _ _ _ _ _ _ [_, _, _, ⟨nb4, [U64 0, U64 0, I64 0, .slice none 0 0, .slice none 0 0, U64 0] ++ cu8 (zr8 16), 29, (0, 0)⟩]
   refine CR ⟨[14], [0, 1, 2, 3, 4, 5, 7, 8, 10, 11], [], [0, 1, 2, 3, 4, 5, 7, 8, 10, 11], [6]⟩ 6 _ rfl rfl (by decide +kernel) rfl ⟨A2 rfl rfl rfl, A2 rfl rfl rfl, ⟨_, rfl, AC rfl (AB 0 3 1 AF rfl BA rfl rfl)⟩, ⟨_, rfl, AC rfl (AK rfl (AV BF (AS 1 rfl (Seg.head))))⟩, ⟨_, rfl, AC rfl (AB 1 23 1 AF rfl CB rfl rfl)⟩, ⟨_, rfl, AC rfl (AK rfl (AV CP (AS 1 rfl (AJ (Seg.head)))))⟩, ⟨_, rfl, AC rfl (AB 2 24 1 AF rfl BL rfl rfl)⟩, ⟨_, rfl, AC rfl (AK rfl (AV BW (AS 1 rfl (AJ (AJ (Seg.head))))))⟩, ⟨_, rfl, AC rfl (AB 3 22 1 AF rfl AU rfl rfl)⟩, ⟨_, rfl, AC rfl (AK rfl (AV AX (AS 1 rfl (AJ (AJ (AJ (Seg.head)))))))⟩, trivial⟩ rfl (AZ rfl (BI 112 [.slice ai 0 ci] _ (AY _ EY rfl) (fun w1 hw1 => clone64Z_w ai ci w1 (by omega) hnI))) ?_
   rintro v1 L1 ⟨_, ⟨ao2, ca2, rfl, rfl, hc9, hc10⟩, rfl⟩
   refine ⟨[], ?_⟩
   show DP _ _ _ _ _ _ _ _ [_, _, _, _]
   refine CR ⟨[14, 6], [0, 1, 2, 3, 4, 5, 7, 8, 10, 11], [4, 5], [0, 1, 2, 3, 7, 8, 10, 11], [9]⟩ 9 _ rfl rfl (by decide +kernel) rfl ⟨A2 rfl rfl rfl, A2 rfl rfl rfl, ⟨_, rfl, AC rfl (AB 0 3 1 AF rfl BA rfl rfl)⟩, ⟨_, rfl, AC rfl (AK rfl (AV BF (AS 1 rfl (Seg.head))))⟩, ⟨_, rfl, AC rfl (AB 2 24 1 AF rfl BL rfl rfl)⟩, ⟨_, rfl, AC rfl (AK rfl (AV BW (AS 1 rfl (AJ (AJ (Seg.head))))))⟩, ⟨_, rfl, AC rfl (AB 3 22 1 AF rfl AU rfl rfl)⟩, ⟨_, rfl, AC rfl (AK rfl (AV AX (AS 1 rfl (AJ (AJ (AJ (Seg.head)))))))⟩, trivial⟩ rfl (AZ rfl (BI 113 [.slice sa ns sc] _ (AY _ D5 rfl) (fun w1 hw1 => GF sa ns sc ls w1 hls (by omega) (by omega) (by omega) (EG hw1 rfl hs) (by omega)))) ?_
   rintro v1 L1 ⟨_, ⟨nb9, sp3, cp3, rfl, rfl, hc11, hc12, hc13⟩, rfl⟩
   refine ⟨[(12, .agg #[I64 (kd), .slice ao2 0 ca2, Slc nb9 0 ns cp3, U64 bl]), (13, .agg ([U64 pv, U64 ep, I64 (kd), .slice ao2 0 ca2, Slc nb9 0 ns cp3, U64 bl] ++ cu8 (zr8 16)).toArray)], ?_⟩
   show DP _ _ _ _ _ _ _ _ [_, _, _, _, ⟨nb9, ls.flatMap sealC ++ sp3, 161, (0, 0)⟩]
   refine CQ ⟨[14, 6, 9], [0, 1, 2, 3, 4, 5, 7, 8, 10, 11, 12, 13], [4, 5, 7, 8], [0, 1, 2, 3, 10, 11, 12, 13], [15]⟩ 15 rfl rfl (by decide +kernel) rfl ⟨A2 rfl rfl rfl, A2 rfl rfl rfl, ⟨_, rfl, AC rfl (AB 0 3 1 AF rfl BA rfl rfl)⟩, ⟨_, rfl, AC rfl (AK rfl (AV BF (AS 1 rfl (Seg.head))))⟩, ⟨_, rfl, AC rfl (AB 3 22 1 AF rfl AU rfl rfl)⟩, ⟨_, rfl, AC rfl (AK rfl (AV AX (AS 1 rfl (AJ (AJ (AJ (Seg.head)))))))⟩, ⟨_, rfl, AC rfl (B8 [(0, I64 (kd)), (1, .slice ao2 0 ca2), (2, Slc nb9 0 ns cp3), (3, U64 bl)] _ rfl (fun _ => DX rfl rfl rfl rfl))⟩, ⟨_, rfl, AC rfl (B8 [(0, U64 pv), (1, U64 ep), (2, .agg #[I64 (kd), .slice ao2 0 ca2, Slc nb9 0 ns cp3, U64 bl])] _ rfl (fun _ => EH rfl rfl (by simp [AP])))⟩, trivial⟩ rfl (AZ rfl (A5 3 nb4 22 ([U64 0, U64 0, I64 0, .slice none 0 0, .slice none 0 0, U64 0] ++ cu8 (zr8 16)) 29 ([U64 pv, U64 ep, I64 (kd), .slice ao2 0 ca2, Slc nb9 0 ns cp3, U64 bl] ++ cu8 (zr8 16)) rfl rfl rfl AT (by simp [(AP 16)]) (CO (by simp [Value.oneCell']) CD) (by simp [(AP 16)]) (BC (by simp [(AP 16), (AP 16)])))) ?_
   show DP _ _ _ _ _ _ _ _ [_, _, _, ⟨nb4, [U64 pv, U64 ep, I64 (kd), .slice ao2 0 ca2, Slc nb9 0 ns cp3, U64 bl] ++ cu8 (zr8 16), 29, (0, 0)⟩, _]
   refine C4 ⟨[14, 6, 9, 15], [0, 1, 2, 3, 4, 5, 7, 8, 10, 11, 12, 13], [0, 1, 2, 3, 4, 5, 7, 8, 10, 11, 12, 13], [], []⟩ rfl rfl (by decide +kernel) rfl trivial ?_
   refine CI (F' := [(10, Ptr nb4 0), (4, Ptr nb1 0), (8, Ptr nb3 0), (9, .nilIface)]) (by kernel_rfl) ?_
   refine E9 [0, 2, 4, 3] (by decide) ?_
   show JQ _ _ _ _ [_, _, _, _]
   refine E6 (nb4, ao2, ca2, nb9, cp3, sp3) ⟨(by first | exact hc11 | omega | (simp; done)), (by first | exact hc12 | omega | (simp; done)), (by first | exact hc13 | omega | (simp; done)), (by first | omega | (simp; done)), (by first | exact hc10 | omega | (simp; done))⟩ (Sub.all rfl) rfl
 ·
  rintro ⟨ynb0, yao1, yca2, ynb3, ycp4, ysp5⟩ ⟨hy1, hy2, hy3, hy4, hy5⟩
  show JQ _ _ _ [(4, Ptr nb1 0), (8, Ptr nb3 0), (9, .nilIface), (10, Ptr ynb0 0)] [⟨nb1, cu8 key, 54, (0, 0)⟩, ⟨nb3, [U64 0, U64 0, I64 0, .slice none 0 0, .slice none 0 0, U64 0] ++ cu8 (zr8 16), 29, (0, 0)⟩, ⟨ynb3, ls.flatMap sealC ++ ysp5, 161, (0, 0)⟩, ⟨ynb0, [U64 pv, U64 ep, I64 (kd), .slice yao1 0 yca2, Slc ynb3 0 ns ycp4, U64 bl] ++ cu8 (zr8 16), 29, (0, 0)⟩]
  refine AE (AI (AD (AA (.agg ([U64 pv, U64 ep, I64 (kd), .slice yao1 0 yca2, Slc ynb3 0 ns ycp4, U64 bl] ++ cu8 (zr8 16)).toArray) (AK rfl (BH A9 AT (by simp [(AP 16)]) (AS 3 rfl (AL _)))) rfl ?_)))
  refine A7 (A3 114 [.agg ([U64 pv, U64 ep, I64 (kd), .slice yao1 0 yca2, Slc ynb3 0 ns ycp4, U64 bl] ++ cu8 (zr8 16)).toArray] (.tuple #[.slice none 0 0, errV 50 (mayN pv ep (kd) ([] : List UInt64) ls bl)]) (AY _ Tryd.call114 rfl) (fun w1 hw1 => textB_c pv ep (kd) yao1 0 yca2 ([] : List UInt64) (some ⟨ynb3, 0, none⟩) ns ycp4 ls bl (zr8 16) w1 rfl (by omega) (by omega) (by omega) RdV.nil hls (by omega) (by omega) (by omega) (RdV.of hw1 (AS 2 rfl (A4 (AL _)))) (AP 16) hm)) rfl ?_
  show JL _ _ _ _ ((29, .tuple #[.slice none 0 0, errV 50 (mayN pv ep (kd) ([] : List UInt64) ls bl)]) :: _) [_, _, _, _]
  refine AA _ (AH rfl) rfl ?_
  refine AA _ (B4 rfl rfl) rfl ?_
  refine AA _ (B4 rfl rfl) rfl ?_
  refine AA _ (AG rfl) rfl ?_
  refine AA _ (AG rfl) rfl ?_
  refine AN (AE (AI (AI (AD (AA _ (AH rfl) rfl ?_)))))
  refine AA (.bool (!(decide (mayN pv ep (kd) ([] : List UInt64) ls bl = 0)))) (C2 _ _ _ rfl rfl (fun _ => CJ ..) fun _ => EF A6 _ _) rfl ?_
  refine AN (AE (DJ _ rfl (by rw [show (decide (mayN pv ep (kd) ([] : List UInt64) ls bl = 0)) = false from (decide_eq_false hm)] <;> rfl) ?_))
  refine AI (AD (AA (.agg ([U64 0, U64 0, I64 0, .slice none 0 0, .slice none 0 0, U64 0] ++ cu8 (zr8 16)).toArray) (B8 [] _ rfl (fun _ => by kernel_rfl)) rfl ?_))
  refine AA _ (AH rfl) rfl ?_
  refine A7 (A5 1 nb3 22 ([U64 0, U64 0, I64 0, .slice none 0 0, .slice none 0 0, U64 0] ++ cu8 (zr8 16)) 29 ([U64 0, U64 0, I64 0, .slice none 0 0, .slice none 0 0, U64 0] ++ cu8 (zr8 16)) rfl rfl rfl AT (by simp [(AP 16)]) (CO (by simp [Value.oneCell']) CD) (by simp [(AP 16)]) (BC (by simp [(AP 16), (AP 16)]))) rfl ?_
  show JL _ _ _ _ _ [_, ⟨nb3, [U64 0, U64 0, I64 0, .slice none 0 0, .slice none 0 0, U64 0] ++ cu8 (zr8 16), 29, (0, 0)⟩, _, _]
  refine AA _ (AG rfl) rfl ?_
  refine AN (AE (BP (BN (CH [false, true, false, false] ?_))))
  show JQ _ _ _ _ [_]
  refine BQ (.tuple #[.agg ([U64 0, U64 0, I64 0, .slice none 0 0, .slice none 0 0, U64 0] ++ cu8 (zr8 16)).toArray, errV 50 (mayN pv ep (kd) ([] : List UInt64) ls bl)]) (res2 Tryd.results46 (DU rfl (BH A9 AT (by simp [(AP 16)]) (AS 0 rfl (AL _)))) (B2 rfl)) fun w1 hw1 => ?_
  exact ⟨_, [], rfl, ⟨rfl, rfl⟩, hw1.sub (by simp) (by simp)⟩
theorem signBZZ_c (key : List UInt8) (pv ep : UInt64) (kd : Int) (ai : Option Addr) (ci : Nat) (sa : Option Addr) (sc : Nat) (bl : UInt64)  (w : World) (hk32 : key.length = 32) (hci : ci ≤ maxLen) (hnI : ai = none → ci = 0) (hcs : sc ≤ maxLen) (hnS : sa = none → sc = 0) (hm : mayN pv ep kd ([] : List UInt64) ([] : List SealR) bl ≠ 0)  : Calls Tryd.prog 46 #[.agg (cu8 key).toArray, U64 pv, U64 ep, .agg #[I64 (kd), .slice ai 0 ci, .slice sa 0 sc, U64 bl]] w (Post w [] (fun v L => v = .tuple #[.agg ([U64 0, U64 0, I64 0, .slice none 0 0, .slice none 0 0, U64 0] ++ cu8 (zr8 16)).toArray, errV 50 (mayN pv ep kd ([] : List UInt64) ([] : List SealR) bl)] ∧ L = [])) := by
 have hmx : maxLen = 9223372036854775807 := rfl
 refine enter (P := Tryd.prog) (f := 46) (fn := Tryd.f46) w [] 44 [] [.agg (cu8 key).toArray, U64 pv, U64 ep, .agg #[I64 (kd), .slice ai 0 ci, .slice sa 0 sc, U64 bl]] Tryd.func46 rfl rfl (by simp) (BZ (by simp) (by simp) (by simp)) ?_
 show JC _ _ _ [(0, .agg (cu8 key).toArray), (1, U64 pv), (2, U64 ep), (3, .agg #[I64 (kd), .slice ai 0 ci, .slice sa 0 sc, U64 bl])] _
 refine AI (AD (A1 (CW (.agg (cu8 key).toArray) (cu8 key) rfl (by first | rfl | simp)) rfl ?_))
 rintro v1 L1 ⟨nb1, hnb1, rfl, rfl⟩
 show JL _ _ _ _ ((4, Ptr nb1 0) :: _) [⟨nb1, cu8 key, 54, (0, 0)⟩]
 refine A1 (CW (.agg #[I64 (kd), .slice ai 0 ci, .slice sa 0 sc, U64 bl]) ([I64 (kd), .slice ai 0 ci, .slice sa 0 sc, U64 bl]) rfl (by first | rfl | simp)) rfl ?_
 rintro v1 L1 ⟨nb2, hnb2, rfl, rfl⟩
 show JL _ _ _ _ ((7, Ptr nb2 0) :: _) [_, ⟨nb2, [I64 (kd), .slice ai 0 ci, .slice sa 0 sc, U64 bl], 26, (0, 0)⟩]
 refine A1 (BG _ ([U64 0, U64 0, I64 0, .slice none 0 0, .slice none 0 0, U64 0] ++ cu8 (zr8 16)) BK (by kernel_rfl)) rfl ?_
 rintro v1 L1 ⟨nb3, hnb3, rfl, rfl⟩
 show JL _ _ _ _ ((8, Ptr nb3 0) :: _) [_, _, ⟨nb3, [U64 0, U64 0, I64 0, .slice none 0 0, .slice none 0 0, U64 0] ++ cu8 (zr8 16), 29, (0, 0)⟩]
 refine AA _ (AG rfl) rfl ?_
 refine AN (AE (AI (JC_cut (ι := Nat × Option Addr × Nat × Option Addr × Nat) (fun ⟨ynb0, yao1, yca2, yao3, yca4⟩ => [(4, Ptr nb1 0), (8, Ptr nb3 0), (9, .nilIface), (10, Ptr ynb0 0)]) (fun ⟨ynb0, yao1, yca2, yao3, yca4⟩ => [⟨nb1, cu8 key, 54, (0, 0)⟩, ⟨nb3, [U64 0, U64 0, I64 0, .slice none 0 0, .slice none 0 0, U64 0] ++ cu8 (zr8 16), 29, (0, 0)⟩, ⟨ynb0, [U64 pv, U64 ep, I64 (kd), .slice yao1 0 yca2, .slice yao3 0 yca4, U64 bl] ++ cu8 (zr8 16), 29, (0, 0)⟩]) (fun ⟨ynb0, yao1, yca2, yao3, yca4⟩ => yca2 ≤ maxLen ∧ (yao1 = none → yca2 = 0) ∧ yca4 ≤ maxLen ∧ (yao3 = none → yca4 = 0)) ?_ ?_)))
 ·
  refine C1 44 5 [(0, U64 pv), (1, U64 ep), (2, Ptr nb2 0), (3, I64 (kd)), (4, Ptr nb2 1), (5, .slice ai 0 ci), (7, Ptr nb2 2), (8, .slice sa 0 sc), (10, Ptr nb2 3), (11, U64 bl)] BV rfl (by decide +kernel) ?_
  refine DP_two ⟨[], [0, 1, 2, 3, 4, 5, 7, 8, 10, 11], [], [0, 1, 2, 3, 4, 5, 7, 8, 10, 11], [6, 14]⟩ 6 14 _ _ rfl rfl (by decide +kernel) rfl ⟨A2 rfl rfl rfl, A2 rfl rfl rfl, ⟨_, rfl, AC rfl (AB 0 3 1 AF rfl BA rfl rfl)⟩, ⟨_, rfl, AC rfl (AK rfl (AV BF (AS 1 rfl (Seg.head))))⟩, ⟨_, rfl, AC rfl (AB 1 23 1 AF rfl CB rfl rfl)⟩, ⟨_, rfl, AC rfl (AK rfl (AV CP (AS 1 rfl (AJ (Seg.head)))))⟩, ⟨_, rfl, AC rfl (AB 2 24 1 AF rfl BL rfl rfl)⟩, ⟨_, rfl, AC rfl (AK rfl (AV BW (AS 1 rfl (AJ (AJ (Seg.head))))))⟩, ⟨_, rfl, AC rfl (AB 3 22 1 AF rfl AU rfl rfl)⟩, ⟨_, rfl, AC rfl (AK rfl (AV AX (AS 1 rfl (AJ (AJ (AJ (Seg.head)))))))⟩, trivial⟩ rfl rfl (AZ rfl (BI 112 [.slice ai 0 ci] _ (AY _ EY rfl) (fun w1 hw1 => clone64Z_w ai ci w1 (by omega) hnI))) (AZ rfl (BG _ ([U64 0, U64 0, I64 0, .slice none 0 0, .slice none 0 0, U64 0] ++ cu8 (zr8 16)) BK (by kernel_rfl))) ?_ ?_
  ·
   rintro v1 L1 ⟨_, ⟨ao1, ca1, rfl, rfl, hc1, hc2⟩, rfl⟩
   refine ⟨[], ?_⟩
   show DP _ _ _ _ _ _ _ _ [_, _, _]
   refine DP_two ⟨[6], [0, 1, 2, 3, 4, 5, 7, 8, 10, 11], [4, 5], [0, 1, 2, 3, 7, 8, 10, 11], [9, 14]⟩ 9 14 _ _ rfl rfl (by decide +kernel) rfl ⟨A2 rfl rfl rfl, A2 rfl rfl rfl, ⟨_, rfl, AC rfl (AB 0 3 1 AF rfl BA rfl rfl)⟩, ⟨_, rfl, AC rfl (AK rfl (AV BF (AS 1 rfl (Seg.head))))⟩, ⟨_, rfl, AC rfl (AB 2 24 1 AF rfl BL rfl rfl)⟩, ⟨_, rfl, AC rfl (AK rfl (AV BW (AS 1 rfl (AJ (AJ (Seg.head))))))⟩, ⟨_, rfl, AC rfl (AB 3 22 1 AF rfl AU rfl rfl)⟩, ⟨_, rfl, AC rfl (AK rfl (AV AX (AS 1 rfl (AJ (AJ (AJ (Seg.head)))))))⟩, trivial⟩ rfl rfl (AZ rfl (BI 113 [.slice sa 0 sc] _ (AY _ D5 rfl) (fun w1 hw1 => FS sa sc w1 (by omega) hnS))) (AZ rfl (BG _ ([U64 0, U64 0, I64 0, .slice none 0 0, .slice none 0 0, U64 0] ++ cu8 (zr8 16)) BK (by kernel_rfl))) ?_ ?_
   ·
    rintro v1 L1 ⟨_, ⟨ao2, ca2, rfl, rfl, hc3, hc4⟩, rfl⟩
    refine ⟨[(12, .agg #[I64 (kd), .slice ao1 0 ca1, .slice ao2 0 ca2, U64 bl]), (13, .agg ([U64 pv, U64 ep, I64 (kd), .slice ao1 0 ca1, .slice ao2 0 ca2, U64 bl] ++ cu8 (zr8 16)).toArray)], ?_⟩
    show DP _ _ _ _ _ _ _ _ [_, _, _]
    refine CR ⟨[6, 9], [0, 1, 2, 3, 4, 5, 7, 8, 10, 11, 12, 13], [4, 5, 7, 8], [0, 1, 2, 3, 10, 11, 12, 13], [14]⟩ 14 _ rfl rfl (by decide +kernel) rfl ⟨A2 rfl rfl rfl, A2 rfl rfl rfl, ⟨_, rfl, AC rfl (AB 0 3 1 AF rfl BA rfl rfl)⟩, ⟨_, rfl, AC rfl (AK rfl (AV BF (AS 1 rfl (Seg.head))))⟩, ⟨_, rfl, AC rfl (AB 3 22 1 AF rfl AU rfl rfl)⟩, ⟨_, rfl, AC rfl (AK rfl (AV AX (AS 1 rfl (AJ (AJ (AJ (Seg.head)))))))⟩, ⟨_, rfl, AC rfl (B8 [(0, I64 (kd)), (1, .slice ao1 0 ca1), (2, .slice ao2 0 ca2), (3, U64 bl)] _ rfl (fun _ => DX rfl rfl rfl rfl))⟩, ⟨_, rfl, AC rfl (B8 [(0, U64 pv), (1, U64 ep), (2, .agg #[I64 (kd), .slice ao1 0 ca1, .slice ao2 0 ca2, U64 bl])] _ rfl (fun _ => EH rfl rfl (by simp [AP])))⟩, trivial⟩ rfl (AZ rfl (BG _ ([U64 0, U64 0, I64 0, .slice none 0 0, .slice none 0 0, U64 0] ++ cu8 (zr8 16)) BK (by kernel_rfl))) ?_
    rintro v1 L1 ⟨nb6, hnb6, rfl, rfl⟩
    refine ⟨[], ?_⟩
    show DP _ _ _ _ _ _ _ _ [_, _, _, ⟨nb6, [U64 0, U64 0, I64 0, .slice none 0 0, .slice none 0 0, U64 0] ++ cu8 (zr8 16), 29, (0, 0)⟩]
    refine CQ ⟨[6, 9, 14], [0, 1, 2, 3, 4, 5, 7, 8, 10, 11, 12, 13], [4, 5, 7, 8], [0, 1, 2, 3, 10, 11, 12, 13], [15]⟩ 15 rfl rfl (by decide +kernel) rfl ⟨A2 rfl rfl rfl, A2 rfl rfl rfl, ⟨_, rfl, AC rfl (AB 0 3 1 AF rfl BA rfl rfl)⟩, ⟨_, rfl, AC rfl (AK rfl (AV BF (AS 1 rfl (Seg.head))))⟩, ⟨_, rfl, AC rfl (AB 3 22 1 AF rfl AU rfl rfl)⟩, ⟨_, rfl, AC rfl (AK rfl (AV AX (AS 1 rfl (AJ (AJ (AJ (Seg.head)))))))⟩, ⟨_, rfl, AC rfl (B8 [(0, I64 (kd)), (1, .slice ao1 0 ca1), (2, .slice ao2 0 ca2), (3, U64 bl)] _ rfl (fun _ => DX rfl rfl rfl rfl))⟩, ⟨_, rfl, AC rfl (B8 [(0, U64 pv), (1, U64 ep), (2, .agg #[I64 (kd), .slice ao1 0 ca1, .slice ao2 0 ca2, U64 bl])] _ rfl (fun _ => EH rfl rfl (by simp [AP])))⟩, trivial⟩ rfl (AZ rfl (A5 3 nb6 22 ([U64 0, U64 0, I64 0, .slice none 0 0, .slice none 0 0, U64 0] ++ cu8 (zr8 16)) 29 ([U64 pv, U64 ep, I64 (kd), .slice ao1 0 ca1, .slice ao2 0 ca2, U64 bl] ++ cu8 (zr8 16)) rfl rfl rfl AT (by simp [(AP 16)]) (CO (by simp [Value.oneCell']) CD) (by simp [(AP 16)]) (BC (by simp [(AP 16), (AP 16)])))) ?_
    show DP _ _ _ _ _ _ _ _ [_, _, _, ⟨nb6, [U64 pv, U64 ep, I64 (kd), .slice ao1 0 ca1, .slice ao2 0 ca2, U64 bl] ++ cu8 (zr8 16), 29, (0, 0)⟩]
    refine C4 ⟨[6, 9, 14, 15], [0, 1, 2, 3, 4, 5, 7, 8, 10, 11, 12, 13], [0, 1, 2, 3, 4, 5, 7, 8, 10, 11, 12, 13], [], []⟩ rfl rfl (by decide +kernel) rfl trivial ?_
    refine CI (F' := [(10, Ptr nb6 0), (4, Ptr nb1 0), (8, Ptr nb3 0), (9, .nilIface)]) (by kernel_rfl) ?_
    refine E9 [0, 2, 3] (by decide) ?_
    show JQ _ _ _ _ [_, _, _]
    refine E6 (nb6, ao1, ca1, ao2, ca2) ⟨(by first | omega | (simp; done)), (by first | exact hc2 | omega | (simp; done)), (by first | omega | (simp; done)), (by first | exact hc4 | omega | (simp; done))⟩ (Sub.all rfl) rfl
   ·
    rintro v1 L1 ⟨nb5, hnb5, rfl, rfl⟩
    refine ⟨[], ?_⟩
    show DP _ _ _ _ _ _ _ _ [_, _, _, ⟨nb5, [U64 0, U64 0, I64 0, .slice none 0 0, .slice none 0 0, U64 0] ++ cu8 (zr8 16), 29, (0, 0)⟩]
    refine CR ⟨[6, 14], [0, 1, 2, 3, 4, 5, 7, 8, 10, 11], [4, 5], [0, 1, 2, 3, 7, 8, 10, 11], [9]⟩ 9 _ rfl rfl (by decide +kernel) rfl ⟨A2 rfl rfl rfl, A2 rfl rfl rfl, ⟨_, rfl, AC rfl (AB 0 3 1 AF rfl BA rfl rfl)⟩, ⟨_, rfl, AC rfl (AK rfl (AV BF (AS 1 rfl (Seg.head))))⟩, ⟨_, rfl, AC rfl (AB 2 24 1 AF rfl BL rfl rfl)⟩, ⟨_, rfl, AC rfl (AK rfl (AV BW (AS 1 rfl (AJ (AJ (Seg.head))))))⟩, ⟨_, rfl, AC rfl (AB 3 22 1 AF rfl AU rfl rfl)⟩, ⟨_, rfl, AC rfl (AK rfl (AV AX (AS 1 rfl (AJ (AJ (AJ (Seg.head)))))))⟩, trivial⟩ rfl (AZ rfl (BI 113 [.slice sa 0 sc] _ (AY _ D5 rfl) (fun w1 hw1 => FS sa sc w1 (by omega) hnS))) ?_
    rintro v1 L1 ⟨_, ⟨ao3, ca3, rfl, rfl, hc5, hc6⟩, rfl⟩
    refine ⟨[(12, .agg #[I64 (kd), .slice ao1 0 ca1, .slice ao3 0 ca3, U64 bl]), (13, .agg ([U64 pv, U64 ep, I64 (kd), .slice ao1 0 ca1, .slice ao3 0 ca3, U64 bl] ++ cu8 (zr8 16)).toArray)], ?_⟩
    show DP _ _ _ _ _ _ _ _ [_, _, _, _]
    refine CQ ⟨[6, 14, 9], [0, 1, 2, 3, 4, 5, 7, 8, 10, 11, 12, 13], [4, 5, 7, 8], [0, 1, 2, 3, 10, 11, 12, 13], [15]⟩ 15 rfl rfl (by decide +kernel) rfl ⟨A2 rfl rfl rfl, A2 rfl rfl rfl, ⟨_, rfl, AC rfl (AB 0 3 1 AF rfl BA rfl rfl)⟩, ⟨_, rfl, AC rfl (AK rfl (AV BF (AS 1 rfl (Seg.head))))⟩, ⟨_, rfl, AC rfl (AB 3 22 1 AF rfl AU rfl rfl)⟩, ⟨_, rfl, AC rfl (AK rfl (AV AX (AS 1 rfl (AJ (AJ (AJ (Seg.head)))))))⟩, ⟨_, rfl, AC rfl (B8 [(0, I64 (kd)), (1, .slice ao1 0 ca1), (2, .slice ao3 0 ca3), (3, U64 bl)] _ rfl (fun _ => DX rfl rfl rfl rfl))⟩, ⟨_, rfl, AC rfl (B8 [(0, U64 pv), (1, U64 ep), (2, .agg #[I64 (kd), .slice ao1 0 ca1, .slice ao3 0 ca3, U64 bl])] _ rfl (fun _ => EH rfl rfl (by simp [AP])))⟩, trivial⟩ rfl (AZ rfl (A5 3 nb5 22 ([U64 0, U64 0, I64 0, .slice none 0 0, .slice none 0 0, U64 0] ++ cu8 (zr8 16)) 29 ([U64 pv, U64 ep, I64 (kd), .slice ao1 0 ca1, .slice ao3 0 ca3, U64 bl] ++ cu8 (zr8 16)) rfl rfl rfl AT (by simp [(AP 16)]) (CO (by simp [Value.oneCell']) CD) (by simp [(AP 16)]) (BC (by simp [(AP 16), (AP 16)])))) ?_
    show DP _ _ _ _ _ _ _ _ [_, _, _, ⟨nb5, [U64 pv, U64 ep, I64 (kd), .slice ao1 0 ca1, .slice ao3 0 ca3, U64 bl] ++ cu8 (zr8 16), 29, (0, 0)⟩]
    refine C4 ⟨[6, 14, 9, 15], [0, 1, 2, 3, 4, 5, 7, 8, 10, 11, 12, 13], [0, 1, 2, 3, 4, 5, 7, 8, 10, 11, 12, 13], [], []⟩ rfl rfl (by decide +kernel) rfl trivial ?_
    refine CI (F' := [(10, Ptr nb5 0), (4, Ptr nb1 0), (8, Ptr nb3 0), (9, .nilIface)]) (by kernel_rfl) ?_
    refine E9 [0, 2, 3] (by decide) ?_
    show JQ _ _ _ _ [_, _, _]
    refine E6 (nb5, ao1, ca1, ao3, ca3) ⟨(by first | omega | (simp; done)), (by first | exact hc2 | omega | (simp; done)), (by first | omega | (simp; done)), (by first | exact hc6 | omega | (simp; done))⟩ (Sub.all rfl) rfl
  ·
   rintro v1 L1 ⟨nb4, hnb4, rfl, rfl⟩
   refine ⟨[], ?_⟩
   show DP _ _ _ _ _ _ _ _ [_, _, _, ⟨nb4, [U64 0, U64 0, I64 0, .slice none 0 0, .slice none 0 0, U64 0] ++ cu8 (zr8 16), 29, (0, 0)⟩]
   refine CR ⟨[14], [0, 1, 2, 3, 4, 5, 7, 8, 10, 11], [], [0, 1, 2, 3, 4, 5, 7, 8, 10, 11], [6]⟩ 6 _ rfl rfl (by decide +kernel) rfl ⟨A2 rfl rfl rfl, A2 rfl rfl rfl, ⟨_, rfl, AC rfl (AB 0 3 1 AF rfl BA rfl rfl)⟩, ⟨_, rfl, AC rfl (AK rfl (AV BF (AS 1 rfl (Seg.head))))⟩, ⟨_, rfl, AC rfl (AB 1 23 1 AF rfl CB rfl rfl)⟩, ⟨_, rfl, AC rfl (AK rfl (AV CP (AS 1 rfl (AJ (Seg.head)))))⟩, ⟨_, rfl, AC rfl (AB 2 24 1 AF rfl BL rfl rfl)⟩, ⟨_, rfl, AC rfl (AK rfl (AV BW (AS 1 rfl (AJ (AJ (Seg.head))))))⟩, ⟨_, rfl, AC rfl (AB 3 22 1 AF rfl AU rfl rfl)⟩, ⟨_, rfl, AC rfl (AK rfl (AV AX (AS 1 rfl (AJ (AJ (AJ (Seg.head)))))))⟩, trivial⟩ rfl (AZ rfl (BI 112 [.slice ai 0 ci] _ (AY _ EY rfl) (fun w1 hw1 => clone64Z_w ai ci w1 (by omega) hnI))) ?_
   rintro v1 L1 ⟨_, ⟨ao4, ca4, rfl, rfl, hc7, hc8⟩, rfl⟩
   refine ⟨[], ?_⟩
   show DP _ _ _ _ _ _ _ _ [_, _, _, _]
   refine CR ⟨[14, 6], [0, 1, 2, 3, 4, 5, 7, 8, 10, 11], [4, 5], [0, 1, 2, 3, 7, 8, 10, 11], [9]⟩ 9 _ rfl rfl (by decide +kernel) rfl ⟨A2 rfl rfl rfl, A2 rfl rfl rfl, ⟨_, rfl, AC rfl (AB 0 3 1 AF rfl BA rfl rfl)⟩, ⟨_, rfl, AC rfl (AK rfl (AV BF (AS 1 rfl (Seg.head))))⟩, ⟨_, rfl, AC rfl (AB 2 24 1 AF rfl BL rfl rfl)⟩, ⟨_, rfl, AC rfl (AK rfl (AV BW (AS 1 rfl (AJ (AJ (Seg.head))))))⟩, ⟨_, rfl, AC rfl (AB 3 22 1 AF rfl AU rfl rfl)⟩, ⟨_, rfl, AC rfl (AK rfl (AV AX (AS 1 rfl (AJ (AJ (AJ (Seg.head)))))))⟩, trivial⟩ rfl (AZ rfl (BI 113 [.slice sa 0 sc] _ (AY _ D5 rfl) (fun w1 hw1 => FS sa sc w1 (by omega) hnS))) ?_
   rintro v1 L1 ⟨_, ⟨ao5, ca5, rfl, rfl, hc9, hc10⟩, rfl⟩
   refine ⟨[(12, .agg #[I64 (kd), .slice ao4 0 ca4, .slice ao5 0 ca5, U64 bl]), (13, .agg ([U64 pv, U64 ep, I64 (kd), .slice ao4 0 ca4, .slice ao5 0 ca5, U64 bl] ++ cu8 (zr8 16)).toArray)], ?_⟩
   show DP _ _ _ _ _ _ _ _ [_, _, _, _]
   refine CQ ⟨[14, 6, 9], [0, 1, 2, 3, 4, 5, 7, 8, 10, 11, 12, 13], [4, 5, 7, 8], [0, 1, 2, 3, 10, 11, 12, 13], [15]⟩ 15 rfl rfl (by decide +kernel) rfl ⟨A2 rfl rfl rfl, A2 rfl rfl rfl, ⟨_, rfl, AC rfl (AB 0 3 1 AF rfl BA rfl rfl)⟩, ⟨_, rfl, AC rfl (AK rfl (AV BF (AS 1 rfl (Seg.head))))⟩, ⟨_, rfl, AC rfl (AB 3 22 1 AF rfl AU rfl rfl)⟩, ⟨_, rfl, AC rfl (AK rfl (AV AX (AS 1 rfl (AJ (AJ (AJ (Seg.head)))))))⟩, ⟨_, rfl, AC rfl (B8 [(0, I64 (kd)), (1, .slice ao4 0 ca4), (2, .slice ao5 0 ca5), (3, U64 bl)] _ rfl (fun _ => DX rfl rfl rfl rfl))⟩, ⟨_, rfl, AC rfl (B8 [(0, U64 pv), (1, U64 ep), (2, .agg #[I64 (kd), .slice ao4 0 ca4, .slice ao5 0 ca5, U64 bl])] _ rfl (fun _ => EH rfl rfl (by simp [AP])))⟩, trivial⟩ rfl (AZ rfl (A5 3 nb4 22 ([U64 0, U64 0, I64 0, .slice none 0 0, .slice none 0 0, U64 0] ++ cu8 (zr8 16)) 29 ([U64 pv, U64 ep, I64 (kd), .slice ao4 0 ca4, .slice ao5 0 ca5, U64 bl] ++ cu8 (zr8 16)) rfl rfl rfl AT (by simp [(AP 16)]) (CO (by simp [Value.oneCell']) CD) (by simp [(AP 16)]) (BC (by simp [(AP 16), (AP 16)])))) ?_
   show DP _ _ _ _ _ _ _ _ [_, _, _, ⟨nb4, [U64 pv, U64 ep, I64 (kd), .slice ao4 0 ca4, .slice ao5 0 ca5, U64 bl] ++ cu8 (zr8 16), 29, (0, 0)⟩]
   refine C4 ⟨[14, 6, 9, 15], [0, 1, 2, 3, 4, 5, 7, 8, 10, 11, 12, 13], [0, 1, 2, 3, 4, 5, 7, 8, 10, 11, 12, 13], [], []⟩ rfl rfl (by decide +kernel) rfl trivial ?_
   refine CI (F' := [(10, Ptr nb4 0), (4, Ptr nb1 0), (8, Ptr nb3 0), (9, .nilIface)]) (by kernel_rfl) ?_
   refine E9 [0, 2, 3] (by decide) ?_
   show JQ _ _ _ _ [_, _, _]
   refine E6 (nb4, ao4, ca4, ao5, ca5) ⟨(by first | omega | (simp; done)), (by first | exact hc8 | omega | (simp; done)), (by first | omega | (simp; done)), (by first | exact hc10 | omega | (simp; done))⟩ (Sub.all rfl) rfl
 ·
  rintro ⟨ynb0, yao1, yca2, yao3, yca4⟩ ⟨hy1, hy2, hy3, hy4⟩
  show JQ _ _ _ [(4, Ptr nb1 0), (8, Ptr nb3 0), (9, .nilIface), (10, Ptr ynb0 0)] [⟨nb1, cu8 key, 54, (0, 0)⟩, ⟨nb3, [U64 0, U64 0, I64 0, .slice none 0 0, .slice none 0 0, U64 0] ++ cu8 (zr8 16), 29, (0, 0)⟩, ⟨ynb0, [U64 pv, U64 ep, I64 (kd), .slice yao1 0 yca2, .slice yao3 0 yca4, U64 bl] ++ cu8 (zr8 16), 29, (0, 0)⟩]
  refine AE (AI (AD (AA (.agg ([U64 pv, U64 ep, I64 (kd), .slice yao1 0 yca2, .slice yao3 0 yca4, U64 bl] ++ cu8 (zr8 16)).toArray) (AK rfl (BH A9 AT (by simp [(AP 16)]) (AS 2 rfl (AL _)))) rfl ?_)))
  refine A7 (A3 114 [.agg ([U64 pv, U64 ep, I64 (kd), .slice yao1 0 yca2, .slice yao3 0 yca4, U64 bl] ++ cu8 (zr8 16)).toArray] (.tuple #[.slice none 0 0, errV 50 (mayN pv ep (kd) ([] : List UInt64) ([] : List SealR) bl)]) (AY _ Tryd.call114 rfl) (fun w1 hw1 => textB_c pv ep (kd) yao1 0 yca2 ([] : List UInt64) yao3 0 yca4 ([] : List SealR) bl (zr8 16) w1 rfl (by omega) (by omega) (by omega) RdV.nil rfl (by omega) (by omega) (by omega) RdV.nil (AP 16) hm)) rfl ?_
  show JL _ _ _ _ ((29, .tuple #[.slice none 0 0, errV 50 (mayN pv ep (kd) ([] : List UInt64) ([] : List SealR) bl)]) :: _) [_, _, _]
  refine AA _ (AH rfl) rfl ?_
  refine AA _ (B4 rfl rfl) rfl ?_
  refine AA _ (B4 rfl rfl) rfl ?_
  refine AA _ (AG rfl) rfl ?_
  refine AA _ (AG rfl) rfl ?_
  refine AN (AE (AI (AI (AD (AA _ (AH rfl) rfl ?_)))))
  refine AA (.bool (!(decide (mayN pv ep (kd) ([] : List UInt64) ([] : List SealR) bl = 0)))) (C2 _ _ _ rfl rfl (fun _ => CJ ..) fun _ => EF A6 _ _) rfl ?_
  refine AN (AE (DJ _ rfl (by rw [show (decide (mayN pv ep (kd) ([] : List UInt64) ([] : List SealR) bl = 0)) = false from (decide_eq_false hm)] <;> rfl) ?_))
  refine AI (AD (AA (.agg ([U64 0, U64 0, I64 0, .slice none 0 0, .slice none 0 0, U64 0] ++ cu8 (zr8 16)).toArray) (B8 [] _ rfl (fun _ => by kernel_rfl)) rfl ?_))
  refine AA _ (AH rfl) rfl ?_
  refine A7 (A5 1 nb3 22 ([U64 0, U64 0, I64 0, .slice none 0 0, .slice none 0 0, U64 0] ++ cu8 (zr8 16)) 29 ([U64 0, U64 0, I64 0, .slice none 0 0, .slice none 0 0, U64 0] ++ cu8 (zr8 16)) rfl rfl rfl AT (by simp [(AP 16)]) (CO (by simp [Value.oneCell']) CD) (by simp [(AP 16)]) (BC (by simp [(AP 16), (AP 16)]))) rfl ?_
  show JL _ _ _ _ _ [_, ⟨nb3, [U64 0, U64 0, I64 0, .slice none 0 0, .slice none 0 0, U64 0] ++ cu8 (zr8 16), 29, (0, 0)⟩, _]
  refine AA _ (AG rfl) rfl ?_
  refine AN (AE (BP (BN (CH [false, true, false] ?_))))
  show JQ _ _ _ _ [_]
  refine BQ (.tuple #[.agg ([U64 0, U64 0, I64 0, .slice none 0 0, .slice none 0 0, U64 0] ++ cu8 (zr8 16)).toArray, errV 50 (mayN pv ep (kd) ([] : List UInt64) ([] : List SealR) bl)]) (res2 Tryd.results46 (DU rfl (BH A9 AT (by simp [(AP 16)]) (AS 0 rfl (AL _)))) (B2 rfl)) fun w1 hw1 => ?_
  exact ⟨_, [], rfl, ⟨rfl, rfl⟩, hw1.sub (by simp) (by simp)⟩
theorem signB_w (key : List UInt8) (pv ep : UInt64) (kd : Int) (ai : Option Addr) (ni ci : Nat) (l : List UInt64) (sa : Option Addr) (ns sc : Nat) (ls : List SealR) (bl : UInt64) (w : World) (hk32 : key.length = 32) (hl : l.length = ni) (hnm : ni ≤ 2000000) (hnc : ni ≤ ci) (hcm : ci ≤ maxLen) (hv : RdV w ai (cu64 l)) (hls : ls.length = ns) (hnn : ns ≤ 2000000) (hnd : ns ≤ sc) (hcn : sc ≤ maxLen) (hs : RdV w sa (ls.flatMap sealC)) (hnI : ai = none → ci = 0) (hnS : sa = none → sc = 0) (hm : mayN pv ep kd l ls bl ≠ 0) : Calls Tryd.prog 46 #[.agg (cu8 key).toArray, U64 pv, U64 ep, .agg #[I64 (kd), .slice ai ni ci, .slice sa ns sc, U64 bl]] w (Post w [] (fun v L => v = .tuple #[.agg ([U64 0, U64 0, I64 0, .slice none 0 0, .slice none 0 0, U64 0] ++ cu8 (zr8 16)).toArray, errV 50 (mayN pv ep kd l ls bl)] ∧ L = [])) := by
  by_cases hi0 : ni = 0 <;> by_cases hs0 : ns = 0
  · subst hi0; subst hs0
    obtain rfl : l = [] := List.eq_nil_of_length_eq_zero hl
    obtain rfl : ls = [] := List.eq_nil_of_length_eq_zero hls
    exact signBZZ_c key pv ep kd ai ci sa sc bl w hk32 hcm hnI hcn hnS hm
  · subst hi0
    obtain rfl : l = [] := List.eq_nil_of_length_eq_zero hl
    exact signBZP_c key pv ep kd ai ci sa ns sc ls bl w hk32 hcm hnI hls hnn hnd hcn hs (by omega) hm
  · subst hs0
    obtain rfl : ls = [] := List.eq_nil_of_length_eq_zero hls
    exact signBPZ_c key pv ep kd ai ni ci l sa sc bl w hk32 hl hnm hnc hcm hv hcn hnS (by omega) hm
  · exact signBPP_c key pv ep kd ai ni ci l sa ns sc ls bl w hk32 hl hnm hnc hcm hv hls hnn hnd hcn hs (by omega) (by omega) hm
attribute [local irreducible] chkG
theorem bld38_0123 {w : World} {v0 : Value} {v1 : Value} {c2 : List Value} {c3 : List Value} (h0 : v0.cells = [v0].toArray) (h1 : v1.cells = [v1].toArray) (h2 : c2.length = 4) (h3 : c3.length = 16) : (Instr.build 38 ([(0, v0), (1, v1), (2, .agg c2.toArray), (3, .agg c3.toArray)] : List (Nat × Value)).toArray).run Tryd.prog w = .ok (.agg (((([v0] : List Value) ++ ([v1] : List Value)) ++ c2) ++ c3).toArray) w :=
 E5 (places := #[(0, 1), (1, 1), (2, 4), (6, 16)]) (Z := (([U64 0] : List Value) ++ (([U64 0] : List Value) ++ (([I64 0, .slice none 0 0, .slice none 0 0, U64 0] : List Value) ++ ((cu8 (zr8 16) : List Value) ++ []))))) (fun _ => by kernel_rfl) DL (fun _ => by kernel_rfl) ((F8 ([U64 0] : List Value) (([U64 0] : List Value) ++ (([I64 0, .slice none 0 0, .slice none 0 0, U64 0] : List Value) ++ ((cu8 (zr8 16) : List Value) ++ []))) ([v0] : List Value) h0 (by simp [AP]) rfl).trans ((FO ([v0] : List Value) ([U64 0] : List Value) (([I64 0, .slice none 0 0, .slice none 0 0, U64 0] : List Value) ++ ((cu8 (zr8 16) : List Value) ++ [])) ([v1] : List Value) h1 (by simp [AP]) rfl).trans ((FO (([v0] : List Value) ++ ([v1] : List Value)) ([I64 0, .slice none 0 0, .slice none 0 0, U64 0] : List Value) ((cu8 (zr8 16) : List Value) ++ []) c2 rfl (by simp [AP, h2]) (by simp [h2, AP])).trans ((FO ((([v0] : List Value) ++ ([v1] : List Value)) ++ c2) (cu8 (zr8 16) : List Value) [] c3 rfl (by simp [AP, h2, h3]) (by simp [h3, AP])).trans (by simp [Instr.fill])))))
theorem docTZ_c (pv ep : UInt64) (kd : Int) (ai : Option Addr) (ni ci : Nat) (l : List UInt64) (sa : Option Addr) (sc : Nat) (bl : UInt64) (tg : List UInt8)  (w : World) (hl : l.length = ni) (hnm : ni ≤ 2000000) (hnc : ni ≤ ci) (hcm : ci ≤ maxLen) (hv : RdV w ai (cu64 l)) (hcs : sc ≤ maxLen) (hnS : sa = none → sc = 0) (htg : tg.length = 16)  : Calls Tryd.prog 44 #[.agg ([U64 pv, U64 ep, I64 (kd), .slice ai ni ci, .slice sa 0 sc, U64 bl] ++ cu8 tg).toArray] w (Post w [] (fun v L => v = .agg ([U64 pv, U64 ep, I64 kd, .slice ai ni ci, .slice none 0 0, U64 bl] ++ cu8 tg).toArray ∧ L = [])) := by
 have hmx : maxLen = 9223372036854775807 := rfl
 refine enter (P := Tryd.prog) (f := 44) (fn := Tryd.f44) w [] 13 [] [.agg ([U64 pv, U64 ep, I64 (kd), .slice ai ni ci, .slice sa 0 sc, U64 bl] ++ cu8 tg).toArray] Tryd.func44 rfl rfl (by simp) (BZ (by simp) (by simp) (by simp)) ?_
 show JC _ _ _ [(0, .agg ([U64 pv, U64 ep, I64 (kd), .slice ai ni ci, .slice sa 0 sc, U64 bl] ++ cu8 tg).toArray)] _
 refine AI (AD (A1 (CW (.agg ([U64 pv, U64 ep, I64 (kd), .slice ai ni ci, .slice sa 0 sc, U64 bl] ++ cu8 tg).toArray) ([U64 pv, U64 ep, I64 (kd), .slice ai ni ci, .slice sa 0 sc, U64 bl] ++ cu8 tg) rfl (by first | rfl | simp)) rfl ?_))
 rintro v1 L1 ⟨nb1, hnb1, rfl, rfl⟩
 show JL _ _ _ _ ((1, Ptr nb1 0) :: _) [⟨nb1, [U64 pv, U64 ep, I64 (kd), .slice ai ni ci, .slice sa 0 sc, U64 bl] ++ cu8 tg, 29, (0, 0)⟩]
 refine A1 (BG _ ([U64 0, U64 0, I64 0, .slice none 0 0, .slice none 0 0, U64 0] ++ cu8 (zr8 16)) Tryd.zeroValue38 (by kernel_rfl)) rfl ?_
 rintro v1 L1 ⟨nb2, hnb2, rfl, rfl⟩
 show JL _ _ _ _ ((2, Ptr nb2 0) :: _) [_, ⟨nb2, [U64 0, U64 0, I64 0, .slice none 0 0, .slice none 0 0, U64 0] ++ cu8 (zr8 16), 38, (0, 0)⟩]
 refine AN (AE (AI (C1 13 3 [(0, Ptr nb1 0), (1, U64 pv), (2, Ptr nb1 1), (3, U64 ep), (4, Ptr nb1 2), (5, .agg #[I64 (kd), .slice ai ni ci, .slice sa 0 sc, U64 bl]), (7, Ptr nb1 6), (8, .agg (cu8 tg).toArray)] BV rfl (by decide +kernel) ?_)))
 refine CR ⟨[], [0, 1, 2, 3, 4, 5, 7, 8], [], [0, 1, 2, 3, 4, 5, 7, 8], [6]⟩ 6 _ rfl rfl (by decide +kernel) rfl ⟨⟨_, rfl, AC rfl (AB 0 22 1 AO rfl AU rfl rfl)⟩, ⟨_, rfl, AC rfl (AK rfl (AV AX (AS 0 rfl (A4 (Seg.head)))))⟩, ⟨_, rfl, AC rfl (AB 1 22 1 AO rfl AU rfl rfl)⟩, ⟨_, rfl, AC rfl (AK rfl (AV AX (AS 0 rfl (A4 (AJ (Seg.head))))))⟩, ⟨_, rfl, AC rfl (AB 2 26 4 AO rfl A8 rfl rfl)⟩, ⟨_, rfl, AC rfl (AK rfl (BH DG A8 rfl (AS 0 rfl (EI (p := [U64 pv, U64 ep]) (q := cu8 tg) (vs := [I64 (kd), .slice ai ni ci, .slice sa 0 sc, U64 bl]) (by first | rfl | (simp only [List.append_assoc, List.nil_append, List.append_nil, List.cons_append]; done)) rfl))))⟩, ⟨_, rfl, AC rfl (AB 6 27 16 AO rfl BE rfl rfl)⟩, ⟨_, rfl, AC rfl (AK rfl (BH DO BE (CM htg) (AS 0 rfl (Seg.right 6 0 rfl rfl (AL _)))))⟩, trivial⟩ rfl (AZ rfl (A3 66 [.agg #[I64 (kd), .slice ai ni ci, .slice sa 0 sc, U64 bl]] (.agg #[I64 (kd), .slice ai ni ci, .slice none 0 0, U64 bl]) (AY _ Tryd.call66 rfl) (fun w1 hw1 => order0_c (kd) ai ni ci l sa 0 sc ([] : List SealR) bl w1 hl (by omega) (by omega) (by omega) (EG hw1 rfl hv) rfl (by omega) (by omega) (by omega) RdV.nil rfl))) ?_
 rintro v1 L1 ⟨rfl, rfl⟩
 refine ⟨[(9, .agg ([U64 pv, U64 ep, I64 (kd), .slice ai ni ci, .slice none 0 0, U64 bl] ++ cu8 tg).toArray)], ?_⟩
 show DP _ _ _ _ _ _ _ _ [_, _]
 refine CQ ⟨[6], [0, 1, 2, 3, 4, 5, 7, 8, 9], [4, 5], [0, 1, 2, 3, 7, 8, 9], [10]⟩ 10 rfl rfl (by decide +kernel) rfl ⟨⟨_, rfl, AC rfl (AB 0 22 1 AO rfl AU rfl rfl)⟩, ⟨_, rfl, AC rfl (AK rfl (AV AX (AS 0 rfl (A4 (Seg.head)))))⟩, ⟨_, rfl, AC rfl (AB 1 22 1 AO rfl AU rfl rfl)⟩, ⟨_, rfl, AC rfl (AK rfl (AV AX (AS 0 rfl (A4 (AJ (Seg.head))))))⟩, ⟨_, rfl, AC rfl (AB 6 27 16 AO rfl BE rfl rfl)⟩, ⟨_, rfl, AC rfl (AK rfl (BH DO BE (CM htg) (AS 0 rfl (Seg.right 6 0 rfl rfl (AL _)))))⟩, ⟨_, rfl, AC rfl (B8 [(0, U64 pv), (1, U64 ep), (2, .agg #[I64 (kd), .slice ai ni ci, .slice none 0 0, U64 bl]), (3, .agg (cu8 tg).toArray)] _ rfl (fun _ => bld38_0123 rfl rfl (by simp [AP]) (by simp [AP, htg])))⟩, trivial⟩ rfl (AZ rfl (A5 1 nb2 22 ([U64 0, U64 0, I64 0, .slice none 0 0, .slice none 0 0, U64 0] ++ cu8 (zr8 16)) 38 ([U64 pv, U64 ep, I64 (kd), .slice ai ni ci, .slice none 0 0, U64 bl] ++ cu8 tg) rfl rfl rfl Tryd.sizeOf38 (by simp [htg]) (CO (by simp [Value.oneCell']) CD) (by simp [(AP 16)]) (BC (by simp [(AP 16), htg])))) ?_
 show DP _ _ _ _ _ _ _ _ [_, ⟨nb2, [U64 pv, U64 ep, I64 (kd), .slice ai ni ci, .slice none 0 0, U64 bl] ++ cu8 tg, 38, (0, 0)⟩]
 refine C4 ⟨[6, 10], [0, 1, 2, 3, 4, 5, 7, 8, 9], [0, 1, 2, 3, 4, 5, 7, 8, 9], [], []⟩ rfl rfl (by decide +kernel) rfl trivial ?_
 refine CI (F' := [(2, Ptr nb2 0)]) (by kernel_rfl) ?_
 refine AE (BP (CH [false, true] ?_))
 show JQ _ _ _ _ [_]
 refine BQ (.agg ([U64 pv, U64 ep, I64 (kd), .slice ai ni ci, .slice none 0 0, U64 bl] ++ cu8 tg).toArray) (res1 Tryd.results44 (DU rfl (BH Tryd.isAgg38 Tryd.sizeOf38 (by simp [htg]) (AS 0 rfl (AL _))))) fun w1 hw1 => ?_
 exact ⟨_, [], rfl, ⟨rfl, rfl⟩, hw1.sub (by simp) (by simp)⟩
theorem docTP_c (pv ep : UInt64) (kd : Int) (ai : Option Addr) (ni ci : Nat) (l : List UInt64) (sa : Option Addr) (ns sc : Nat) (ls : List SealR) (bl : UInt64) (tg : List UInt8)  (w : World) (hl : l.length = ni) (hnm : ni ≤ 2000000) (hnc : ni ≤ ci) (hcm : ci ≤ maxLen) (hv : RdV w ai (cu64 l)) (hls : ls.length = ns) (hnn : ns ≤ 2000000) (hnd : ns ≤ sc) (hcn : sc ≤ maxLen) (hs : RdV w sa (ls.flatMap sealC)) (hp0 : 0 < ns) (htg : tg.length = 16)  : Calls Tryd.prog 44 #[.agg ([U64 pv, U64 ep, I64 (kd), .slice ai ni ci, .slice sa ns sc, U64 bl] ++ cu8 tg).toArray] w (Post w [] (fun v L => ∃ g sp cap, v = .agg ([U64 pv, U64 ep, I64 kd, .slice ai ni ci, Slc g 0 ns cap, U64 bl] ++ cu8 tg).toArray ∧ L = [⟨g, ls.flatMap sealC ++ sp, 164, (0, 0)⟩] ∧ sp.length = cap * 49 - ns * 49 ∧ ns ≤ cap ∧ cap ≤ maxLen)) := by
 have hmx : maxLen = 9223372036854775807 := rfl
 refine enter (P := Tryd.prog) (f := 44) (fn := Tryd.f44) w [] 13 [] [.agg ([U64 pv, U64 ep, I64 (kd), .slice ai ni ci, .slice sa ns sc, U64 bl] ++ cu8 tg).toArray] Tryd.func44 rfl rfl (by simp) (BZ (by simp) (by simp) (by simp)) ?_
 show JC _ _ _ [(0, .agg ([U64 pv, U64 ep, I64 (kd), .slice ai ni ci, .slice sa ns sc, U64 bl] ++ cu8 tg).toArray)] _
 refine AI (AD (A1 (CW (.agg ([U64 pv, U64 ep, I64 (kd), .slice ai ni ci, .slice sa ns sc, U64 bl] ++ cu8 tg).toArray) ([U64 pv, U64 ep, I64 (kd), .slice ai ni ci, .slice sa ns sc, U64 bl] ++ cu8 tg) rfl (by first | rfl | simp)) rfl ?_))
 rintro v1 L1 ⟨nb1, hnb1, rfl, rfl⟩
 show JL _ _ _ _ ((1, Ptr nb1 0) :: _) [⟨nb1, [U64 pv, U64 ep, I64 (kd), .slice ai ni ci, .slice sa ns sc, U64 bl] ++ cu8 tg, 29, (0, 0)⟩]
 refine A1 (BG _ ([U64 0, U64 0, I64 0, .slice none 0 0, .slice none 0 0, U64 0] ++ cu8 (zr8 16)) Tryd.zeroValue38 (by kernel_rfl)) rfl ?_
 rintro v1 L1 ⟨nb2, hnb2, rfl, rfl⟩
 show JL _ _ _ _ ((2, Ptr nb2 0) :: _) [_, ⟨nb2, [U64 0, U64 0, I64 0, .slice none 0 0, .slice none 0 0, U64 0] ++ cu8 (zr8 16), 38, (0, 0)⟩]
 refine AN (AE (AI (C1 13 3 [(0, Ptr nb1 0), (1, U64 pv), (2, Ptr nb1 1), (3, U64 ep), (4, Ptr nb1 2), (5, .agg #[I64 (kd), .slice ai ni ci, .slice sa ns sc, U64 bl]), (7, Ptr nb1 6), (8, .agg (cu8 tg).toArray)] BV rfl (by decide +kernel) ?_)))
 refine CR ⟨[], [0, 1, 2, 3, 4, 5, 7, 8], [], [0, 1, 2, 3, 4, 5, 7, 8], [6]⟩ 6 _ rfl rfl (by decide +kernel) rfl ⟨⟨_, rfl, AC rfl (AB 0 22 1 AO rfl AU rfl rfl)⟩, ⟨_, rfl, AC rfl (AK rfl (AV AX (AS 0 rfl (A4 (Seg.head)))))⟩, ⟨_, rfl, AC rfl (AB 1 22 1 AO rfl AU rfl rfl)⟩, ⟨_, rfl, AC rfl (AK rfl (AV AX (AS 0 rfl (A4 (AJ (Seg.head))))))⟩, ⟨_, rfl, AC rfl (AB 2 26 4 AO rfl A8 rfl rfl)⟩, ⟨_, rfl, AC rfl (AK rfl (BH DG A8 rfl (AS 0 rfl (EI (p := [U64 pv, U64 ep]) (q := cu8 tg) (vs := [I64 (kd), .slice ai ni ci, .slice sa ns sc, U64 bl]) (by first | rfl | (simp only [List.append_assoc, List.nil_append, List.append_nil, List.cons_append]; done)) rfl))))⟩, ⟨_, rfl, AC rfl (AB 6 27 16 AO rfl BE rfl rfl)⟩, ⟨_, rfl, AC rfl (AK rfl (BH DO BE (CM htg) (AS 0 rfl (Seg.right 6 0 rfl rfl (AL _)))))⟩, trivial⟩ rfl (AZ rfl (BI 66 [.agg #[I64 (kd), .slice ai ni ci, .slice sa ns sc, U64 bl]] _ (AY _ Tryd.call66 rfl) (fun w1 hw1 => orderP_c (kd) ai ni ci l sa ns sc ls bl w1 hl (by omega) (by omega) (by omega) (EG hw1 rfl hv) hls (by omega) (by omega) (by omega) (EG hw1 rfl hs) (by omega)))) ?_
 rintro v1 L1 ⟨_, ⟨nb3, sp1, cp1, rfl, rfl, hc1, hc2, hc3⟩, rfl⟩
 refine ⟨[(9, .agg ([U64 pv, U64 ep, I64 (kd), .slice ai ni ci, Slc nb3 0 ns cp1, U64 bl] ++ cu8 tg).toArray)], ?_⟩
 show DP _ _ _ _ _ _ _ _ [_, _, ⟨nb3, (ls).flatMap sealC ++ sp1, 164, (0, 0)⟩]
 refine CQ ⟨[6], [0, 1, 2, 3, 4, 5, 7, 8, 9], [4, 5], [0, 1, 2, 3, 7, 8, 9], [10]⟩ 10 rfl rfl (by decide +kernel) rfl ⟨⟨_, rfl, AC rfl (AB 0 22 1 AO rfl AU rfl rfl)⟩, ⟨_, rfl, AC rfl (AK rfl (AV AX (AS 0 rfl (A4 (Seg.head)))))⟩, ⟨_, rfl, AC rfl (AB 1 22 1 AO rfl AU rfl rfl)⟩, ⟨_, rfl, AC rfl (AK rfl (AV AX (AS 0 rfl (A4 (AJ (Seg.head))))))⟩, ⟨_, rfl, AC rfl (AB 6 27 16 AO rfl BE rfl rfl)⟩, ⟨_, rfl, AC rfl (AK rfl (BH DO BE (CM htg) (AS 0 rfl (Seg.right 6 0 rfl rfl (AL _)))))⟩, ⟨_, rfl, AC rfl (B8 [(0, U64 pv), (1, U64 ep), (2, .agg #[I64 (kd), .slice ai ni ci, Slc nb3 0 ns cp1, U64 bl]), (3, .agg (cu8 tg).toArray)] _ rfl (fun _ => bld38_0123 rfl rfl (by simp [AP]) (by simp [AP, htg])))⟩, trivial⟩ rfl (AZ rfl (A5 1 nb2 22 ([U64 0, U64 0, I64 0, .slice none 0 0, .slice none 0 0, U64 0] ++ cu8 (zr8 16)) 38 ([U64 pv, U64 ep, I64 (kd), .slice ai ni ci, Slc nb3 0 ns cp1, U64 bl] ++ cu8 tg) rfl rfl rfl Tryd.sizeOf38 (by simp [htg]) (CO (by simp [Value.oneCell']) CD) (by simp [(AP 16)]) (BC (by simp [(AP 16), htg])))) ?_
 show DP _ _ _ _ _ _ _ _ [_, ⟨nb2, [U64 pv, U64 ep, I64 (kd), .slice ai ni ci, Slc nb3 0 ns cp1, U64 bl] ++ cu8 tg, 38, (0, 0)⟩, _]
 refine C4 ⟨[6, 10], [0, 1, 2, 3, 4, 5, 7, 8, 9], [0, 1, 2, 3, 4, 5, 7, 8, 9], [], []⟩ rfl rfl (by decide +kernel) rfl trivial ?_
 refine CI (F' := [(2, Ptr nb2 0)]) (by kernel_rfl) ?_
 refine AE (BP (CH [false, true, true] ?_))
 show JQ _ _ _ _ [_, _]
 refine BQ (.agg ([U64 pv, U64 ep, I64 (kd), .slice ai ni ci, Slc nb3 0 ns cp1, U64 bl] ++ cu8 tg).toArray) (res1 Tryd.results44 (DU rfl (BH Tryd.isAgg38 Tryd.sizeOf38 (by simp [htg]) (AS 0 rfl (AL _))))) fun w1 hw1 => ?_
 exact ⟨_, _, rfl, ⟨nb3, sp1, cp1, rfl, rfl, hc1, hc2, hc3⟩, hw1.sub (by simp) (by simp)⟩
theorem bld26_03 {w : World} {v0 : Value} {v3 : Value} (h0 : v0.cells = [v0].toArray) (h3 : v3.cells = [v3].toArray) : (Instr.build 26 ([(0, v0), (3, v3)] : List (Nat × Value)).toArray).run Tryd.prog w = .ok (.agg (((([v0] : List Value) ++ ([.slice none 0 0] : List Value)) ++ ([.slice none 0 0] : List Value)) ++ ([v3] : List Value)).toArray) w :=
 E5 (places := #[(0, 1), (1, 1), (2, 1), (3, 1)]) (Z := (([I64 0] : List Value) ++ (([.slice none 0 0] : List Value) ++ (([.slice none 0 0] : List Value) ++ (([U64 0] : List Value) ++ []))))) (fun _ => by kernel_rfl) AF (fun _ => by kernel_rfl) ((F8 ([I64 0] : List Value) (([.slice none 0 0] : List Value) ++ (([.slice none 0 0] : List Value) ++ (([U64 0] : List Value) ++ []))) ([v0] : List Value) h0 (by simp [AP]) rfl).trans ((fill_skip ([v0] : List Value) ([.slice none 0 0] : List Value) (([.slice none 0 0] : List Value) ++ (([U64 0] : List Value) ++ []))).trans ((fill_skip (([v0] : List Value) ++ ([.slice none 0 0] : List Value)) ([.slice none 0 0] : List Value) (([U64 0] : List Value) ++ [])).trans ((FO ((([v0] : List Value) ++ ([.slice none 0 0] : List Value)) ++ ([.slice none 0 0] : List Value)) ([U64 0] : List Value) [] ([v3] : List Value) h3 (by simp [AP]) rfl).trans (by simp [Instr.fill])))))
theorem alive13_c  (w : World) (hG : GLs w) : Calls Tryd.prog 43 #[] w (Post w [] (fun v L => v = .bool true ∧ L = [])) := by
 have hmx : maxLen = 9223372036854775807 := rfl
 refine enter w [] 39 [] [] Tryd.func43 rfl rfl (by simp) (BZ (by simp) (by simp) (by simp)) ?_
 show JC _ _ _ [] _
 refine AI (AD (AA _ (AG rfl) rfl ?_))
 refine AN (AE (AI (AD (AA (.agg (cu8 ([(1:UInt8), 0, 0, 0, 0, 0, 0, 0, 0, 0, 0, 0, 0, 0, 0, 0, 0, 0, 0, 0, 0, 0, 0, 0, 0, 0, 0, 0, 0, 0, 0, 0])).toArray) (B8 [(0, U8 1)] _ rfl (fun _ => by kernel_rfl)) rfl ?_))))
 refine AA (.agg #[I64 3, .slice none 0 0, .slice none 0 0, U64 5]) (B8 [(0, I64 3), (3, U64 5)] _ rfl (fun _ => bld26_03 rfl rfl)) rfl ?_
 refine A1 (BI 46 [.agg (cu8 ([(1:UInt8), 0, 0, 0, 0, 0, 0, 0, 0, 0, 0, 0, 0, 0, 0, 0, 0, 0, 0, 0, 0, 0, 0, 0, 0, 0, 0, 0, 0, 0, 0, 0])).toArray, U64 0, U64 1, .agg #[I64 3, .slice none 0 0, .slice none 0 0, U64 5]] _ (AY _ Tryd.call46 rfl) (fun w1 hw1 => sign3_c ([(1:UInt8), 0, 0, 0, 0, 0, 0, 0, 0, 0, 0, 0, 0, 0, 0, 0, 0, 0, 0, 0, 0, 0, 0, 0, 0, 0, 0, 0, 0, 0, 0, 0]) (0:UInt64) (1:UInt64) 3 none 0 none 0 (5:UInt64) 25 w1 rfl (by omega) (fun _ => rfl) (by omega) (fun _ => rfl)  (by decide +kernel) rfl (by decide) (by omega) (hG.at hw1))) rfl ?_
 rintro v1 L1 ⟨_, ⟨ao1, ca1, ao2, ca2, rfl, rfl, hc1, hc2, hc3, hc4⟩, rfl⟩
 show JL _ _ _ _ ((8, .tuple #[.agg ([U64 0, U64 1, I64 3, .slice ao1 0 ca1, .slice ao2 0 ca2, U64 5] ++ cu8 (tkG ([(1:UInt8), 0, 0, 0, 0, 0, 0, 0, 0, 0, 0, 0, 0, 0, 0, 0, 0, 0, 0, 0, 0, 0, 0, 0, 0, 0, 0, 0, 0, 0, 0, 0]) (0:UInt64) (1:UInt64) 3 ([] : List UInt64) ([] : List SealR) (5:UInt64))).toArray, .nilIface]) :: _) []
 refine AA _ (AH rfl) rfl ?_
 refine AA _ (B4 rfl rfl) rfl ?_
 refine AA _ (B4 rfl rfl) rfl ?_
 refine A1 (BG _ ([U64 0, U64 0, I64 0, .slice none 0 0, .slice none 0 0, U64 0] ++ cu8 (zr8 16)) BK (by kernel_rfl)) rfl ?_
 rintro v1 L1 ⟨nb1, hnb1, rfl, rfl⟩
 show JL _ _ _ _ ((1, Ptr nb1 0) :: _) [⟨nb1, [U64 0, U64 0, I64 0, .slice none 0 0, .slice none 0 0, U64 0] ++ cu8 (zr8 16), 29, (0, 0)⟩]
 refine A7 (A5 0 nb1 22 ([U64 0, U64 0, I64 0, .slice none 0 0, .slice none 0 0, U64 0] ++ cu8 (zr8 16)) 29 ([U64 0, U64 1, I64 3, .slice ao1 0 ca1, .slice ao2 0 ca2, U64 5] ++ cu8 (tkG ([(1:UInt8), 0, 0, 0, 0, 0, 0, 0, 0, 0, 0, 0, 0, 0, 0, 0, 0, 0, 0, 0, 0, 0, 0, 0, 0, 0, 0, 0, 0, 0, 0, 0]) (0:UInt64) (1:UInt64) 3 ([] : List UInt64) ([] : List SealR) (5:UInt64))) rfl rfl rfl AT (by simp [(CL _ _ _ _ _ _ _)]) (CO (by simp [Value.oneCell']) CD) (by simp [(AP 16)]) (BC (by simp [(AP 16), (CL _ _ _ _ _ _ _)]))) rfl ?_
 show JL _ _ _ _ _ [⟨nb1, [U64 0, U64 1, I64 3, .slice ao1 0 ca1, .slice ao2 0 ca2, U64 5] ++ cu8 (tkG ([(1:UInt8), 0, 0, 0, 0, 0, 0, 0, 0, 0, 0, 0, 0, 0, 0, 0, 0, 0, 0, 0, 0, 0, 0, 0, 0, 0, 0, 0, 0, 0, 0, 0]) (0:UInt64) (1:UInt64) 3 ([] : List UInt64) ([] : List SealR) (5:UInt64)), 29, (0, 0)⟩]
 refine AA _ (AG rfl) rfl ?_
 refine AN (AE (AI (AD (AA (.agg ([U64 0, U64 1, I64 3, .slice ao1 0 ca1, .slice ao2 0 ca2, U64 5] ++ cu8 (tkG ([(1:UInt8), 0, 0, 0, 0, 0, 0, 0, 0, 0, 0, 0, 0, 0, 0, 0, 0, 0, 0, 0, 0, 0, 0, 0, 0, 0, 0, 0, 0, 0, 0, 0]) (0:UInt64) (1:UInt64) 3 ([] : List UInt64) ([] : List SealR) (5:UInt64))).toArray) (AK rfl (BH A9 AT (by simp [(CL _ _ _ _ _ _ _)]) (AS 0 rfl (AL _)))) rfl ?_))))
 refine A1 (BI 47 [.agg ([U64 0, U64 1, I64 3, .slice ao1 0 ca1, .slice ao2 0 ca2, U64 5] ++ cu8 (tkG ([(1:UInt8), 0, 0, 0, 0, 0, 0, 0, 0, 0, 0, 0, 0, 0, 0, 0, 0, 0, 0, 0, 0, 0, 0, 0, 0, 0, 0, 0, 0, 0, 0, 0]) (0:UInt64) (1:UInt64) 3 ([] : List UInt64) ([] : List SealR) (5:UInt64))).toArray] _ (AY _ Tryd.call47 rfl) (fun w1 hw1 => put13_c (0:UInt64) (1:UInt64) 3 ao1 0 ca1 ([] : List UInt64) ao2 0 ca2 ([] : List SealR) (5:UInt64) (tkG ([(1:UInt8), 0, 0, 0, 0, 0, 0, 0, 0, 0, 0, 0, 0, 0, 0, 0, 0, 0, 0, 0, 0, 0, 0, 0, 0, 0, 0, 0, 0, 0, 0, 0]) (0:UInt64) (1:UInt64) 3 ([] : List UInt64) ([] : List SealR) (5:UInt64)) 25 w1 rfl (by omega) (by omega) (by omega) RdV.nil rfl (by omega) (by omega) (by omega) RdV.nil (CL _ _ _ _ _ _ _) (by decide +kernel) (by omega) (by omega) (by decide) (by omega))) rfl ?_
 rintro v1 L1 ⟨_, ⟨nb2, sp1, cp1, rfl, rfl, hc5, hc6, hc7⟩, rfl⟩
 show JL _ _ _ _ ((13, .tuple #[Slc nb2 0 41 cp1, .nilIface]) :: _) [_, ⟨nb2, cu8 ((tktT (0:UInt64) (1:UInt64) 3 ([] : List UInt64) ([] : List SealR) (5:UInt64)) ++ (tkG ([(1:UInt8), 0, 0, 0, 0, 0, 0, 0, 0, 0, 0, 0, 0, 0, 0, 0, 0, 0, 0, 0, 0, 0, 0, 0, 0, 0, 0, 0, 0, 0, 0, 0]) (0:UInt64) (1:UInt64) 3 ([] : List UInt64) ([] : List SealR) (5:UInt64))) ++ sp1, 5, (0, 0)⟩]
 refine AA _ (AH rfl) rfl ?_
 refine AA _ (B4 rfl rfl) rfl ?_
 refine AA _ (B4 rfl rfl) rfl ?_
 refine AA _ (AG rfl) rfl ?_
 refine AA _ (AG rfl) rfl ?_
 refine AN (AE (AI (AD (AA _ (AH rfl) rfl ?_))))
 refine AA (.bool true) (C2 _ _ _ rfl rfl (fun _ => EA ..) fun _ => eql_if_nil_nil A6) rfl ?_
 refine AA _ (AH rfl) rfl ?_
 refine A0 2 18 true _ _ rfl rfl rfl (AH rfl) rfl ?_
 refine A0 2 18 true _ (.bool true) rfl rfl rfl (C2 _ _ _ rfl rfl (fun _ => EA ..) fun _ => eql_if_nil_nil A6) rfl ?_
 refine AA _ (CN _ rfl rfl rfl) rfl ?_
 refine AA _ (AH rfl) rfl ?_
 refine A0 6 22 true _ _ rfl rfl rfl (AH rfl) rfl ?_
 refine A0 6 22 true _ (I64 41) rfl rfl rfl (EL AM rfl) rfl ?_
 refine A0 6 22 true _ (.bool (decide ((41:Int) = (41:Int)))) rfl rfl rfl (AR rfl rfl fun _ => C9 _ _) rfl ?_
 refine AA _ (CN _ rfl rfl rfl) rfl ?_
 refine AA _ (AH rfl) rfl ?_
 refine A0 11 27 true _ _ rfl rfl (by decide) (AH rfl) rfl ?_
 refine A0 11 27 true _ (Ptr nb2 24) rfl rfl (by decide) (FC 5 1 24 AM AW rfl rfl (by omega) (by omega) (by omega)) rfl ?_
 refine A0 11 27 true _ (U8 (g8 ((tktT (0:UInt64) (1:UInt64) 3 ([] : List UInt64) ([] : List SealR) (5:UInt64)) ++ (tkG ([(1:UInt8), 0, 0, 0, 0, 0, 0, 0, 0, 0, 0, 0, 0, 0, 0, 0, 0, 0, 0, 0, 0, 0, 0, 0, 0, 0, 0, 0, 0, 0, 0, 0]) (0:UInt64) (1:UInt64) 3 ([] : List UInt64) ([] : List SealR) (5:UInt64))) 24)) rfl rfl (by decide) (AK rfl (AV D4 (AS 1 rfl (A4 (Seg.get (GE (i := 24) (by rw [(show ((tktT (0:UInt64) (1:UInt64) 3 ([] : List UInt64) ([] : List SealR) (5:UInt64)) ++ (tkG ([(1:UInt8), 0, 0, 0, 0, 0, 0, 0, 0, 0, 0, 0, 0, 0, 0, 0, 0, 0, 0, 0, 0, 0, 0, 0, 0, 0, 0, 0, 0, 0, 0, 0]) (0:UInt64) (1:UInt64) 3 ([] : List UInt64) ([] : List SealR) (5:UInt64))).length = 41 from (by rw [List.length_append, (show (tktT (0:UInt64) (1:UInt64) 3 ([] : List UInt64) ([] : List SealR) (5:UInt64)).length = 25 from (EX rfl rfl).trans (by decide)), (CL _ _ _ _ _ _ _)]))]; omega))))))) rfl ?_
 refine A0 11 27 true _ (.bool (decide ((g8 ((tktT (0:UInt64) (1:UInt64) 3 ([] : List UInt64) ([] : List SealR) (5:UInt64)) ++ (tkG ([(1:UInt8), 0, 0, 0, 0, 0, 0, 0, 0, 0, 0, 0, 0, 0, 0, 0, 0, 0, 0, 0, 0, 0, 0, 0, 0, 0, 0, 0, 0, 0, 0, 0]) (0:UInt64) (1:UInt64) 3 ([] : List UInt64) ([] : List SealR) (5:UInt64))) 24) = (5:UInt8)))) rfl rfl (by decide) (AR rfl rfl fun _ => bin_eql_u8 (g8 ((tktT (0:UInt64) (1:UInt64) 3 ([] : List UInt64) ([] : List SealR) (5:UInt64)) ++ (tkG ([(1:UInt8), 0, 0, 0, 0, 0, 0, 0, 0, 0, 0, 0, 0, 0, 0, 0, 0, 0, 0, 0, 0, 0, 0, 0, 0, 0, 0, 0, 0, 0, 0, 0]) (0:UInt64) (1:UInt64) 3 ([] : List UInt64) ([] : List SealR) (5:UInt64))) 24) (5:UInt8)) rfl ?_
 refine AA _ (CN _ rfl (by decide) rfl) rfl ?_
 refine AA _ (AH rfl) rfl ?_
 refine A0 17 33 true _ (.agg (cu8 ([(1:UInt8), 0, 0, 0, 0, 0, 0, 0, 0, 0, 0, 0, 0, 0, 0, 0, 0, 0, 0, 0, 0, 0, 0, 0, 0, 0, 0, 0, 0, 0, 0, 0])).toArray) rfl rfl (by decide +kernel) (B8 [(0, U8 1)] _ rfl (fun _ => by kernel_rfl)) rfl ?_
 refine A0 17 33 true _ (.agg ([U64 0, U64 1, I64 3, .slice ao1 0 ca1, .slice ao2 0 ca2, U64 5] ++ cu8 (tkG ([(1:UInt8), 0, 0, 0, 0, 0, 0, 0, 0, 0, 0, 0, 0, 0, 0, 0, 0, 0, 0, 0, 0, 0, 0, 0, 0, 0, 0, 0, 0, 0, 0, 0]) (0:UInt64) (1:UInt64) 3 ([] : List UInt64) ([] : List SealR) (5:UInt64))).toArray) rfl rfl (by decide +kernel) (AK rfl (BH A9 AT (by simp [(CL _ _ _ _ _ _ _)]) (AS 0 rfl (AL _)))) rfl ?_
 refine EK 17 33 true _ rfl rfl (by decide +kernel) (A3 48 [.agg (cu8 ([(1:UInt8), 0, 0, 0, 0, 0, 0, 0, 0, 0, 0, 0, 0, 0, 0, 0, 0, 0, 0, 0, 0, 0, 0, 0, 0, 0, 0, 0, 0, 0, 0, 0])).toArray, .agg ([U64 0, U64 1, I64 3, .slice ao1 0 ca1, .slice ao2 0 ca2, U64 5] ++ cu8 (tkG ([(1:UInt8), 0, 0, 0, 0, 0, 0, 0, 0, 0, 0, 0, 0, 0, 0, 0, 0, 0, 0, 0, 0, 0, 0, 0, 0, 0, 0, 0, 0, 0, 0, 0]) (0:UInt64) (1:UInt64) 3 ([] : List UInt64) ([] : List SealR) (5:UInt64))).toArray] (.nilIface) (AY _ Tryd.call48 rfl) (fun w1 hw1 => chkK_c ([(1:UInt8), 0, 0, 0, 0, 0, 0, 0, 0, 0, 0, 0, 0, 0, 0, 0, 0, 0, 0, 0, 0, 0, 0, 0, 0, 0, 0, 0, 0, 0, 0, 0]) (0:UInt64) (1:UInt64) 3 ao1 0 ca1 ([] : List UInt64) ao2 0 ca2 ([] : List SealR) (5:UInt64) (tkG ([(1:UInt8), 0, 0, 0, 0, 0, 0, 0, 0, 0, 0, 0, 0, 0, 0, 0, 0, 0, 0, 0, 0, 0, 0, 0, 0, 0, 0, 0, 0, 0, 0, 0]) (0:UInt64) (1:UInt64) 3 ([] : List UInt64) ([] : List SealR) (5:UInt64)) 25 w1 rfl rfl (by omega) (by omega) (by omega) RdV.nil rfl (by omega) (by omega) (by omega) RdV.nil (CL _ _ _ _ _ _ _) (by decide +kernel) (by omega) (by omega) (by decide) (by omega) (hG.at hw1) rfl)) rfl ?_
 rintro v1 L1 ⟨rfl, rfl⟩
 show JL _ _ _ _ ((36, .nilIface) :: _) [_, _]
 refine A0 17 33 true _ (.bool true) rfl rfl (by decide +kernel) (C2 _ _ _ rfl rfl (fun _ => EA ..) fun _ => eql_if_nil_nil A6) rfl ?_
 refine AA _ (CN _ rfl (by decide +kernel) rfl) rfl ?_
 refine AA _ (AG rfl) rfl ?_
 refine AN (AE (BP (CH [false, false] ?_)))
 show JQ _ _ _ _ []
 refine BQ (.bool true) (res1 Tryd.results43 (B2 rfl)) fun w1 hw1 => ?_
 exact ⟨_, [], rfl, ⟨by rw [show (true) = true from rfl], rfl⟩, hw1.sub (by simp) (by simp)⟩
end Go.Proofs.YtkdpdgpphpngeaaDoor
namespace Go.Proofs.YtkdpdgpphpngeaaDoor
open Go Go.Sx
attribute [local irreducible] mid zr8 zr32 numK rnK valK rotr wordL spreadL comprL cpN adN spN wrdN constL initL padL stN outN routN sumG putL RightB tktT mayN idxT selT macL eQ vQ bQ sQ ixQ seQ
theorem numQ_w (rb p s : Nat) (ao : Option Addr) (n c : Nat) (z0 z : List UInt8) (w : World) (h0 : w.heap[rb]? = some (.cells [errV 50 (eQ z0 p), .slice ao n c].toArray 204 (0, 0))) (hz : z.length = n) (hn : n ≤ 2000000000) (hc : n ≤ c) (hcm : c ≤ maxLen) (hr : RdB w [rb] ao z) (hq : Lq z0 z p) (hs : Szd (s : Int)) : Calls Tryd.prog 109 #[Ptr rb 0, I64 (s : Int)] w (Post w [rb] (fun v L => v = U64 (vQ z0 p s) ∧ ∃ ao' z' c', Lq z0 z' (p + s) ∧ Adv ao z c ao' z' c' ∧ L = [⟨rb, [errV 50 (eQ z0 (p + s)), .slice ao' z'.length c'], 204, (0, 0)⟩])) := by
 refine (numR_w rb (eQ z0 p) ao n c z s w h0 hz hn hc hcm hr).mono ?_
 rintro E W ⟨v, L, rfl, ⟨hv, ao', c', hA, hL⟩, hw⟩
 exact ⟨v, L, rfl, ⟨by rw [hv, nuV_q hq hs], ao', _, c', nuZ_q hq hs, hA, by rw [hL, okE_q (NuOk_q hq hs)]⟩, hw⟩
theorem rawA_w (rb p s : Nat) (ao : Option Addr) (n c : Nat) (z0 z : List UInt8) (w : World) (h0 : w.heap[rb]? = some (.cells [errV 50 (eQ z0 p), .slice ao n c].toArray 204 (0, 0))) (hz : z.length = n) (hn : n ≤ 2000000000) (hc : n ≤ c) (hcm : c ≤ maxLen) (hr : RdB w [rb] ao z) (hq : Lq z0 z p) (hs0 : 0 < s) : Calls Tryd.prog 127 #[Ptr rb 0, I64 (s : Int)] w (Post w [rb] (fun v L => ∃ ao' z' c', Lq z0 z' (p + s) ∧ Adv ao z c ao' z' c' ∧ ((p + s ≤ z0.length ∧ ∃ g sp cap, v = Slc g 0 s cap ∧ L = [⟨rb, [errV 50 (eQ z0 (p + s)), .slice ao' z'.length c'], 204, (0, 0)⟩, ⟨g, cu8 (bQ z0 p s) ++ sp, 5, (0, 0)⟩] ∧ sp.length = cap - s ∧ s ≤ cap ∧ cap ≤ maxLen) ∨ (¬ p + s ≤ z0.length ∧ v = .slice none 0 0 ∧ L = [⟨rb, [errV 50 (eQ z0 (p + s)), .slice ao' z'.length c'], 204, (0, 0)⟩])))) := by
  by_cases hg : p + s ≤ z0.length
  · have hp : p ≤ z0.length := by omega
    have hl := hq.len hp
    refine (rawROk_c rb (eQ z0 p) ao n c z s (n - s) (c - s) w h0 hz hn hc hcm hr (eQ_ok hp) hs0 (by omega) (by omega) (by omega)).mono ?_
    rintro E W ⟨v, L, rfl, ⟨g, sp, cap, rfl, rfl, h1, h2, h3⟩, hw⟩
    have e1 : mid z 0 s = bQ z0 p s := by rw [bQ, if_pos hg, hq hp]
    have e2 : (z.drop s).length = n - s := by rw [List.length_drop, hz]
    have e3 : eQ z0 p = eQ z0 (p + s) := by rw [eQ_ok hp, eQ_ok hg]
    refine ⟨_, _, rfl, ⟨advA ao c s, z.drop s, c - s, (fun _ => by rw [hq hp, List.drop_drop]), Adv.drop s (by omega) (by omega) hcm, .inl ⟨hg, g, sp, cap, rfl, ?_, h1, h2, h3⟩⟩, hw⟩
    rw [e1, e2, e3]
  · have e3 : erN (eQ z0 p) 2 = eQ z0 (p + s) := by
      rw [eQ_bad hg]; unfold eQ
      by_cases hp : p ≤ z0.length
      · rw [if_pos hp]; rfl
      · rw [if_neg hp]; rfl
    by_cases hp : p ≤ z0.length
    · have hl := hq.len hp
      refine (rawRB0_c rb (eQ z0 p) ao n c s w h0 (eQ_ok hp) (.inr (by omega))).mono ?_
      rintro E W ⟨v, L, rfl, ⟨rfl, rfl⟩, hw⟩
      exact ⟨_, _, rfl, ⟨ao, z, c, (fun h => absurd h hg), Adv.same (by omega) hcm, .inr ⟨hg, rfl, by rw [e3, hz]⟩⟩, hw⟩
    · refine (rawRB1_c rb (eQ z0 p) (.slice ao n c) s w h0 (by rw [eQ_bad hp]; decide) (by omega)).mono ?_
      rintro E W ⟨v, L, rfl, ⟨rfl, rfl⟩, hw⟩
      exact ⟨_, _, rfl, ⟨ao, z, c, (fun h => absurd h hg), Adv.same (by omega) hcm, .inr ⟨hg, rfl, by rw [e3, hz]⟩⟩, hw⟩
theorem bld161_0 {w : World} {v0 : Value} (h0 : v0.cells = [v0].toArray) : (Instr.build 161 ([(0, v0)] : List (Nat × Value)).toArray).run Tryd.prog w = .ok (.agg ((([v0] : List Value) ++ (cu8 (zr8 32) : List Value)) ++ (cu8 (zr8 16) : List Value)).toArray) w :=
 E5 (places := #[(0, 1), (1, 32), (33, 16)]) (Z := (([U64 0] : List Value) ++ ((cu8 (zr8 32) : List Value) ++ ((cu8 (zr8 16) : List Value) ++ [])))) (fun _ => by kernel_rfl) CT (fun _ => by kernel_rfl) ((F8 ([U64 0] : List Value) ((cu8 (zr8 32) : List Value) ++ ((cu8 (zr8 16) : List Value) ++ [])) ([v0] : List Value) h0 (by simp [AP]) rfl).trans ((fill_skip ([v0] : List Value) (cu8 (zr8 32) : List Value) ((cu8 (zr8 16) : List Value) ++ [])).trans ((fill_skip (([v0] : List Value) ++ (cu8 (zr8 32) : List Value)) (cu8 (zr8 16) : List Value) []).trans (by simp [Instr.fill]))))
theorem sreadQ_c (rb p : Nat) (ao : Option Addr) (n c : Nat) (z0 z : List UInt8)  (w : World) (h0 : w.heap[rb]? = some (.cells [errV 50 (eQ z0 p), .slice ao n c].toArray 204 (0, 0))) (hz : z.length = n) (hn : n ≤ 2000000000) (hc : n ≤ c) (hcm : c ≤ maxLen) (hr : RdB w [rb] ao z) (hq : Lq z0 z p)  : Calls Tryd.prog 120 #[Ptr rb 0] w (Post w [rb] (fun v L => v = .agg ([U64 (vQ z0 p 8)] ++ cu8 (bQ z0 (p + 8) 32) ++ cu8 (bQ z0 (p + 40) 16)).toArray ∧ ∃ ao' z' c', Lq z0 z' (p + 56) ∧ Adv ao z c ao' z' c' ∧ L = [⟨rb, [errV 50 (eQ z0 (p + 56)), .slice ao' z'.length c'], 204, (0, 0)⟩])) := by
 have hmx : maxLen = 9223372036854775807 := rfl
 refine enter w [rb] 18 [⟨rb, [errV 50 (eQ z0 p), .slice ao n c], 204, (0, 0)⟩] [Ptr rb 0] Tryd.func120 rfl rfl (by simp) (BZ (by simpa using h0) (by simp) (by simp)) ?_
 show JC _ _ _ [(0, Ptr rb 0)] _
 refine AI (AD (A1 (BG _ ([U64 0] ++ cu8 (zr8 32) ++ cu8 (zr8 16)) Tryd.zeroValue161 (by kernel_rfl)) rfl ?_))
 rintro v1 L1 ⟨nb1, hnb1, rfl, rfl⟩
 show JL _ _ _ _ ((2, Ptr nb1 0) :: _) [_, ⟨nb1, [U64 0] ++ cu8 (zr8 32) ++ cu8 (zr8 16), 161, (0, 0)⟩]
 refine AN (AE (AI (AD (AA _ (AH rfl) rfl ?_))))
 have hz1 : (z).length = n := hz
 refine A1 (DN 109 _ [true, false] [rb] _ (AY [Ptr rb 0, I64 8] Tryd.call109 rfl) rfl (fun w1 hw1 => numQ_w rb p 8 ao n c z0 z w1 (hw1.ent _ (List.mem_of_getElem? (i := 0) rfl)) hz (by omega) (by omega) (by omega) ((fun _ _ h => h) _ _ (hr.at (M' := [rb]) hw1 (hw1.apart [0] _ rfl))) hq (by unfold Szd; omega))) rfl ?_
 rintro v1 L1 ⟨_, ⟨rfl, ao1, zz1, ca1, hq1, ⟨hA1, hb1, hb2, hb3⟩, rfl⟩, rfl⟩
 show JL _ _ _ _ ((5, U64 (vQ z0 p 8)) :: _) [_, ⟨rb, [errV 50 (eQ z0 (p + 8)), .slice ao1 zz1.length ca1], 204, (0, 0)⟩]
 refine AA (.agg ([U64 (vQ z0 p 8)] ++ cu8 (zr8 32) ++ cu8 (zr8 16)).toArray) (B8 [(0, U64 (vQ z0 p 8))] _ rfl (fun _ => bld161_0 rfl)) rfl ?_
 refine A1 (BG _ ([U64 0] ++ cu8 (zr8 32) ++ cu8 (zr8 16)) Tryd.zeroValue161 (by kernel_rfl)) rfl ?_
 rintro v1 L1 ⟨nb2, hnb2, rfl, rfl⟩
 show JL _ _ _ _ ((3, Ptr nb2 0) :: _) [_, _, ⟨nb2, [U64 0] ++ cu8 (zr8 32) ++ cu8 (zr8 16), 161, (0, 0)⟩]
 refine A7 (A5 2 nb2 49 ([U64 0] ++ cu8 (zr8 32) ++ cu8 (zr8 16)) 161 ([U64 (vQ z0 p 8)] ++ cu8 (zr8 32) ++ cu8 (zr8 16)) rfl rfl rfl CE (by simp [(AP 32), (AP 16)]) (CO (CO (by simp [Value.oneCell']) CD) CD) (by simp [(AP 32), (AP 16)]) (BC (by simp [(AP 32), (AP 16), (AP 32), (AP 16)]))) rfl ?_
 show JL _ _ _ _ _ [_, _, ⟨nb2, [U64 (vQ z0 p 8)] ++ cu8 (zr8 32) ++ cu8 (zr8 16), 161, (0, 0)⟩]
 refine AN (AE (AI (C1 18 3 [(0, Ptr nb2 1), (1, Slc nb2 1 32 32), (2, Ptr rb 0)] BV rfl (by decide +kernel) ?_)))
 have hz2 : (zz1).length = zz1.length := rfl
 refine CR ⟨[], [0, 1, 2], [], [0, 1, 2], [3]⟩ 3 _ rfl rfl (by decide +kernel) rfl ⟨⟨_, rfl, AC rfl (AB 1 159 32 CT rfl Tryd.sizeOf159 rfl rfl)⟩, ⟨_, rfl, AC rfl (B3 32 5 1 0 32 1 32 E1 AW rfl rfl rfl (by omega) (by omega) (by omega) (by omega) (by omega) 32 (by omega))⟩, A2 rfl rfl rfl, trivial⟩ rfl (AZ rfl (DN 127 _ [false, true, false] [rb] _ (AY [Ptr rb 0, I64 32] Tryd.call127 rfl) rfl (fun w1 hw1 => rawA_w rb (p + 8) 32 ao1 zz1.length ca1 z0 zz1 w1 (hw1.ent _ (List.mem_of_getElem? (i := 1) rfl)) rfl (by omega) (by omega) (by omega) ((fun w M h => hA1 w M ((fun _ _ h => h) w M h)) _ _ (hr.at (M' := [rb]) hw1 (hw1.apart [1] _ rfl))) hq1 (by omega)))) ?_
 rintro v1 L1 ⟨_, ⟨ao2, zz2, ca2, hq2, ⟨hA2, hb4, hb5, hb6⟩, (⟨hg1, nb3, sp1, cp1, rfl, rfl, hc1, hc2, hc3⟩ | ⟨hg1, rfl, rfl⟩)⟩, rfl⟩
 ·
  refine ⟨[], ?_⟩
  show DP _ _ _ _ _ _ _ _ [_, _, ⟨rb, [errV 50 (eQ z0 (p + 40)), .slice ao2 zz2.length ca2], 204, (0, 0)⟩, ⟨nb3, cu8 (bQ z0 (p + 8) 32) ++ sp1, 5, (0, 0)⟩]
  refine CQ ⟨[3], [0, 1, 2], [2], [0, 1], [4]⟩ 4 rfl rfl (by decide +kernel) rfl ⟨⟨_, rfl, AC rfl (AB 1 159 32 CT rfl Tryd.sizeOf159 rfl rfl)⟩, ⟨_, rfl, AC rfl (B3 32 5 1 0 32 1 32 E1 AW rfl rfl rfl (by omega) (by omega) (by omega) (by omega) (by omega) 32 (by omega))⟩, trivial⟩ rfl (AZ rfl (EW 43 43 5 1 nb2 1 32 32 ([U64 (vQ z0 p 8)] ++ cu8 (zr8 32) ++ cu8 (zr8 16)) 161 (some ⟨nb3, 0, none⟩) 32 cp1 32 (cu8 (bQ z0 (p + 8) 32)) ([U64 (vQ z0 p 8)] ++ cu8 (bQ z0 (p + 8) 32) ++ cu8 (zr8 16)) AM DZ rfl rfl rfl rfl (by simp [(show (bQ z0 (p + 8) 32).length = 32 from (B5 _ _ _))]; try omega) (SrcAt.mem (AS 3 rfl (A4 (AL _)))) (by simp [(AP 32), (AP 16)]; try omega) (by first | exact CD | exact D3 | exact D1 | (simp [cu8, cu32, cu64, Value.oneCell']; done)) (lay_left (p := [U64 (vQ z0 p 8)] ++ cu8 (zr8 32)) (vs := cu8 (bQ z0 (p + 8) 32)) (o := 1) (by simp [(AP 32), (show (bQ z0 (p + 8) 32).length = 32 from (B5 _ _ _))]) (GD 1 0 rfl rfl (BC (by simp [(AP 32), (show (bQ z0 (p + 8) 32).length = 32 from (B5 _ _ _))])))))) ?_
  show DP _ _ _ _ _ _ _ _ [_, ⟨nb2, [U64 (vQ z0 p 8)] ++ cu8 (bQ z0 (p + 8) 32) ++ cu8 (zr8 16), 161, (0, 0)⟩, _, _]
  refine C4 ⟨[3, 4], [0, 1, 2], [0, 1, 2], [], []⟩ rfl rfl (by decide +kernel) rfl trivial ?_
  refine CI (F' := [(0, Ptr rb 0), (2, Ptr nb1 0), (3, Ptr nb2 0)]) (by kernel_rfl) ?_
  refine AE (AI (C1 18 3 [(0, Ptr nb2 33), (1, Slc nb2 33 16 16), (2, Ptr rb 0)] BV rfl (by decide +kernel) ?_))
  have hz3 : (zz2).length = zz2.length := rfl
  refine CR ⟨[], [0, 1, 2], [], [0, 1, 2], [3]⟩ 3 _ rfl rfl (by decide +kernel) rfl ⟨⟨_, rfl, AC rfl (AB 33 27 16 CT rfl BE rfl rfl)⟩, ⟨_, rfl, AC rfl (B3 16 5 1 0 16 33 16 BJ AW rfl rfl rfl (by omega) (by omega) (by omega) (by omega) (by omega) 16 (by omega))⟩, A2 rfl rfl rfl, trivial⟩ rfl (AZ rfl (DN 127 _ [false, false, true, false] [rb] _ (AY [Ptr rb 0, I64 16] Tryd.call127 rfl) rfl (fun w1 hw1 => rawA_w rb (p + 40) 16 ao2 zz2.length ca2 z0 zz2 w1 (hw1.ent _ (List.mem_of_getElem? (i := 2) rfl)) rfl (by omega) (by omega) (by omega) ((fun w M h => hA2 w M ((fun w M h => hA1 w M ((fun _ _ h => h) w M h)) w M h)) _ _ (hr.at (M' := [rb]) hw1 (hw1.apart [2] _ rfl))) hq2 (by omega)))) ?_
  rintro v1 L1 ⟨_, ⟨ao3, zz3, ca3, hq3, ⟨hA3, hb7, hb8, hb9⟩, (⟨hg2, nb4, sp2, cp2, rfl, rfl, hc4, hc5, hc6⟩ | ⟨hg2, rfl, rfl⟩)⟩, rfl⟩
  ·
   refine ⟨[], ?_⟩
   show DP _ _ _ _ _ _ _ _ [_, _, _, ⟨rb, [errV 50 (eQ z0 (p + 56)), .slice ao3 zz3.length ca3], 204, (0, 0)⟩, ⟨nb4, cu8 (bQ z0 (p + 40) 16) ++ sp2, 5, (0, 0)⟩]
   refine CQ ⟨[3], [0, 1, 2], [2], [0, 1], [4]⟩ 4 rfl rfl (by decide +kernel) rfl ⟨⟨_, rfl, AC rfl (AB 33 27 16 CT rfl BE rfl rfl)⟩, ⟨_, rfl, AC rfl (B3 16 5 1 0 16 33 16 BJ AW rfl rfl rfl (by omega) (by omega) (by omega) (by omega) (by omega) 16 (by omega))⟩, trivial⟩ rfl (AZ rfl (EW 43 43 5 1 nb2 33 16 16 ([U64 (vQ z0 p 8)] ++ cu8 (bQ z0 (p + 8) 32) ++ cu8 (zr8 16)) 161 (some ⟨nb4, 0, none⟩) 16 cp2 16 (cu8 (bQ z0 (p + 40) 16)) ([U64 (vQ z0 p 8)] ++ cu8 (bQ z0 (p + 8) 32) ++ cu8 (bQ z0 (p + 40) 16)) AM DZ rfl rfl rfl rfl (by simp [(show (bQ z0 (p + 40) 16).length = 16 from (B5 _ _ _))]; try omega) (SrcAt.mem (AS 4 rfl (A4 (AL _)))) (by simp [(show (bQ z0 (p + 8) 32).length = 32 from (B5 _ _ _)), (AP 16)]; try omega) (by first | exact CD | exact D3 | exact D1 | (simp [cu8, cu32, cu64, Value.oneCell']; done)) (GD 33 0 (by simp [(show (bQ z0 (p + 8) 32).length = 32 from (B5 _ _ _))]) rfl (BC (by simp [(AP 16), (show (bQ z0 (p + 40) 16).length = 16 from (B5 _ _ _))]))))) ?_
   show DP _ _ _ _ _ _ _ _ [_, ⟨nb2, [U64 (vQ z0 p 8)] ++ cu8 (bQ z0 (p + 8) 32) ++ cu8 (bQ z0 (p + 40) 16), 161, (0, 0)⟩, _, _, _]
   refine C4 ⟨[3, 4], [0, 1, 2], [0, 1, 2], [], []⟩ rfl rfl (by decide +kernel) rfl trivial ?_
   refine CI (F' := [(2, Ptr nb1 0), (3, Ptr nb2 0)]) (by kernel_rfl) ?_
   refine AE (AI (AD (AA (.agg ([U64 (vQ z0 p 8)] ++ cu8 (bQ z0 (p + 8) 32) ++ cu8 (bQ z0 (p + 40) 16)).toArray) (AK rfl (BH ED CE (by simp [(show (bQ z0 (p + 8) 32).length = 32 from (B5 _ _ _)), (show (bQ z0 (p + 40) 16).length = 16 from (B5 _ _ _))]) (AS 1 rfl (AL _)))) rfl ?_)))
   refine A7 (A5 0 nb1 49 ([U64 0] ++ cu8 (zr8 32) ++ cu8 (zr8 16)) 161 ([U64 (vQ z0 p 8)] ++ cu8 (bQ z0 (p + 8) 32) ++ cu8 (bQ z0 (p + 40) 16)) rfl rfl rfl CE (by simp [(show (bQ z0 (p + 8) 32).length = 32 from (B5 _ _ _)), (show (bQ z0 (p + 40) 16).length = 16 from (B5 _ _ _))]) (CO (CO (by simp [Value.oneCell']) CD) CD) (by simp [(AP 32), (AP 16)]) (BC (by simp [(AP 32), (AP 16), (show (bQ z0 (p + 8) 32).length = 32 from (B5 _ _ _)), (show (bQ z0 (p + 40) 16).length = 16 from (B5 _ _ _))]))) rfl ?_
   show JL _ _ _ _ _ [⟨nb1, [U64 (vQ z0 p 8)] ++ cu8 (bQ z0 (p + 8) 32) ++ cu8 (bQ z0 (p + 40) 16), 161, (0, 0)⟩, _, _, _, _]
   refine AN (AE (BP (CH [true, false, false, true, false] ?_)))
   show JQ _ _ _ _ [_, _]
   refine BQ (.agg ([U64 (vQ z0 p 8)] ++ cu8 (bQ z0 (p + 8) 32) ++ cu8 (bQ z0 (p + 40) 16)).toArray) (res1 Tryd.results120 (DU rfl (BH ED CE (by simp [(show (bQ z0 (p + 8) 32).length = 32 from (B5 _ _ _)), (show (bQ z0 (p + 40) 16).length = 16 from (B5 _ _ _))]) (AS 0 rfl (AL _))))) fun w1 hw1 => ?_
   first | (exfalso; omega) | exact ⟨_, _, rfl, ⟨rfl, ao3, zz3, ca3, hq3, ⟨(fun w M h => hA3 w M ((fun w M h => hA2 w M ((fun w M h => hA1 w M ((fun _ _ h => h) w M h)) w M h)) w M h)), by omega, by omega, by omega⟩, rfl⟩, hw1.sub (by simp) (by simp)⟩
  ·
   refine ⟨[], ?_⟩
   show DP _ _ _ _ _ _ _ _ [_, _, _, ⟨rb, [errV 50 (eQ z0 (p + 56)), .slice ao3 zz3.length ca3], 204, (0, 0)⟩]
   refine CQ ⟨[3], [0, 1, 2], [2], [0, 1], [4]⟩ 4 rfl rfl (by decide +kernel) rfl ⟨⟨_, rfl, AC rfl (AB 33 27 16 CT rfl BE rfl rfl)⟩, ⟨_, rfl, AC rfl (B3 16 5 1 0 16 33 16 BJ AW rfl rfl rfl (by omega) (by omega) (by omega) (by omega) (by omega) 16 (by omega))⟩, trivial⟩ rfl (AZ rfl (EW 43 43 5 1 nb2 33 16 16 ([U64 (vQ z0 p 8)] ++ cu8 (bQ z0 (p + 8) 32) ++ cu8 (zr8 16)) 161 none 0 0 0 [] ([U64 (vQ z0 p 8)] ++ cu8 (bQ z0 (p + 8) 32) ++ cu8 (zr8 16)) AM DZ rfl rfl rfl rfl rfl SrcAt.nil (by simp [(show (bQ z0 (p + 8) 32).length = 32 from (B5 _ _ _)), (AP 16)]) one_nil (lay_nil _ _))) ?_
   show DP _ _ _ _ _ _ _ _ [_, _, _, _]
   refine C4 ⟨[3, 4], [0, 1, 2], [0, 1, 2], [], []⟩ rfl rfl (by decide +kernel) rfl trivial ?_
   refine CI (F' := [(2, Ptr nb1 0), (3, Ptr nb2 0)]) (by kernel_rfl) ?_
   refine AE (AI (AD (AA (.agg ([U64 (vQ z0 p 8)] ++ cu8 (bQ z0 (p + 8) 32) ++ cu8 (zr8 16)).toArray) (AK rfl (BH ED CE (by simp [(show (bQ z0 (p + 8) 32).length = 32 from (B5 _ _ _)), (AP 16)]) (AS 1 rfl (AL _)))) rfl ?_)))
   refine A7 (A5 0 nb1 49 ([U64 0] ++ cu8 (zr8 32) ++ cu8 (zr8 16)) 161 ([U64 (vQ z0 p 8)] ++ cu8 (bQ z0 (p + 8) 32) ++ cu8 (zr8 16)) rfl rfl rfl CE (by simp [(show (bQ z0 (p + 8) 32).length = 32 from (B5 _ _ _)), (AP 16)]) (CO (CO (by simp [Value.oneCell']) CD) CD) (by simp [(AP 32), (AP 16)]) (BC (by simp [(AP 32), (AP 16), (show (bQ z0 (p + 8) 32).length = 32 from (B5 _ _ _)), (AP 16)]))) rfl ?_
   show JL _ _ _ _ _ [⟨nb1, [U64 (vQ z0 p 8)] ++ cu8 (bQ z0 (p + 8) 32) ++ cu8 (zr8 16), 161, (0, 0)⟩, _, _, _]
   refine AN (AE (BP (CH [true, false, false, true] ?_)))
   show JQ _ _ _ _ [_, _]
   refine BQ (.agg ([U64 (vQ z0 p 8)] ++ cu8 (bQ z0 (p + 8) 32) ++ cu8 (zr8 16)).toArray) (res1 Tryd.results120 (DU rfl (BH ED CE (by simp [(show (bQ z0 (p + 8) 32).length = 32 from (B5 _ _ _)), (AP 16)]) (AS 0 rfl (AL _))))) fun w1 hw1 => ?_
   first | (exfalso; omega) | exact ⟨_, _, rfl, ⟨by rw [show bQ z0 (p + 40) 16 = zr8 16 from bQ_neg (by omega)], ao3, zz3, ca3, hq3, ⟨(fun w M h => hA3 w M ((fun w M h => hA2 w M ((fun w M h => hA1 w M ((fun _ _ h => h) w M h)) w M h)) w M h)), by omega, by omega, by omega⟩, rfl⟩, hw1.sub (by simp) (by simp)⟩
 ·
  refine ⟨[], ?_⟩
  show DP _ _ _ _ _ _ _ _ [_, _, ⟨rb, [errV 50 (eQ z0 (p + 40)), .slice ao2 zz2.length ca2], 204, (0, 0)⟩]
  refine CQ ⟨[3], [0, 1, 2], [2], [0, 1], [4]⟩ 4 rfl rfl (by decide +kernel) rfl ⟨⟨_, rfl, AC rfl (AB 1 159 32 CT rfl Tryd.sizeOf159 rfl rfl)⟩, ⟨_, rfl, AC rfl (B3 32 5 1 0 32 1 32 E1 AW rfl rfl rfl (by omega) (by omega) (by omega) (by omega) (by omega) 32 (by omega))⟩, trivial⟩ rfl (AZ rfl (EW 43 43 5 1 nb2 1 32 32 ([U64 (vQ z0 p 8)] ++ cu8 (zr8 32) ++ cu8 (zr8 16)) 161 none 0 0 0 [] ([U64 (vQ z0 p 8)] ++ cu8 (zr8 32) ++ cu8 (zr8 16)) AM DZ rfl rfl rfl rfl rfl SrcAt.nil (by simp [(AP 32), (AP 16)]) one_nil (lay_nil _ _))) ?_
  show DP _ _ _ _ _ _ _ _ [_, _, _]
  refine C4 ⟨[3, 4], [0, 1, 2], [0, 1, 2], [], []⟩ rfl rfl (by decide +kernel) rfl trivial ?_
  refine CI (F' := [(0, Ptr rb 0), (2, Ptr nb1 0), (3, Ptr nb2 0)]) (by kernel_rfl) ?_
  refine AE (AI (C1 18 3 [(0, Ptr nb2 33), (1, Slc nb2 33 16 16), (2, Ptr rb 0)] BV rfl (by decide +kernel) ?_))
  have hz4 : (zz2).length = zz2.length := rfl
  refine CR ⟨[], [0, 1, 2], [], [0, 1, 2], [3]⟩ 3 _ rfl rfl (by decide +kernel) rfl ⟨⟨_, rfl, AC rfl (AB 33 27 16 CT rfl BE rfl rfl)⟩, ⟨_, rfl, AC rfl (B3 16 5 1 0 16 33 16 BJ AW rfl rfl rfl (by omega) (by omega) (by omega) (by omega) (by omega) 16 (by omega))⟩, A2 rfl rfl rfl, trivial⟩ rfl (AZ rfl (DN 127 _ [false, false, true] [rb] _ (AY [Ptr rb 0, I64 16] Tryd.call127 rfl) rfl (fun w1 hw1 => rawA_w rb (p + 40) 16 ao2 zz2.length ca2 z0 zz2 w1 (hw1.ent _ (List.mem_of_getElem? (i := 2) rfl)) rfl (by omega) (by omega) (by omega) ((fun w M h => hA2 w M ((fun w M h => hA1 w M ((fun _ _ h => h) w M h)) w M h)) _ _ (hr.at (M' := [rb]) hw1 (hw1.apart [2] _ rfl))) hq2 (by omega)))) ?_
  rintro v1 L1 ⟨_, ⟨ao4, zz4, ca4, hq4, ⟨hA4, hb10, hb11, hb12⟩, (⟨hg3, nb5, sp3, cp3, rfl, rfl, hc7, hc8, hc9⟩ | ⟨hg3, rfl, rfl⟩)⟩, rfl⟩
  ·
   refine ⟨[], ?_⟩
   show DP _ _ _ _ _ _ _ _ [_, _, ⟨rb, [errV 50 (eQ z0 (p + 56)), .slice ao4 zz4.length ca4], 204, (0, 0)⟩, ⟨nb5, cu8 (bQ z0 (p + 40) 16) ++ sp3, 5, (0, 0)⟩]
   refine CQ ⟨[3], [0, 1, 2], [2], [0, 1], [4]⟩ 4 rfl rfl (by decide +kernel) rfl ⟨⟨_, rfl, AC rfl (AB 33 27 16 CT rfl BE rfl rfl)⟩, ⟨_, rfl, AC rfl (B3 16 5 1 0 16 33 16 BJ AW rfl rfl rfl (by omega) (by omega) (by omega) (by omega) (by omega) 16 (by omega))⟩, trivial⟩ rfl (AZ rfl (EW 43 43 5 1 nb2 33 16 16 ([U64 (vQ z0 p 8)] ++ cu8 (zr8 32) ++ cu8 (zr8 16)) 161 (some ⟨nb5, 0, none⟩) 16 cp3 16 (cu8 (bQ z0 (p + 40) 16)) ([U64 (vQ z0 p 8)] ++ cu8 (zr8 32) ++ cu8 (bQ z0 (p + 40) 16)) AM DZ rfl rfl rfl rfl (by simp [(show (bQ z0 (p + 40) 16).length = 16 from (B5 _ _ _))]; try omega) (SrcAt.mem (AS 3 rfl (A4 (AL _)))) (by simp [(AP 32), (AP 16)]; try omega) (by first | exact CD | exact D3 | exact D1 | (simp [cu8, cu32, cu64, Value.oneCell']; done)) (GD 33 0 (by simp [(AP 32)]) rfl (BC (by simp [(AP 16), (show (bQ z0 (p + 40) 16).length = 16 from (B5 _ _ _))]))))) ?_
   show DP _ _ _ _ _ _ _ _ [_, ⟨nb2, [U64 (vQ z0 p 8)] ++ cu8 (zr8 32) ++ cu8 (bQ z0 (p + 40) 16), 161, (0, 0)⟩, _, _]
   refine C4 ⟨[3, 4], [0, 1, 2], [0, 1, 2], [], []⟩ rfl rfl (by decide +kernel) rfl trivial ?_
   refine CI (F' := [(2, Ptr nb1 0), (3, Ptr nb2 0)]) (by kernel_rfl) ?_
   refine AE (AI (AD (AA (.agg ([U64 (vQ z0 p 8)] ++ cu8 (zr8 32) ++ cu8 (bQ z0 (p + 40) 16)).toArray) (AK rfl (BH ED CE (by simp [(AP 32), (show (bQ z0 (p + 40) 16).length = 16 from (B5 _ _ _))]) (AS 1 rfl (AL _)))) rfl ?_)))
   refine A7 (A5 0 nb1 49 ([U64 0] ++ cu8 (zr8 32) ++ cu8 (zr8 16)) 161 ([U64 (vQ z0 p 8)] ++ cu8 (zr8 32) ++ cu8 (bQ z0 (p + 40) 16)) rfl rfl rfl CE (by simp [(AP 32), (show (bQ z0 (p + 40) 16).length = 16 from (B5 _ _ _))]) (CO (CO (by simp [Value.oneCell']) CD) CD) (by simp [(AP 32), (AP 16)]) (BC (by simp [(AP 32), (AP 16), (AP 32), (show (bQ z0 (p + 40) 16).length = 16 from (B5 _ _ _))]))) rfl ?_
   show JL _ _ _ _ _ [⟨nb1, [U64 (vQ z0 p 8)] ++ cu8 (zr8 32) ++ cu8 (bQ z0 (p + 40) 16), 161, (0, 0)⟩, _, _, _]
   refine AN (AE (BP (CH [true, false, true, false] ?_)))
   show JQ _ _ _ _ [_, _]
   refine BQ (.agg ([U64 (vQ z0 p 8)] ++ cu8 (zr8 32) ++ cu8 (bQ z0 (p + 40) 16)).toArray) (res1 Tryd.results120 (DU rfl (BH ED CE (by simp [(AP 32), (show (bQ z0 (p + 40) 16).length = 16 from (B5 _ _ _))]) (AS 0 rfl (AL _))))) fun w1 hw1 => ?_
   first | (exfalso; omega) | exact ⟨_, _, rfl, ⟨by rw [show bQ z0 (p + 8) 32 = zr8 32 from bQ_neg (by omega)], ao4, zz4, ca4, hq4, ⟨(fun w M h => hA4 w M ((fun w M h => hA2 w M ((fun w M h => hA1 w M ((fun _ _ h => h) w M h)) w M h)) w M h)), by omega, by omega, by omega⟩, rfl⟩, hw1.sub (by simp) (by simp)⟩
  ·
   refine ⟨[], ?_⟩
   show DP _ _ _ _ _ _ _ _ [_, _, ⟨rb, [errV 50 (eQ z0 (p + 56)), .slice ao4 zz4.length ca4], 204, (0, 0)⟩]
   refine CQ ⟨[3], [0, 1, 2], [2], [0, 1], [4]⟩ 4 rfl rfl (by decide +kernel) rfl ⟨⟨_, rfl, AC rfl (AB 33 27 16 CT rfl BE rfl rfl)⟩, ⟨_, rfl, AC rfl (B3 16 5 1 0 16 33 16 BJ AW rfl rfl rfl (by omega) (by omega) (by omega) (by omega) (by omega) 16 (by omega))⟩, trivial⟩ rfl (AZ rfl (EW 43 43 5 1 nb2 33 16 16 ([U64 (vQ z0 p 8)] ++ cu8 (zr8 32) ++ cu8 (zr8 16)) 161 none 0 0 0 [] ([U64 (vQ z0 p 8)] ++ cu8 (zr8 32) ++ cu8 (zr8 16)) AM DZ rfl rfl rfl rfl rfl SrcAt.nil (by simp [(AP 32), (AP 16)]) one_nil (lay_nil _ _))) ?_
   show DP _ _ _ _ _ _ _ _ [_, _, _]
   refine C4 ⟨[3, 4], [0, 1, 2], [0, 1, 2], [], []⟩ rfl rfl (by decide +kernel) rfl trivial ?_
   refine CI (F' := [(2, Ptr nb1 0), (3, Ptr nb2 0)]) (by kernel_rfl) ?_
   refine AE (AI (AD (AA (.agg ([U64 (vQ z0 p 8)] ++ cu8 (zr8 32) ++ cu8 (zr8 16)).toArray) (AK rfl (BH ED CE (by simp [(AP 32), (AP 16)]) (AS 1 rfl (AL _)))) rfl ?_)))
   refine A7 (A5 0 nb1 49 ([U64 0] ++ cu8 (zr8 32) ++ cu8 (zr8 16)) 161 ([U64 (vQ z0 p 8)] ++ cu8 (zr8 32) ++ cu8 (zr8 16)) rfl rfl rfl CE (by simp [(AP 32), (AP 16)]) (CO (CO (by simp [Value.oneCell']) CD) CD) (by simp [(AP 32), (AP 16)]) (BC (by simp [(AP 32), (AP 16), (AP 32), (AP 16)]))) rfl ?_
   show JL _ _ _ _ _ [⟨nb1, [U64 (vQ z0 p 8)] ++ cu8 (zr8 32) ++ cu8 (zr8 16), 161, (0, 0)⟩, _, _]
   refine AN (AE (BP (CH [true, false, true] ?_)))
   show JQ _ _ _ _ [_, _]
   refine BQ (.agg ([U64 (vQ z0 p 8)] ++ cu8 (zr8 32) ++ cu8 (zr8 16)).toArray) (res1 Tryd.results120 (DU rfl (BH ED CE (by simp [(AP 32), (AP 16)]) (AS 0 rfl (AL _))))) fun w1 hw1 => ?_
   first | (exfalso; omega) | exact ⟨_, _, rfl, ⟨by rw [show bQ z0 (p + 8) 32 = zr8 32 from bQ_neg (by omega), show bQ z0 (p + 40) 16 = zr8 16 from bQ_neg (by omega)], ao4, zz4, ca4, hq4, ⟨(fun w M h => hA4 w M ((fun w M h => hA2 w M ((fun w M h => hA1 w M ((fun _ _ h => h) w M h)) w M h)) w M h)), by omega, by omega, by omega⟩, rfl⟩, hw1.sub (by simp) (by simp)⟩
end Go.Proofs.YtkdpdgpphpngeaaDoor
namespace Go.Proofs.YtkdpdgpphpngeaaDoor
open Go Go.Sx
theorem valK_lt (z : List UInt8) : ∀ k, k ≤ 8 → (valK z k).toNat < 256 ^ k ∧ (k + 1 ≤ 8 → (valK z (k + 1)).toNat = (valK z k).toNat * 256 + (g8 z k).toNat)
 | 0, _ => ⟨Nat.zero_lt_one, fun _ => by
  have hb := UInt8.toNat_lt (g8 z 0)
  have h0 : (valK z 0).toNat = 0 := rfl
  have h1 : valK z (0 + 1) = (valK z 0 <<< 8) ||| (g8 z 0).toUInt64 := rfl
  rw [h1, shl_or, UInt64.toNat_add, UInt64.toNat_mul, UInt8.toNat_toUInt64, h0]
  show (0 * 256 % 2 ^ 64 + (g8 z 0).toNat) % 2 ^ 64 = _
  omega⟩
 | k + 1, h => by
  obtain ⟨h1, h2⟩ := valK_lt z k (by omega)
  have h3 := h2 h
  have hb := UInt8.toNat_lt (g8 z k)
  have hb' := UInt8.toNat_lt (g8 z (k + 1))
  have hp : 256 ^ (k + 1) = 256 ^ k * 256 := Nat.pow_succ ..
  have h4 : (valK z (k + 1)).toNat < 256 ^ (k + 1) := by omega
  refine ⟨h4, fun h5 => ?_⟩
  have hq : 256 ^ (k + 1) ≤ 256 ^ 7 := Nat.pow_le_pow_right (by omega) (by omega)
  rw [valK, shl_or, UInt64.toNat_add, UInt64.toNat_mul, UInt8.toNat_toUInt64]
  show ((valK z (k + 1)).toNat * 256 % 2 ^ 64 + (g8 z (k + 1)).toNat) % 2 ^ 64 = _
  omega
theorem valK_pre (z : List UInt8) (i : Nat) : ∀ d, i + d ≤ 8 → (valK z (i + d)).toNat / 256 ^ d = (valK z i).toNat
 | 0, _ => by simp
 | d + 1, h => by
  have h1 := (valK_lt z (i + d) (by omega)).2 (by omega)
  have hb := UInt8.toNat_lt (g8 z (i + d))
  have ih := valK_pre z i d (by omega)
  rw [show i + (d + 1) = i + d + 1 from rfl, h1, Nat.pow_succ, Nat.mul_comm (256 ^ d) 256, ← Nat.div_div_eq_div_mul]
  rw [show ((valK z (i + d)).toNat * 256 + (g8 z (i + d)).toNat) / 256 = (valK z (i + d)).toNat by omega]
  exact ih
theorem g8_mid {z : List UInt8} {o n i : Nat} (h : i < n) : g8 (mid z o n) i = g8 z (o + i) := by
 simp [g8, mid, List.getD_eq_getElem?_getD, List.getElem?_take, h]
theorem numK_val {z : List UInt8} {k : Nat} (hk : k ≤ 8) (hz : k ≤ z.length) : numK k (valK z k) k = mid z 0 k := by
 refine ext8n (by rw [C3, E3 (by omega)]) (fun i hi => ?_)
 rw [C3] at hi
 rw [g8_mid hi, Nat.zero_add, numK, g8_mr hi]
 apply UInt8.toNat_inj.1
 rw [UInt64.toNat_toUInt8, show 8*k - 8*i - 8 = 8*(k - 1 - i) by omega, shr_divK _ _ (by omega)]
 have h1 := valK_pre z (i + 1) (k - 1 - i) (by omega)
 rw [show i + 1 + (k - 1 - i) = k by omega] at h1
 rw [h1, (valK_lt z i (by omega)).2 (by omega)]
 have hb := UInt8.toNat_lt (g8 z i)
 omega
theorem take_mid (z : List UInt8) (p s : Nat) : z.take (p + s) = z.take p ++ mid (z.drop p) 0 s := by
 rw [List.take_add]; rfl
theorem numK_q {z0 : List UInt8} {p s : Nat} (hs : s ≤ 8) (h : p + s ≤ z0.length) : z0.take p ++ numK s (vQ z0 p s) s = z0.take (p + s) := by
 rw [vQ, if_pos h, numK_val hs (by rw [List.length_drop]; omega), take_mid]
theorem bQ_q {z0 : List UInt8} {p s : Nat} (h : p + s ≤ z0.length) : z0.take p ++ bQ z0 p s = z0.take (p + s) := by rw [bQ, if_pos h, take_mid]
theorem g64_app {a b : List UInt64} {i : Nat} (h : i < a.length) : g64 (a ++ b) i = g64 a i := by simp [g64, List.getD_eq_getElem?_getD, List.getElem?_append_left h]
theorem g64_end {a : List UInt64} {x : UInt64} : g64 (a ++ [x]) a.length = x := by simp [g64, List.getD_eq_getElem?_getD]
theorem ixQ_get {z0 : List UInt8} {p : Nat} : ∀ {m i : Nat}, i < m → g64 (ixQ z0 p m) i = vQ z0 (p + 4*i) 4
  | m + 1, i, h => by
    rw [ixQ_succ]
    by_cases hi : i < m
    · rw [g64_app (by rw [FJ]; exact hi), ixQ_get hi]
    · obtain rfl : i = m := by omega
      have e : g64 (ixQ z0 p i ++ [vQ z0 (p + 4*i) 4]) (ixQ z0 p i).length = vQ z0 (p + 4*i) 4 := g64_end
      rwa [FJ] at e
theorem idxT_q {z0 : List UInt8} {p m : Nat} (h : p + 4*m ≤ z0.length) : ∀ i, i ≤ m → z0.take p ++ idxT (ixQ z0 p m) i = z0.take (p + 4*i)
 | 0, _ => by rw [idxT_zero, List.append_nil]; rfl
 | i + 1, hi => by
  rw [idxT_succ, ← List.append_assoc, idxT_q h i (by omega), ixQ_get (by omega), numK_q (by omega) (by omega)]; rfl
theorem selT_q {z0 : List UInt8} {p : Nat} : ∀ m, p + 56*m ≤ z0.length → z0.take p ++ selT (seQ z0 p m) = z0.take (p + 56*m)
 | 0, _ => by rw [seQ, selT_nil, List.append_nil]; rfl
 | m + 1, h => by
  rw [seQ_succ, selT_app, ← List.append_assoc, selT_q m (by omega)]
  show z0.take (p + 56*m) ++ ((numK 8 (vQ z0 (p + 56*m) 8) 8 ++ bQ z0 (p + 56*m + 8) 32) ++ bQ z0 (p + 56*m + 40) 16) = _
  rw [← List.append_assoc, ← List.append_assoc, numK_q (by omega) (by omega), bQ_q (by omega), show p + 56*m + 8 + 32 = p + 56*m + 40 by omega, bQ_q (by omega)]
  congr 1
def mQ (z0 : List UInt8) : Nat := (vQ z0 17 1).toNat + 1
def Ok1 (z0 : List UInt8) : Prop := vQ z0 16 1 = 1 ∧ 60*mQ z0 + 34 ≤ z0.length ∧ mayN (vQ z0 0 8) (vQ z0 8 8) (((vQ z0 16 1).toNat:Int)) (ixQ z0 18 (mQ z0)) (seQ z0 (4*mQ z0 + 18) (mQ z0)) (0:UInt64) = 0
def Ok2 (z0 : List UInt8) : Prop := vQ z0 16 1 = 2 ∧ 4*mQ z0 + 34 ≤ z0.length ∧ mayN (vQ z0 0 8) (vQ z0 8 8) (((vQ z0 16 1).toNat:Int)) (ixQ z0 18 (mQ z0)) ([] : List SealR) (0:UInt64) = 0
def Ok3 (z0 : List UInt8) : Prop := vQ z0 16 1 = 3 ∧ 41 ≤ z0.length ∧ mayN (vQ z0 0 8) (vQ z0 8 8) (((vQ z0 16 1).toNat:Int)) ([] : List UInt64) ([] : List SealR) (vQ z0 17 8) = 0
theorem erQ_ne {e k : Nat} (hk : k ≠ 0) : erN e k ≠ 0 := by unfold erN; split <;> omega
theorem endN_z {k : Nat} (h : endN 0 k = 0) : k = 0 := by unfold endN at h; rw [if_pos rfl] at h; split at h <;> omega
theorem endN_b {k : Nat} (h : ¬ endN 0 k = 0) : endN 0 k = 2 := by unfold endN at h ⊢; rw [if_pos rfl] at h ⊢; split at h <;> simp_all
def BadQ (z0 : List UInt8) : Prop := ¬ Ok1 z0 ∧ ¬ Ok2 z0 ∧ ¬ Ok3 z0
theorem mQ_eq (z0 : List UInt8) : mQ z0 = (vQ z0 17 1).toNat + 1 := rfl
theorem kdn {x : UInt64} {k : Nat} (hk : k < 18446744073709551616) (h : ((x.toNat:Int)) = (k:Int)) : x = UInt64.ofNat k := UInt64.toNat_inj.1 (by rw [UInt64.toNat_ofNat']; omega)
theorem kd12 {x : UInt64} (h : (decide (((x.toNat:Int)) = (1:Int)) || decide (((x.toNat:Int)) = (2:Int))) = true) : x = 1 ∨ x = 2 := by
  rcases Bool.or_eq_true .. ▸ h with h | h
  · exact .inl (kdn (k := 1) (by decide) (of_decide_eq_true h))
  · exact .inr (kdn (k := 2) (by decide) (of_decide_eq_true h))
theorem kd3 {x : UInt64} (h : decide (((x.toNat:Int)) = (3:Int)) = true) : x = 3 := kdn (k := 3) (by decide) (of_decide_eq_true h)
theorem minQ {z0 z : List UInt8} (hq : Lq z0 z 18) : ∃ m : Nat, min (((vQ z0 17 1).toNat:Int) + 1) ((leftN (eQ z0 18) z.length : Nat) : Int) = (m:Int) ∧ m ≤ 256 ∧ (m = mQ z0 ∨ (m < mQ z0 ∧ z0.length ≤ m + 18)) := by
  have h9 := vQ_lt1 z0 17
  have hm := mQ_eq z0
  refine ⟨min (mQ z0) (leftN (eQ z0 18) z.length), by omega, by omega, ?_⟩
  by_cases h : 18 ≤ z0.length
  · have hl := hq.len h
    rw [eQ_ok h, leftN, if_pos rfl]
    omega
  · rw [eQ_bad h, leftN, if_neg (by decide)]
    omega
theorem bad1 {z0 : List UInt8} (hk : vQ z0 16 1 = 1) (h : ¬ (60*mQ z0 + 34 ≤ z0.length ∧ mayN (vQ z0 0 8) (vQ z0 8 8) (((vQ z0 16 1).toNat:Int)) (ixQ z0 18 (mQ z0)) (seQ z0 (4*mQ z0 + 18) (mQ z0)) (0:UInt64) = 0)) : BadQ z0 :=
 ⟨fun e => h e.2, fun e => absurd (hk.symm.trans e.1) (by decide), fun e => absurd (hk.symm.trans e.1) (by decide)⟩
theorem bad2 {z0 : List UInt8} (hk : vQ z0 16 1 = 2) (h : ¬ (4*mQ z0 + 34 ≤ z0.length ∧ mayN (vQ z0 0 8) (vQ z0 8 8) (((vQ z0 16 1).toNat:Int)) (ixQ z0 18 (mQ z0)) ([] : List SealR) (0:UInt64) = 0)) : BadQ z0 :=
 ⟨fun e => absurd (hk.symm.trans e.1) (by decide), fun e => h e.2, fun e => absurd (hk.symm.trans e.1) (by decide)⟩
theorem bad3 {z0 : List UInt8} (hk : vQ z0 16 1 = 3) (h : ¬ (41 ≤ z0.length ∧ mayN (vQ z0 0 8) (vQ z0 8 8) (((vQ z0 16 1).toNat:Int)) ([] : List UInt64) ([] : List SealR) (vQ z0 17 8) = 0)) : BadQ z0 :=
 ⟨fun e => absurd (hk.symm.trans e.1) (by decide), fun e => absurd (hk.symm.trans e.1) (by decide), fun e => h e.2⟩
theorem may_nil {pv ep : UInt64} {kd : Int} {bl : UInt64} (h : kd ≠ 3) : mayN pv ep kd ([] : List UInt64) ([] : List SealR) bl ≠ 0 := fun e => by
  have hR := F7 e
  by_cases h1 : kd = 1 ∨ kd = 2
  · have := (RightO_idx hR h1).1
    simp at this
  · rw [mayN_kd ⟨fun e => h1 (.inl e), fun e => h1 (.inr e), h⟩] at e
    omega
theorem bad0 {z0 : List UInt8} {bl : UInt64} (h3 : decide ((((vQ z0 16 1).toNat:Int)) = (3:Int)) = false) (h : (decide ((((vQ z0 16 1).toNat:Int)) = (1:Int)) || decide ((((vQ z0 16 1).toNat:Int)) = (2:Int))) = false) :
  BadQ z0 ∧ mayN (vQ z0 0 8) (vQ z0 8 8) (((vQ z0 16 1).toNat:Int)) ([] : List UInt64) ([] : List SealR) bl ≠ 0 := by
 obtain ⟨h1, h2⟩ := Bool.or_eq_false_iff.1 h
 have h1 := of_decide_eq_false h1
 have h2 := of_decide_eq_false h2
 have h3 := of_decide_eq_false h3
 exact ⟨⟨fun e => h1 (by rw [e.1]; rfl), fun e => h2 (by rw [e.1]; rfl), fun e => h3 (by rw [e.1]; rfl)⟩, may_nil h3⟩
theorem bad12 {z0 : List UInt8} {bl : UInt64} (hk : vQ z0 16 1 = 1 ∨ vQ z0 16 1 = 2) (h : z0.length < mQ z0 + 18) :
    BadQ z0 ∧ mayN (vQ z0 0 8) (vQ z0 8 8) (((vQ z0 16 1).toNat:Int)) ([] : List UInt64) ([] : List SealR) bl ≠ 0 := by
  rcases hk with hk | hk
  · exact ⟨bad1 hk (fun e => by omega), may_nil (by rw [hk]; decide)⟩
  · exact ⟨bad2 hk (fun e => by omega), may_nil (by rw [hk]; decide)⟩
theorem head_q {z0 : List UInt8} (h : 17 ≤ z0.length) : (numK 8 (vQ z0 0 8) 8 ++ numK 8 (vQ z0 8 8) 8) ++ numK 1 (UInt64.ofNat (vQ z0 16 1).toNat) 1 = z0.take 17 := by
 have e0 : numK 8 (vQ z0 0 8) 8 = z0.take 8 := by
  have := numK_q (z0 := z0) (p := 0) (s := 8) (by omega) (by omega)
  rwa [List.take_zero, List.nil_append] at this
 rw [UInt64.ofNat_toNat, e0, numK_q (by omega) (by omega), numK_q (by omega) (by omega)]
theorem text3_q {z0 : List UInt8} (h : 25 ≤ z0.length) (hk : vQ z0 16 1 = 3) : tktT (vQ z0 0 8) (vQ z0 8 8) (vQ z0 16 1).toNat [] [] (vQ z0 17 8) = z0.take 25 := by
 unfold tktT
 rw [if_pos (by rw [hk]; rfl), head_q (by omega), numK_q (by omega) (by omega)]
theorem head2_q {z0 : List UInt8} {m : Nat} (hm : m = mQ z0) (h : 4*m + 18 ≤ z0.length) : ((((numK 8 (vQ z0 0 8) 8 ++ numK 8 (vQ z0 8 8) 8) ++ numK 1 (UInt64.ofNat (vQ z0 16 1).toNat) 1) ++ numK 1 (UInt64.ofNat ((ixQ z0 18 m).length - 1)) 1) ++ idxT (ixQ z0 18 m) (ixQ z0 18 m).length) = z0.take (4*m + 18) := by
 rw [head_q (by omega), FJ, show m - 1 = (vQ z0 17 1).toNat by rw [hm]; unfold mQ; omega, UInt64.ofNat_toNat, numK_q (by omega) (by omega), idxT_q (by omega) m (Nat.le_refl _), Nat.add_comm 18]
theorem text2_q {z0 : List UInt8} (h : 4*mQ z0 + 18 ≤ z0.length) (hk : vQ z0 16 1 = 2) : tktT (vQ z0 0 8) (vQ z0 8 8) (vQ z0 16 1).toNat (ixQ z0 18 (mQ z0)) [] 0 = z0.take (4*mQ z0 + 18) := by
 unfold tktT
 rw [if_neg (by rw [hk]; decide), head2_q rfl h, selT_nil, List.append_nil]
theorem text1_q {z0 : List UInt8} (h : 60*mQ z0 + 18 ≤ z0.length) (hk : vQ z0 16 1 = 1) : tktT (vQ z0 0 8) (vQ z0 8 8) (vQ z0 16 1).toNat (ixQ z0 18 (mQ z0)) (seQ z0 (4*mQ z0 + 18) (mQ z0)) 0 = z0.take (60*mQ z0 + 18) := by
 unfold tktT
 rw [if_neg (by rw [hk]; decide), head2_q rfl (by omega), selT_q (mQ z0) (by omega)]
 congr 1
 omega
theorem put3_q {z0 : List UInt8} (h : z0.length = 41) (hk : vQ z0 16 1 = 3) : tktT (vQ z0 0 8) (vQ z0 8 8) (vQ z0 16 1).toNat [] [] (vQ z0 17 8) ++ bQ z0 25 16 = z0 := by
 rw [text3_q (by omega) hk, bQ_q (by omega), List.take_of_length_le (by omega)]
theorem put2_q {z0 : List UInt8} (h : z0.length = 4*mQ z0 + 34) (hk : vQ z0 16 1 = 2) : tktT (vQ z0 0 8) (vQ z0 8 8) (vQ z0 16 1).toNat (ixQ z0 18 (mQ z0)) [] 0 ++ bQ z0 (4*mQ z0 + 18) 16 = z0 := by
 rw [text2_q (by omega) hk, bQ_q (by omega), List.take_of_length_le (by omega)]
theorem put1_q {z0 : List UInt8} (h : z0.length = 60*mQ z0 + 34) (hk : vQ z0 16 1 = 1) : tktT (vQ z0 0 8) (vQ z0 8 8) (vQ z0 16 1).toNat (ixQ z0 18 (mQ z0)) (seQ z0 (4*mQ z0 + 18) (mQ z0)) 0 ++ bQ z0 (60*mQ z0 + 18) 16 = z0 := by
 rw [text1_q (by omega) hk, bQ_q (by omega), List.take_of_length_le (by omega)]
theorem vQ_at {z0 a b : List UInt8} {p s : Nat} {x : UInt64} (hz : z0 = a ++ (numK s x s ++ b)) (ha : a.length = p) (hs : s ≤ 8) (hx : x.toNat / 256 ^ s = 0) : vQ z0 p s = x := by
 subst hz; subst ha
 have hl : a.length + s ≤ (a ++ (numK s x s ++ b)).length := by rw [List.length_append, List.length_append, C3]; omega
 rw [vQ, if_pos hl, List.drop_left, ← valK_back s x hs hx]
 refine valK_congr s (fun i hi => ?_)
 rw [valK_back s x hs hx]
 simp only [g8, List.getD_eq_getElem?_getD]
 rw [List.getElem?_append_left (by rw [C3]; exact hi)]
theorem bQ_at {z0 a t b : List UInt8} {p s : Nat} (hz : z0 = a ++ (t ++ b)) (ha : a.length = p) (ht : t.length = s) : bQ z0 p s = t := by
 subst hz; subst ha; subst ht
 rw [bQ, if_pos (by rw [List.length_append, List.length_append]; omega), List.drop_left]
 simp [mid]
end Go.Proofs.YtkdpdgpphpngeaaDoor
