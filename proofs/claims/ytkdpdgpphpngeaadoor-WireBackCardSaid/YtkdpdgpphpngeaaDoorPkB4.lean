import Derived.Test.YtkdpdgpphpngeaaDoorPkB3
set_option linter.unusedVariables false
set_option linter.unusedSimpArgs false
set_option maxRecDepth 100000
namespace Go.Proofs.YtkdpdgpphpngeaaDoor
open Go Go.Sx
open Go.Value renaming slice → SL
attribute [local irreducible] mid zr8 numK valK constL initL putL RightB tktT mayN idxT selT blankB spanB reqR plainV itB chB bB aB c1B c2B c3B c4B repR
set_option maxHeartbeats 2000000 in
theorem putRepE_c (rq : UInt64) (rk er : Nat) (aj : Option Addr) (nj cj : Nat) (lj : List ItemR) (th : Bool) (pv ep : UInt64) (kd : Int) (ai : Option Addr) (ni ci : Nat) (l : List UInt64) (sa : Option Addr) (ns sc : Nat) (ls : List SealR) (bl : UInt64) (tg : List UInt8) (aha : Option Addr) (nha cha : Nat) (xha : List UInt8) (ahb : Option Addr) (nhb chb : Nat) (xhb : List UInt8)  (w : World) (hlj : lj.length = nj) (hnj : nj ≤ 2000000) (hdj : nj ≤ cj) (hcj : cj ≤ maxLen) (hj : RdV w aj (lj.flatMap itemC)) (hl : l.length = ni) (hnm : ni ≤ 2000000) (hnc : ni ≤ ci) (hcm : ci ≤ maxLen) (hv : RdV w ai (cu64 l)) (hls : ls.length = ns) (hnn : ns ≤ 2000000) (hnd : ns ≤ sc) (hcn : sc ≤ maxLen) (hs : RdV w sa (ls.flatMap sealC)) (htg : tg.length = 16) (hlha : xha.length = nha * 32) (hnha : nha ≤ 9000) (hdha : nha ≤ cha) (hcha : cha ≤ maxLen) (hrha : RdB w [] aha xha) (hlhb : xhb.length = nhb * 32) (hnhb : nhb ≤ 9000) (hdhb : nhb ≤ chb) (hchb : chb ≤ maxLen) (hrhb : RdB w [] ahb xhb) (hbi : ni ≤ 300) (hbs : ns ≤ 300) (hA : nha ≤ 300) (hB : nhb ≤ 8192) (hR : repR ((rk:Int)) ((er:Int)) th lj (blankB pv ep kd l ls bl tg) (decide (mayN pv ep kd l ls bl = 0)) nha nhb = true) (hE : (er:Int) ≠ 0)  : Calls Tryd.prog 34 #[.agg (V0 rq rk er aj nj cj th pv ep (kd) ai ni ci sa ns sc bl tg aha nha cha ahb nhb chb).toArray] w (Post w [] (fun v L => ∃ g sp cap, v = .tuple #[Slc g 0 (10) cap, .nilIface] ∧ L = [(Ez g (cu8 ((numK 8 rq 8 ++ numK 1 (UInt64.ofNat rk) 1) ++ numK 1 (UInt64.ofNat er) 1) ++ sp) 5)] ∧ sp.length = cap - 10 ∧ 10 ≤ cap ∧ cap ≤ maxLen)) := by
 have hmx : maxLen = 9223372036854775807 := rfl
 have hf := repR_f hlj hR
 have hn0 := repR_E hlj hE hR
 refine enter (P := Tryd.prog) (f := 34) (fn := Tryd.f34) w [] 103 [] [.agg (V0 rq rk er aj nj cj th pv ep (kd) ai ni ci sa ns sc bl tg aha nha cha ahb nhb chb).toArray] Tryd.func34 rfl rfl (by simp) (BZ (by simp) (by simp) (by simp)) ?_
 show JC _ _ _ [(0, .agg (V0 rq rk er aj nj cj th pv ep (kd) ai ni ci sa ns sc bl tg aha nha cha ahb nhb chb).toArray)] _
 refine AF (AC (A2 (CN (.agg (V0 rq rk er aj nj cj th pv ep (kd) ai ni ci sa ns sc bl tg aha nha cha ahb nhb chb).toArray) (V0 rq rk er aj nj cj th pv ep (kd) ai ni ci sa ns sc bl tg aha nha cha ahb nhb chb) rfl (by first | rfl | simp)) rfl ?_))
 rintro v1 L1 ⟨nb1, hnb1, rfl, rfl⟩
 show JL _ _ _ _ (_ :: _) [_]
 refine AA _ (AE rfl) rfl (AA _ (AE rfl) rfl ?_)
 refine AJ (AD (AF (AF (AC (AA _ (AL rfl (BR B8 BQ (by simp [htg]) (AR 0 rfl (AN _)))) rfl ?_)))))
 refine A7 (A3 35 _ (.bool (repR ((rk:Int)) ((er:Int)) th lj (blankB pv ep (kd) l ls bl tg) (decide (mayN pv ep (kd) l ls bl = 0)) nha nhb)) (AV _ Tryd.call35 rfl) (fun w1 hw1 => FB rq ((rk:Int)) ((er:Int)) aj nj cj lj th pv ep (kd) ai ni ci l sa ns sc ls bl tg aha nha cha xha ahb nhb chb xhb w1 hlj (by omega) (by omega) (by omega) (CF hw1 rfl hj) hl (by omega) (by omega) (by omega) (CF hw1 rfl hv) hls (by omega) (by omega) (by omega) (CF hw1 rfl hs) htg hlha (by omega) (by omega) (by omega) (hrha.at (M' := []) hw1 (by simp)) hlhb (by omega) (by omega) (by omega) (hrhb.at (M' := []) hw1 (by simp)) (by omega) (by omega))) rfl ?_
 show JL _ _ _ _ ((14, .bool (repR ((rk:Int)) ((er:Int)) th lj (blankB pv ep (kd) l ls bl tg) (decide (mayN pv ep (kd) l ls bl = 0)) nha nhb)) :: _) [_]
 refine AA (.bool (!(repR ((rk:Int)) ((er:Int)) th lj (blankB pv ep (kd) l ls bl tg) (decide (mayN pv ep (kd) l ls bl = 0)) nha nhb))) (D1 rfl) rfl ?_
 refine AJ (AD (BT _ rfl (bnotT hR) ?_))
 refine BH (AD (AF (AC (AA _ (AL rfl (BR B8 BQ (by simp [htg]) (AR 0 rfl (AN _)))) rfl ?_))))
 refine A7 (A3 95 _ (.tuple #[.bool (itB ((er:Int)) ((rk:Int))), .bool (chB ((er:Int)) ((rk:Int)) th), .bool (aB ((er:Int)) ((rk:Int)) th), .bool (bB ((er:Int)) ((rk:Int)) th)]) (AV _ Tryd.call95 rfl) (fun w1 hw1 => parts_c rq ((rk:Int)) ((er:Int)) aj nj cj lj th pv ep (kd) ai ni ci l sa ns sc ls bl tg aha nha cha xha ahb nhb chb xhb w1 htg)) rfl ?_
 show JL _ _ _ _ ((19, .tuple #[.bool (itB ((er:Int)) ((rk:Int))), .bool (chB ((er:Int)) ((rk:Int)) th), .bool (aB ((er:Int)) ((rk:Int)) th), .bool (bB ((er:Int)) ((rk:Int)) th)]) :: _) [_]
 refine AA _ (AG rfl) rfl (AA _ (BI rfl rfl) rfl (AA _ (BI rfl rfl) rfl (AA _ (BI rfl rfl) rfl (AA _ (BI rfl rfl) rfl (AA _ (AE rfl) rfl (AA _ (AE rfl) rfl (AA _ (AE rfl) rfl (AA _ (AE rfl) rfl ?_))))))))
 refine AJ (AD (AF (AC (AA (.agg #[.nilIface, SL none 0 0]) (CY [] _ rfl (fun _ => by kernel_rfl)) rfl ?_))))
 refine A2 (CN (.agg #[.nilIface, SL none 0 0]) ([.nilIface, SL none 0 0]) rfl (by first | rfl | simp)) rfl ?_
 rintro v1 L1 ⟨nb2, hnb2, rfl, rfl⟩
 show JL _ _ _ _ (_ :: _) [_, _]
 refine AA _ (AE rfl) rfl ?_
 refine AJ (AD (AF (DB 103 4 [(0, Ptr nb2 0), (1, Ptr nb1 0), (2, U64 rq), (4, Ptr nb1 1), (5, I64 rk), (6, U64 (UInt64.ofNat rk)), (8, Ptr nb1 2), (9, I64 er), (10, U64 (UInt64.ofNat er))] B6 rfl (by decide +kernel) ?_)))
 refine C2 ⟨[], [0, 1, 2, 4, 5, 6, 8, 9, 10], [], [0, 1, 2, 4, 5, 6, 8, 9, 10], [3]⟩ 3 _ rfl rfl (by decide +kernel) rfl ⟨CB rfl rfl rfl, AP rfl rfl (AB 0 22 1 AK rfl A1 rfl rfl), AP rfl rfl (AL rfl (AX A8 (AR 0 rfl (AI (AI (Seg.head)))))), AP rfl rfl (AB 1 3 1 AK rfl AW rfl rfl), AP rfl rfl (AL rfl (AX A0 (AR 0 rfl (AI (AI (AH (Seg.head))))))), AP rfl rfl (CV _ _ rfl fun _ => EB (by rw [A4]; rfl) AU rk _ (by omega)), AP rfl rfl (AB 2 3 1 AK rfl AW rfl rfl), AP rfl rfl (AL rfl (AX A0 (AR 0 rfl (AI (AI (AH (AH (Seg.head)))))))), AP rfl rfl (CV _ _ rfl fun _ => EB (by rw [A4]; rfl) AU er _ (by omega)), trivial⟩ rfl (BO rfl (BD 81 _ [false, true] [nb2] _ (AV _ B9 rfl) rfl (fun w1 hw1 => numN_c nb2 8 .nilIface rq 8 w1 (hw1.en 1 rfl) (by unfold Szd; omega) (fun h => absurd h (by omega)) (by omega)))) ?_
 rintro v1 L1 ⟨_, ⟨rfl, nb3, sp1, cp1, rfl, hc1, hc2, hc3⟩, rfl⟩
 refine ⟨[], ?_⟩
 show DP _ _ _ _ _ _ _ _ [_, (Ez nb2 [.nilIface, Slc nb3 0 8 cp1] 149), (Ez nb3 (cu8 (numK 8 rq 8) ++ sp1) 5)]
 refine C2 ⟨[3], [0, 1, 2, 4, 5, 6, 8, 9, 10], [0, 1, 2], [4, 5, 6, 8, 9, 10], [7]⟩ 7 _ rfl rfl (by decide +kernel) rfl ⟨AP rfl rfl (AB 1 3 1 AK rfl AW rfl rfl), AP rfl rfl (AL rfl (AX A0 (AR 0 rfl (AI (AI (AH (Seg.head))))))), AP rfl rfl (CV _ _ rfl fun _ => EB (by rw [A4]; rfl) AU rk _ (by omega)), AP rfl rfl (AB 2 3 1 AK rfl AW rfl rfl), AP rfl rfl (AL rfl (AX A0 (AR 0 rfl (AI (AI (AH (AH (Seg.head)))))))), AP rfl rfl (CV _ _ rfl fun _ => EB (by rw [A4]; rfl) AU er _ (by omega)), trivial⟩ rfl (BO rfl (BD 81 _ [false, true, true] [nb2, nb3] _ (AV _ B9 rfl) rfl (fun w1 hw1 => E1 nb2 nb3 8 cp1 9 .nilIface (numK 8 rq 8) sp1 (UInt64.ofNat rk) 1 w1 (hw1.en 1 rfl) (hw1.en 2 rfl) (hw1.ne (i := 1) (j := 2) rfl rfl (by decide)) (show (numK 8 rq 8).length = 8 from (AZ _ _ _)) hc1 hc2 hc3 (by omega) (by unfold Szd; omega) (fun _ => shr8n (by omega)) (by omega)))) ?_
 rintro v1 L1 ⟨_, ⟨rfl, nb4, sp2, cp2, rfl, hc4, hc5, hc6⟩, rfl⟩
 refine ⟨[], ?_⟩
 show DP _ _ _ _ _ _ _ _ [_, (Ez nb2 [.nilIface, Slc nb4 0 9 cp2] 149), (Ez nb4 (cu8 ((numK 8 rq 8) ++ numK 1 (UInt64.ofNat rk) 1) ++ sp2) 5)]
 refine C2 ⟨[3, 7], [0, 1, 2, 4, 5, 6, 8, 9, 10], [0, 1, 2, 4, 5, 6], [8, 9, 10], [11]⟩ 11 _ rfl rfl (by decide +kernel) rfl ⟨AP rfl rfl (AB 2 3 1 AK rfl AW rfl rfl), AP rfl rfl (AL rfl (AX A0 (AR 0 rfl (AI (AI (AH (AH (Seg.head)))))))), AP rfl rfl (CV _ _ rfl fun _ => EB (by rw [A4]; rfl) AU er _ (by omega)), trivial⟩ rfl (BO rfl (BD 81 _ [false, true, true] [nb2, nb4] _ (AV _ B9 rfl) rfl (fun w1 hw1 => E1 nb2 nb4 9 cp2 10 .nilIface ((numK 8 rq 8) ++ numK 1 (UInt64.ofNat rk) 1) sp2 (UInt64.ofNat er) 1 w1 (hw1.en 1 rfl) (hw1.en 2 rfl) (hw1.ne (i := 1) (j := 2) rfl rfl (by decide)) (show ((numK 8 rq 8) ++ numK 1 (UInt64.ofNat rk) 1).length = 9 from (by rw [List.length_append, (show (numK 8 rq 8).length = 8 from (AZ _ _ _)), AZ] <;> omega)) hc4 hc5 hc6 (by omega) (by unfold Szd; omega) (fun _ => shr8n (by omega)) (by omega)))) ?_
 rintro v1 L1 ⟨_, ⟨rfl, nb5, sp3, cp3, rfl, hc7, hc8, hc9⟩, rfl⟩
 refine ⟨[], ?_⟩
 show DP _ _ _ _ _ _ _ _ [_, (Ez nb2 [.nilIface, Slc nb5 0 10 cp3] 149), (Ez nb5 (cu8 (((numK 8 rq 8) ++ numK 1 (UInt64.ofNat rk) 1) ++ numK 1 (UInt64.ofNat er) 1) ++ sp3) 5)]
 refine DR ⟨[3, 7, 11], [0, 1, 2, 4, 5, 6, 8, 9, 10], [0, 1, 2, 4, 5, 6, 8, 9, 10], [], []⟩ rfl rfl (by decide +kernel) rfl trivial ?_
 refine C5 (F' := [(1, Ptr nb1 0), (2, SL none 0 0), (3, .nilIface), (4, .bool (itB ((er:Int)) ((rk:Int)))), (5, .bool (chB ((er:Int)) ((rk:Int)) th)), (6, .bool (aB ((er:Int)) ((rk:Int)) th)), (7, .bool (bB ((er:Int)) ((rk:Int)) th)), (8, Ptr nb2 0)]) (by kernel_rfl) ?_
 refine AD (AF (AF (AC (AA _ (AG rfl) rfl ?_))))
 refine AJ (AD (BT _ rfl (itB_ne hE) ?_))
 refine BH (AD (AF (AF (AC (AA (Ptr nb1 3) (AB 3 64 1 AK rfl C1 rfl rfl) rfl ?_)))))
 refine AA _ (AL rfl (AX DZ (AR 0 rfl (AI (AI (AH (AH (AH (Seg.head))))))))) rfl ?_
 refine AA (I64 nj) (DA B2 rfl) rfl (AA _ (AG rfl) rfl ?_)
 refine AJ (AD (B5 (EO (ι := Unit) (fun _ => [(1, Ptr nb1 0), (2, SL none 0 0), (3, .nilIface), (5, .bool (chB ((er:Int)) ((rk:Int)) th)), (6, .bool (aB ((er:Int)) ((rk:Int)) th)), (7, .bool (bB ((er:Int)) ((rk:Int)) th)), (8, Ptr nb2 0), (47, SL aj nj cj), (48, I64 nj), (49, I64 0)]) (fun _ => [(Ez nb1 (V0 rq rk er aj nj cj th pv ep (kd) ai ni ci sa ns sc bl tg aha nha cha ahb nhb chb) 67), (Ez nb2 [.nilIface, Slc nb5 0 10 cp3] 149), (Ez nb5 (cu8 (((numK 8 rq 8) ++ numK 1 (UInt64.ofNat rk) 1) ++ numK 1 (UInt64.ofNat er) 1) ++ sp3) 5)]) (fun _ => True) (fun _ => 1) () trivial (Sub.all rfl) rfl ?_)))
 rintro _ _
 show JC _ _ _ [_, _, _, _, _, _, _, _, _, _] [_, _, _]
 refine AF (AC (AA (.bool (decide ((0:Int) < ((nj:Int))))) (AT rfl rfl fun _ => CL _ _) rfl ?_))
 refine AJ (AD (AF (BT _ rfl (decide_eq_false (by omega)) ?_)))
 refine EF (BC (BC (CX (AD (AF (AF (AC (AA (Ptr nb1 2) (AB 2 3 1 AK rfl AW rfl rfl) rfl ?_))))))))
 refine AA _ (AL rfl (AX A0 (AR 0 rfl (AI (AI (AH (AH (Seg.head)))))))) rfl ?_
 refine AA (.bool (decide (((er:Int)) = (0:Int)))) (AT rfl rfl fun _ => BP _ _) rfl ?_
 refine AA _ (AG rfl) rfl ?_
 refine A9 3 3 68 true _ rfl rfl (decide_eq_false hE) rfl (AA _ (A5 _ rfl (decide_eq_false hE) rfl) rfl ?_)
 refine AJ (AD (BT _ rfl rfl ?_))
 refine BH (AD (AF (AF (AC (AA _ (AG rfl) rfl ?_)))))
 refine AJ (AD (BT _ rfl (chB_ne hE) ?_))
 refine BH (AD (AF (AF (AC (AA _ (AG rfl) rfl ?_)))))
 refine AJ (AD (BT _ rfl (aB_ne hE) ?_))
 refine BH (AD (AF (AF (AC (AA _ (AG rfl) rfl ?_)))))
 refine AJ (AD (BT _ rfl (bB_ne hE) ?_))
 refine BH (AD (AF (AC (AA _ (AG rfl) rfl ?_))))
 refine A2 (C6 83 _ _ (AV _ E4 rfl) (fun w1 hw1 => F8 nb2 0 nb5 10 cp3 (((numK 8 rq 8) ++ numK 1 (UInt64.ofNat rk) 1) ++ numK 1 (UInt64.ofNat er) 1) w1 (RdA.of hw1 (AR 1 rfl (AN _)) (by simp)) rfl (show (((numK 8 rq 8) ++ numK 1 (UInt64.ofNat rk) 1) ++ numK 1 (UInt64.ofNat er) 1).length = 10 from (by rw [List.length_append, (show ((numK 8 rq 8) ++ numK 1 (UInt64.ofNat rk) 1).length = 9 from (by rw [List.length_append, (show (numK 8 rq 8).length = 8 from (AZ _ _ _)), AZ] <;> omega)), AZ] <;> omega)) (by omega) (RdB.of hw1 (AR 2 rfl (AI (AN _))) (by simp)))) rfl ?_
 rintro v1 L1 ⟨_, ⟨nb6, sp4, cp4, rfl, rfl, hc10, hc11, hc12⟩, rfl⟩
 show JL _ _ _ _ ((100, .tuple #[Slc nb6 0 10 cp4, .nilIface]) :: _) [_, _, _, (Ez nb6 (cu8 (((numK 8 rq 8) ++ numK 1 (UInt64.ofNat rk) 1) ++ numK 1 (UInt64.ofNat er) 1) ++ sp4) 5)]
 refine AA _ (BI rfl rfl) rfl (AA _ (BI rfl rfl) rfl (AA _ (AE rfl) rfl (AA _ (AE rfl) rfl ?_)))
 refine AJ (AD (BK (CD [false, false, false, true] ?_)))
 show JQ _ _ _ _ [_]
 refine BJ (.tuple #[Slc nb6 0 10 cp4, .nilIface]) (res2 Tryd.results34 (BF rfl) (BF rfl)) fun w1 hw1 => ?_
 skip
 exact ⟨_, _, rfl, ⟨nb6, sp4, cp4, rfl, rfl, hc10, hc11, hc12⟩, hw1.sub (by simp) (by simp)⟩
set_option maxHeartbeats 2000000 in
theorem putRep1_c (rq : UInt64) (aj : Option Addr) (nj cj : Nat) (lj : List ItemR) (th : Bool) (pv ep : UInt64) (kd : Int) (ai : Option Addr) (ni ci : Nat) (l : List UInt64) (sa : Option Addr) (ns sc : Nat) (ls : List SealR) (bl : UInt64) (tg : List UInt8) (aha : Option Addr) (nha cha : Nat) (xha : List UInt8) (ahb : Option Addr) (nhb chb : Nat) (xhb : List UInt8) (si : Nat)  (w : World) (hlj : lj.length = nj) (hnj : nj ≤ 2000000) (hdj : nj ≤ cj) (hcj : cj ≤ maxLen) (hj : RdV w aj (lj.flatMap itemC)) (hl : l.length = ni) (hnm : ni ≤ 2000000) (hnc : ni ≤ ci) (hcm : ci ≤ maxLen) (hv : RdV w ai (cu64 l)) (hls : ls.length = ns) (hnn : ns ≤ 2000000) (hnd : ns ≤ sc) (hcn : sc ≤ maxLen) (hs : RdV w sa (ls.flatMap sealC)) (htg : tg.length = 16) (hlha : xha.length = nha * 32) (hnha : nha ≤ 9000) (hdha : nha ≤ cha) (hcha : cha ≤ maxLen) (hrha : RdB w [] aha xha) (hlhb : xhb.length = nhb * 32) (hnhb : nhb ≤ 9000) (hdhb : nhb ≤ chb) (hchb : chb ≤ maxLen) (hrhb : RdB w [] ahb xhb) (hbi : ni ≤ 300) (hbs : ns ≤ 300) (hA : nha ≤ 300) (hB : nhb ≤ 8192) (hR : repR (1:Int) (0:Int) th lj (blankB pv ep kd l ls bl tg) (decide (mayN pv ep kd l ls bl = 0)) nha nhb = true) (hsi : (itmsT lj).length = si)  : Calls Tryd.prog 34 #[.agg (V0 rq 1 0 aj nj cj th pv ep (kd) ai ni ci sa ns sc bl tg aha nha cha ahb nhb chb).toArray] w (Post w [] (fun v L => ∃ g sp cap, v = .tuple #[Slc g 0 ((32*nhb + si + 13)) cap, .nilIface] ∧ L = [(Ez g (cu8 ((((((numK 8 rq 8 ++ numK 1 (1:UInt64) 1) ++ numK 1 (0:UInt64) 1) ++ numK 1 (UInt64.ofNat (nj - 1)) 1) ++ itmsT lj) ++ numK 2 (UInt64.ofNat nhb) 2) ++ xhb) ++ sp) 5)] ∧ sp.length = cap - (32*nhb + si + 13) ∧ (32*nhb + si + 13) ≤ cap ∧ cap ≤ maxLen)) := by
 have hmx : maxLen = 9223372036854775807 := rfl
 have hf := repR_f hlj hR
 have hn0 := c2_len1 hlj (repR_2 hR (by decide +kernel))
 refine enter (P := Tryd.prog) (f := 34) (fn := Tryd.f34) w [] 103 [] [.agg (V0 rq 1 0 aj nj cj th pv ep (kd) ai ni ci sa ns sc bl tg aha nha cha ahb nhb chb).toArray] Tryd.func34 rfl rfl (by simp) (BZ (by simp) (by simp) (by simp)) ?_
 show JC _ _ _ [(0, .agg (V0 rq 1 0 aj nj cj th pv ep (kd) ai ni ci sa ns sc bl tg aha nha cha ahb nhb chb).toArray)] _
 refine AF (AC (A2 (CN (.agg (V0 rq 1 0 aj nj cj th pv ep (kd) ai ni ci sa ns sc bl tg aha nha cha ahb nhb chb).toArray) (V0 rq 1 0 aj nj cj th pv ep (kd) ai ni ci sa ns sc bl tg aha nha cha ahb nhb chb) rfl (by first | rfl | simp)) rfl ?_))
 rintro v1 L1 ⟨nb1, hnb1, rfl, rfl⟩
 show JL _ _ _ _ (_ :: _) [_]
 refine AA _ (AE rfl) rfl (AA _ (AE rfl) rfl ?_)
 refine AJ (AD (AF (AF (AC (AA _ (AL rfl (BR B8 BQ (by simp [htg]) (AR 0 rfl (AN _)))) rfl ?_)))))
 refine A7 (A3 35 _ (.bool (repR (1:Int) (0:Int) th lj (blankB pv ep (kd) l ls bl tg) (decide (mayN pv ep (kd) l ls bl = 0)) nha nhb)) (AV _ Tryd.call35 rfl) (fun w1 hw1 => FB rq (1:Int) (0:Int) aj nj cj lj th pv ep (kd) ai ni ci l sa ns sc ls bl tg aha nha cha xha ahb nhb chb xhb w1 hlj (by omega) (by omega) (by omega) (CF hw1 rfl hj) hl (by omega) (by omega) (by omega) (CF hw1 rfl hv) hls (by omega) (by omega) (by omega) (CF hw1 rfl hs) htg hlha (by omega) (by omega) (by omega) (hrha.at (M' := []) hw1 (by simp)) hlhb (by omega) (by omega) (by omega) (hrhb.at (M' := []) hw1 (by simp)) (by omega) (by omega))) rfl ?_
 show JL _ _ _ _ ((14, .bool (repR (1:Int) (0:Int) th lj (blankB pv ep (kd) l ls bl tg) (decide (mayN pv ep (kd) l ls bl = 0)) nha nhb)) :: _) [_]
 refine AA (.bool (!(repR (1:Int) (0:Int) th lj (blankB pv ep (kd) l ls bl tg) (decide (mayN pv ep (kd) l ls bl = 0)) nha nhb))) (D1 rfl) rfl ?_
 refine AJ (AD (BT _ rfl (bnotT hR) ?_))
 refine BH (AD (AF (AC (AA _ (AL rfl (BR B8 BQ (by simp [htg]) (AR 0 rfl (AN _)))) rfl ?_))))
 refine A7 (A3 95 _ (.tuple #[.bool (itB (0:Int) (1:Int)), .bool (chB (0:Int) (1:Int) th), .bool (aB (0:Int) (1:Int) th), .bool (bB (0:Int) (1:Int) th)]) (AV _ Tryd.call95 rfl) (fun w1 hw1 => parts_c rq (1:Int) (0:Int) aj nj cj lj th pv ep (kd) ai ni ci l sa ns sc ls bl tg aha nha cha xha ahb nhb chb xhb w1 htg)) rfl ?_
 show JL _ _ _ _ ((19, .tuple #[.bool (itB (0:Int) (1:Int)), .bool (chB (0:Int) (1:Int) th), .bool (aB (0:Int) (1:Int) th), .bool (bB (0:Int) (1:Int) th)]) :: _) [_]
 refine AA _ (AG rfl) rfl (AA _ (BI rfl rfl) rfl (AA _ (BI rfl rfl) rfl (AA _ (BI rfl rfl) rfl (AA _ (BI rfl rfl) rfl (AA _ (AE rfl) rfl (AA _ (AE rfl) rfl (AA _ (AE rfl) rfl (AA _ (AE rfl) rfl ?_))))))))
 refine AJ (AD (AF (AC (AA (.agg #[.nilIface, SL none 0 0]) (CY [] _ rfl (fun _ => by kernel_rfl)) rfl ?_))))
 refine A2 (CN (.agg #[.nilIface, SL none 0 0]) ([.nilIface, SL none 0 0]) rfl (by first | rfl | simp)) rfl ?_
 rintro v1 L1 ⟨nb2, hnb2, rfl, rfl⟩
 show JL _ _ _ _ (_ :: _) [_, _]
 refine AA _ (AE rfl) rfl ?_
 refine AJ (AD (AF (DB 103 4 [(0, Ptr nb2 0), (1, Ptr nb1 0), (2, U64 rq), (4, Ptr nb1 1), (5, I64 1), (6, U64 1), (8, Ptr nb1 2), (9, I64 0), (10, U64 0)] B6 rfl (by decide +kernel) ?_)))
 refine C2 ⟨[], [0, 1, 2, 4, 5, 6, 8, 9, 10], [], [0, 1, 2, 4, 5, 6, 8, 9, 10], [3]⟩ 3 _ rfl rfl (by decide +kernel) rfl ⟨CB rfl rfl rfl, AP rfl rfl (AB 0 22 1 AK rfl A1 rfl rfl), AP rfl rfl (AL rfl (AX A8 (AR 0 rfl (AI (AI (Seg.head)))))), AP rfl rfl (AB 1 3 1 AK rfl AW rfl rfl), AP rfl rfl (AL rfl (AX A0 (AR 0 rfl (AI (AI (AH (Seg.head))))))), AP rfl rfl (CV _ _ rfl fun _ => DX (by rw [A4]; rfl) AU rfl), AP rfl rfl (AB 2 3 1 AK rfl AW rfl rfl), AP rfl rfl (AL rfl (AX A0 (AR 0 rfl (AI (AI (AH (AH (Seg.head)))))))), AP rfl rfl (CV _ _ rfl fun _ => DX (by rw [A4]; rfl) AU rfl), trivial⟩ rfl (BO rfl (BD 81 _ [false, true] [nb2] _ (AV _ B9 rfl) rfl (fun w1 hw1 => numN_c nb2 8 .nilIface rq 8 w1 (hw1.en 1 rfl) (by unfold Szd; omega) (fun h => absurd h (by omega)) (by omega)))) ?_
 rintro v1 L1 ⟨_, ⟨rfl, nb3, sp1, cp1, rfl, hc1, hc2, hc3⟩, rfl⟩
 refine ⟨[], ?_⟩
 show DP _ _ _ _ _ _ _ _ [_, (Ez nb2 [.nilIface, Slc nb3 0 8 cp1] 149), (Ez nb3 (cu8 (numK 8 rq 8) ++ sp1) 5)]
 refine C2 ⟨[3], [0, 1, 2, 4, 5, 6, 8, 9, 10], [0, 1, 2], [4, 5, 6, 8, 9, 10], [7]⟩ 7 _ rfl rfl (by decide +kernel) rfl ⟨AP rfl rfl (AB 1 3 1 AK rfl AW rfl rfl), AP rfl rfl (AL rfl (AX A0 (AR 0 rfl (AI (AI (AH (Seg.head))))))), AP rfl rfl (CV _ _ rfl fun _ => DX (by rw [A4]; rfl) AU rfl), AP rfl rfl (AB 2 3 1 AK rfl AW rfl rfl), AP rfl rfl (AL rfl (AX A0 (AR 0 rfl (AI (AI (AH (AH (Seg.head)))))))), AP rfl rfl (CV _ _ rfl fun _ => DX (by rw [A4]; rfl) AU rfl), trivial⟩ rfl (BO rfl (BD 81 _ [false, true, true] [nb2, nb3] _ (AV _ B9 rfl) rfl (fun w1 hw1 => E1 nb2 nb3 8 cp1 9 .nilIface (numK 8 rq 8) sp1 (1:UInt64) 1 w1 (hw1.en 1 rfl) (hw1.en 2 rfl) (hw1.ne (i := 1) (j := 2) rfl rfl (by decide)) (show (numK 8 rq 8).length = 8 from (AZ _ _ _)) hc1 hc2 hc3 (by omega) (by unfold Szd; omega) (fun _ => by decide) (by omega)))) ?_
 rintro v1 L1 ⟨_, ⟨rfl, nb4, sp2, cp2, rfl, hc4, hc5, hc6⟩, rfl⟩
 refine ⟨[], ?_⟩
 show DP _ _ _ _ _ _ _ _ [_, (Ez nb2 [.nilIface, Slc nb4 0 9 cp2] 149), (Ez nb4 (cu8 ((numK 8 rq 8) ++ numK 1 (1:UInt64) 1) ++ sp2) 5)]
 refine C2 ⟨[3, 7], [0, 1, 2, 4, 5, 6, 8, 9, 10], [0, 1, 2, 4, 5, 6], [8, 9, 10], [11]⟩ 11 _ rfl rfl (by decide +kernel) rfl ⟨AP rfl rfl (AB 2 3 1 AK rfl AW rfl rfl), AP rfl rfl (AL rfl (AX A0 (AR 0 rfl (AI (AI (AH (AH (Seg.head)))))))), AP rfl rfl (CV _ _ rfl fun _ => DX (by rw [A4]; rfl) AU rfl), trivial⟩ rfl (BO rfl (BD 81 _ [false, true, true] [nb2, nb4] _ (AV _ B9 rfl) rfl (fun w1 hw1 => E1 nb2 nb4 9 cp2 10 .nilIface ((numK 8 rq 8) ++ numK 1 (1:UInt64) 1) sp2 (0:UInt64) 1 w1 (hw1.en 1 rfl) (hw1.en 2 rfl) (hw1.ne (i := 1) (j := 2) rfl rfl (by decide)) (show ((numK 8 rq 8) ++ numK 1 (1:UInt64) 1).length = 9 from (by rw [List.length_append, (show (numK 8 rq 8).length = 8 from (AZ _ _ _)), AZ] <;> omega)) hc4 hc5 hc6 (by omega) (by unfold Szd; omega) (fun _ => by decide) (by omega)))) ?_
 rintro v1 L1 ⟨_, ⟨rfl, nb5, sp3, cp3, rfl, hc7, hc8, hc9⟩, rfl⟩
 refine ⟨[], ?_⟩
 show DP _ _ _ _ _ _ _ _ [_, (Ez nb2 [.nilIface, Slc nb5 0 10 cp3] 149), (Ez nb5 (cu8 (((numK 8 rq 8) ++ numK 1 (1:UInt64) 1) ++ numK 1 (0:UInt64) 1) ++ sp3) 5)]
 refine DR ⟨[3, 7, 11], [0, 1, 2, 4, 5, 6, 8, 9, 10], [0, 1, 2, 4, 5, 6, 8, 9, 10], [], []⟩ rfl rfl (by decide +kernel) rfl trivial ?_
 refine C5 (F' := [(1, Ptr nb1 0), (2, SL none 0 0), (3, .nilIface), (4, .bool (itB (0:Int) (1:Int))), (5, .bool (chB (0:Int) (1:Int) th)), (6, .bool (aB (0:Int) (1:Int) th)), (7, .bool (bB (0:Int) (1:Int) th)), (8, Ptr nb2 0)]) (by kernel_rfl) ?_
 refine AD (AF (AF (AC (AA _ (AG rfl) rfl ?_))))
 refine AJ (AD (CH _ rfl (by decide +kernel) ?_))
 refine AC (AA _ (AG rfl) rfl ?_)
 refine AA (Ptr nb1 3) (AB 3 64 1 AK rfl C1 rfl rfl) rfl (AA _ (AL rfl (AX DZ (AR 0 rfl (AI (AI (AH (AH (AH (Seg.head))))))))) rfl ?_)
 refine AA (I64 nj) (DA B2 rfl) rfl ?_
 refine AA (I64 ((nj:Int) - 1)) (AT rfl rfl fun _ => E7 _ _ ((nj:Int) - 1) (by omega) (by omega)) rfl ?_
 refine AA (U64 (UInt64.ofNat (nj - 1))) (CV _ _ rfl fun _ => EB (by rw [A4]; rfl) AU (nj - 1) _ (by omega)) rfl ?_
 refine A2 (BD 81 _ [false, true, true] [nb2, nb5] _ (AV _ B9 rfl) rfl (fun w1 hw1 => E1 nb2 nb5 10 cp3 11 .nilIface (((numK 8 rq 8) ++ numK 1 (1:UInt64) 1) ++ numK 1 (0:UInt64) 1) sp3 (UInt64.ofNat (nj - 1)) 1 w1 (hw1.en 1 rfl) (hw1.en 2 rfl) (hw1.ne (i := 1) (j := 2) rfl rfl (by decide)) (show (((numK 8 rq 8) ++ numK 1 (1:UInt64) 1) ++ numK 1 (0:UInt64) 1).length = 10 from (by rw [List.length_append, (show ((numK 8 rq 8) ++ numK 1 (1:UInt64) 1).length = 9 from (by rw [List.length_append, (show (numK 8 rq 8).length = 8 from (AZ _ _ _)), AZ] <;> omega)), AZ] <;> omega)) hc7 hc8 hc9 (by omega) (by unfold Szd; omega) (fun _ => shr8n (by omega)) (by omega))) rfl ?_
 rintro v1 L1 ⟨_, ⟨rfl, nb6, sp4, cp4, rfl, hc10, hc11, hc12⟩, rfl⟩
 show JL _ _ _ _ ((45, Ptr nb2 0) :: _) [_, (Ez nb2 [.nilIface, Slc nb6 0 11 cp4] 149), (Ez nb6 (cu8 ((((numK 8 rq 8) ++ numK 1 (1:UInt64) 1) ++ numK 1 (0:UInt64) 1) ++ numK 1 (UInt64.ofNat (nj - 1)) 1) ++ sp4) 5)]
 refine AJ (AD (AF (AF (AC (AA (Ptr nb1 3) (AB 3 64 1 AK rfl C1 rfl rfl) rfl ?_)))))
 refine AA _ (AL rfl (AX DZ (AR 0 rfl (AI (AI (AH (AH (AH (Seg.head))))))))) rfl ?_
 refine AA (I64 nj) (DA B2 rfl) rfl (AA _ (AG rfl) rfl ?_)
 refine AJ (AD (B5 (EO (ι := Nat × Nat × List UInt8 × Nat × List Value × Nat) (fun ⟨i, q, oqi, gqi, spqi, cpqi⟩ => [(1, Ptr nb1 0), (2, SL none 0 0), (3, .nilIface), (5, .bool (chB (0:Int) (1:Int) th)), (6, .bool (aB (0:Int) (1:Int) th)), (7, .bool (bB (0:Int) (1:Int) th)), (8, Ptr nb2 0), (47, SL aj nj cj), (48, I64 nj), (49, I64 i)]) (fun ⟨i, q, oqi, gqi, spqi, cpqi⟩ => [(Ez nb1 (V0 rq 1 0 aj nj cj th pv ep (kd) ai ni ci sa ns sc bl tg aha nha cha ahb nhb chb) 67), (Ez nb2 [.nilIface, Slc gqi 0 q cpqi] 149), (Ez gqi (cu8 oqi ++ spqi) 5)]) (fun ⟨i, q, oqi, gqi, spqi, cpqi⟩ => i ≤ nj ∧ oqi = (((numK 8 rq 8 ++ numK 1 (1:UInt64) 1) ++ numK 1 (0:UInt64) 1) ++ numK 1 (UInt64.ofNat (nj - 1)) 1) ++ itmsT (lj.take i) ∧ oqi.length = q ∧ spqi.length = cpqi - q ∧ q ≤ cpqi ∧ cpqi ≤ maxLen ∧ q ≤ 57*i + 11) (fun ⟨i, q, oqi, gqi, spqi, cpqi⟩ => nj - i) (0, 11, (((numK 8 rq 8) ++ numK 1 (1:UInt64) 1) ++ numK 1 (0:UInt64) 1) ++ numK 1 (UInt64.ofNat (nj - 1)) 1, nb6, sp4, cp4) ⟨by omega, by rw [List.take_zero, itmsT_nil, List.append_nil], (by have h := (show ((((numK 8 rq 8) ++ numK 1 (1:UInt64) 1) ++ numK 1 (0:UInt64) 1) ++ numK 1 (UInt64.ofNat (nj - 1)) 1).length = 11 from (by rw [List.length_append, (show (((numK 8 rq 8) ++ numK 1 (1:UInt64) 1) ++ numK 1 (0:UInt64) 1).length = 10 from (by rw [List.length_append, (show ((numK 8 rq 8) ++ numK 1 (1:UInt64) 1).length = 9 from (by rw [List.length_append, (show (numK 8 rq 8).length = 8 from (AZ _ _ _)), AZ] <;> omega)), AZ] <;> omega)), AZ] <;> omega)); omega), (by have h := hc10; omega), by omega, by omega, by omega⟩ (Sub.all rfl) (by first | rfl | (simp; done)) ?_)))
 rintro ⟨i, q, oqi, gqi, spqi, cpqi⟩ ⟨hi1, hi2, hi3, hi4, hi5, hi6, hi7⟩
 show JC _ _ _ [_, _, _, _, _, _, _, _, _, _] [_, _, _]
 refine AF (AC (AA (.bool (decide (((i:Int)) < ((nj:Int))))) (AT rfl rfl fun _ => CL _ _) rfl ?_))
 refine AJ (AD (AF (CC (decide (((i:Int)) < ((nj:Int)))) rfl (fun hb1 => ?_) (fun hb1 => ?_))))
 ·
  have hp1 : ((i:Int)) < ((nj:Int)) := of_decide_eq_true hb1
  refine BH (AD (AF (B5 (AF (AC ?_)))))
  obtain ⟨x1, hx1⟩ : ∃ x, lj[i]? = some x := ⟨_, List.getElem?_eq_getElem (by rw [hlj]; omega)⟩
  obtain ⟨bz1, oz1, hz1, hm1⟩ := F6 itemC_len (by decide) hj hx1
  rw [itemC_eq] at hm1
  refine AA (Ptr bz1 (50*i + oz1)) (DI 163 50 (50*i + oz1) B2 DD rfl hz1 rfl (by omega) (by omega) (by omega)) rfl ?_
  refine AA (.agg (List.toArray (α := Value) (V3 x1.b x1.s.e x1.s.d x1.s.t))) (AL rfl (BR Tryd.isAgg163 DD (by simp [x1.s.hd, x1.s.ht]) (C9 (hm1.mem (by simp)) (AN _) (by first | omega | (simp; done) | (simp; omega))))) rfl ?_
  refine A2 (C4 _ (V9) Tryd.zeroValue163 (by kernel_rfl)) rfl ?_
  rintro v1 L1 ⟨nb7, hnb7, rfl, rfl⟩
  show JL _ _ _ _ (_ :: _) [_, _, _, _]
  refine A7 (BS 3 nb7 50 _ 163 (V3 x1.b x1.s.e x1.s.d x1.s.t) rfl rfl rfl DD (by simp [x1.s.hd, x1.s.ht]) (B0 (B0 (by simp [Value.oneCell']) CZ) CZ) (by simp [(AO 32), (AO 16)]) (BW (by simp [(AO 32), (AO 16), x1.s.hd, x1.s.ht]))) rfl ?_
  show JL _ _ _ _ _ [_, _, _, _]
  refine AJ (AD (AF (AC (AA _ (AG rfl) rfl ?_))))
  refine AA (Ptr nb7 0) (AB 0 4 1 DS rfl Tryd.sizeOf4 rfl rfl) rfl (AA _ (AL rfl (AX Tryd.isAgg4 (AR 3 rfl (AI (AI (Seg.head)))))) rfl ?_)
  refine A2 (BD 96 _ [false, true, true, false] [nb2, gqi] _ (AV _ Tryd.call96 rfl) rfl (fun w1 hw1 => flagO_c nb2 gqi q cpqi (q + 1) .nilIface oqi spqi x1.b w1 (hw1.en 1 rfl) (hw1.en 2 rfl) (hw1.ne (i := 1) (j := 2) rfl rfl (by decide)) hi3 hi4 hi5 hi6 (by omega) (by omega))) rfl ?_
  rintro v1 L1 ⟨_, ⟨rfl, nb8, sp5, cp5, rfl, hc13, hc14, hc15⟩, rfl⟩
  show JL _ _ _ _ ((56, Ptr nb2 0) :: _) [_, _, (Ez nb2 [.nilIface, Slc nb8 0 (q + 1) cp5] 149), (Ez nb8 (cu8 (oqi ++ numK 1 (bitU x1.b) 1) ++ sp5) 5)]
  refine AJ (AD (AF (AC (AA (Ptr nb7 0) (AB 0 4 1 DS rfl Tryd.sizeOf4 rfl rfl) rfl ?_))))
  refine AA _ (AL rfl (AX Tryd.isAgg4 (AR 1 rfl (AI (AI (Seg.head)))))) rfl ?_
  refine AJ (AD (CC (x1.b) rfl (fun hb2 => ?_) (fun hb2 => ?_)))
  ·
   refine AC (AA _ (AG rfl) rfl ?_)
   refine AA (Ptr nb7 1) (AB 1 161 49 DS rfl BY rfl rfl) rfl (AA _ (AL rfl (BR DN BY (by simp [x1.s.hd, x1.s.ht]) (AR 1 rfl (DL (p := [.bool x1.b]) (q := []) (vs := [U64 x1.s.e] ++ cu8 x1.s.d ++ cu8 x1.s.t) (by first | rfl | (simp only [List.append_assoc, List.nil_append, List.append_nil, List.cons_append]; done)) rfl)))) rfl ?_)
   refine A2 (C6 97 _ _ (AV _ Tryd.call97 rfl) (fun w1 hw1 => put7_c x1.s.e x1.s.d x1.s.t w1 x1.s.hd x1.s.ht)) rfl ?_
   rintro v1 L1 ⟨_, ⟨nb9, sp6, cp6, rfl, rfl, hc16, hc17, hc18⟩, rfl⟩
   show JL _ _ _ _ ((62, Slc nb9 0 56 cp6) :: _) [_, _, _, _, (Ez nb9 (cu8 (putL x1.s.e x1.s.d x1.s.t) ++ sp6) 5)]
   refine A2 (BD 82 _ [false, false, true, true, false] [nb2, nb8] _ (AV _ Tryd.call82 rfl) rfl (fun w1 hw1 => rawO_c nb2 nb8 (q + 1) cp5 (q + 57) .nilIface (oqi ++ numK 1 (bitU x1.b) 1) sp5 (some ⟨nb9, 0, none⟩) 56 cp6 (putL x1.s.e x1.s.d x1.s.t) w1 (hw1.en 2 rfl) (hw1.en 3 rfl) (hw1.ne (i := 2) (j := 3) rfl rfl (by decide)) (show (oqi ++ numK 1 (bitU x1.b) 1).length = (q + 1) from (by rw [List.length_append, hi3, AZ] <;> omega)) hc13 hc14 hc15 (by omega) (show (putL x1.s.e x1.s.d x1.s.t).length = 56 from (putL_len x1.s.hd x1.s.ht)) (by omega) (RdB.of hw1 (AR 4 rfl (AI (AN _))) (by intro _; simp only [List.mem_cons, List.not_mem_nil, or_false, not_or]; exact ⟨hw1.ne (i := 4) (j := 2) rfl rfl (by decide), hw1.ne (i := 4) (j := 3) rfl rfl (by decide)⟩)) (by omega))) rfl ?_
   rintro v1 L1 ⟨_, ⟨rfl, nb10, sp7, cp7, rfl, hc19, hc20, hc21⟩, rfl⟩
   show JL _ _ _ _ ((63, Ptr nb2 0) :: _) [_, _, _, (Ez nb2 [.nilIface, Slc nb10 0 (q + 57) cp7] 149), (Ez nb10 (cu8 ((oqi ++ numK 1 (bitU x1.b) 1) ++ (putL x1.s.e x1.s.d x1.s.t)) ++ sp7) 5)]
   refine AJ (BU (AD (AC (AA (I64 ((i:Int) + 1)) (AT rfl rfl fun _ => DK _ _ ((i:Int) + 1) (by omega) (by omega)) rfl ?_))))
   refine AA _ (AG rfl) rfl ?_
   refine AJ (DU (CD [true, false, false, true, true] ?_))
   show K _ _ [_, _, _] _
   refine EZ (i + 1, (q + 57), (oqi ++ numK 1 (bitU x1.b) 1) ++ (putL x1.s.e x1.s.d x1.s.t), nb10, sp7, cp7) ⟨by omega, by rw [hi2, List.append_assoc, List.append_assoc, ← itm_t hb2, itms_step hx1], (by have h := (show ((oqi ++ numK 1 (bitU x1.b) 1) ++ (putL x1.s.e x1.s.d x1.s.t)).length = (q + 57) from (by rw [List.length_append, (show (oqi ++ numK 1 (bitU x1.b) 1).length = (q + 1) from (by rw [List.length_append, hi3, AZ] <;> omega)), (show (putL x1.s.e x1.s.d x1.s.t).length = 56 from (putL_len x1.s.hd x1.s.ht))] <;> omega)); omega), (by have h := hc19; omega), by omega, by omega, by omega⟩ (by first | (simp; omega) | simp | (dsimp only; omega) | omega) (Sub.all rfl) rfl
  ·
   refine BH (BU (AD (AC (AA (I64 ((i:Int) + 1)) (AT rfl rfl fun _ => DK _ _ ((i:Int) + 1) (by omega) (by omega)) rfl ?_))))
   refine AA _ (AG rfl) rfl ?_
   refine AJ (DU (CD [true, false, true, true] ?_))
   show K _ _ [_, _, _] _
   refine EZ (i + 1, (q + 1), oqi ++ numK 1 (bitU x1.b) 1, nb8, sp5, cp5) ⟨by omega, by rw [hi2, List.append_assoc, ← itm_f hb2, itms_step hx1], (by have h := (show (oqi ++ numK 1 (bitU x1.b) 1).length = (q + 1) from (by rw [List.length_append, hi3, AZ] <;> omega)); omega), (by have h := hc13; omega), by omega, by omega, by omega⟩ (by first | (simp; omega) | simp | (dsimp only; omega) | omega) (Sub.all rfl) rfl
 ·
  have hp1 : ¬ (((i:Int)) < ((nj:Int))) := of_decide_eq_false hb1
  refine EF (BC (BC (CX (AD (AF (AF ?_))))))
  have ei : nj = i := by omega
  subst ei
  rw [List.take_of_length_le (by omega)] at hi2
  have eq : q = si + 11 := by rw [← hi3, hi2]; simp [AZ, hsi]; omega
  subst eq
  subst hi2
  show JC _ _ _ _ [(Ez nb1 (V0 rq 1 0 aj nj cj th pv ep (kd) ai ni ci sa ns sc bl tg aha nha cha ahb nhb chb) 67), (Ez nb2 [.nilIface, Slc gqi 0 (si + 11) cpqi] 149), (Ez gqi (cu8 ((((numK 8 rq 8 ++ numK 1 (1:UInt64) 1) ++ numK 1 (0:UInt64) 1) ++ numK 1 (UInt64.ofNat (nj - 1)) 1) ++ itmsT lj) ++ spqi) 5)]
  refine AC (AA (Ptr nb1 2) (AB 2 3 1 AK rfl AW rfl rfl) rfl ?_)
  refine AA _ (AL rfl (AX A0 (AR 0 rfl (AI (AI (AH (AH (Seg.head)))))))) rfl ?_
  refine AA (.bool (decide ((0:Int) = (0:Int)))) (AT rfl rfl fun _ => BP _ _) rfl ?_
  refine AA _ (AG rfl) rfl ?_
  refine AM 3 68 true _ (Ptr nb1 1) rfl rfl (by decide) (AB 1 3 1 AK rfl AW rfl rfl) rfl ?_
  refine AM 3 68 true _ _ rfl rfl (by decide) (AL rfl (AX A0 (AR 0 rfl (AI (AI (AH (Seg.head))))))) rfl ?_
  refine AM 3 68 true _ (.bool (decide ((1:Int) = (4:Int)))) rfl rfl (by decide) (AT rfl rfl fun _ => BP _ _) rfl ?_
  refine AA _ (BA _ rfl (by decide) rfl) rfl ?_
  refine AJ (AD (BT _ rfl (by decide) ?_))
  refine BH (AD (AF (AF (AC (AA _ (AG rfl) rfl ?_)))))
  refine AJ (AD (BT _ rfl ((by decide +kernel : ∀ t : Bool, (chB (0:Int) (1:Int) t) = false) th) ?_))
  refine BH (AD (AF (AF (AC (AA _ (AG rfl) rfl ?_)))))
  refine AJ (AD (BT _ rfl ((by decide +kernel : ∀ t : Bool, (aB (0:Int) (1:Int) t) = false) th) ?_))
  refine BH (AD (AF (AF (AC (AA _ (AG rfl) rfl ?_)))))
  refine AJ (AD (CH _ rfl ((by decide +kernel : ∀ t : Bool, (bB (0:Int) (1:Int) t) = true) th) ?_))
  refine AC (AA _ (AG rfl) rfl ?_)
  refine AA (Ptr nb1 28) (AB 28 65 1 AK rfl CI rfl rfl) rfl (AA _ (AL rfl (AX D3 (AR 0 rfl (Seg.right 27 1 (by simp [htg]) rfl (AH (Seg.head)))))) rfl ?_)
  refine A2 (BD 98 _ [false, true, true] [nb2, gqi] _ (AV _ Tryd.call98 rfl) rfl (fun w1 hw1 => hashesO_c nb2 gqi (si + 11) cpqi (32*nhb + si + 13) .nilIface ((((numK 8 rq 8 ++ numK 1 (1:UInt64) 1) ++ numK 1 (0:UInt64) 1) ++ numK 1 (UInt64.ofNat (nj - 1)) 1) ++ itmsT lj) spqi ahb nhb chb xhb w1 (hw1.en 1 rfl) (hw1.en 2 rfl) (hw1.ne (i := 1) (j := 2) rfl rfl (by decide)) hi3 hi4 hi5 hi6 (by omega) hlhb (by omega) (by omega) (by omega) (hrhb.at (M' := [nb2, gqi]) hw1 (hw1.apart [1, 2] _ rfl)) (by omega) (by omega))) rfl ?_
  rintro v1 L1 ⟨_, ⟨rfl, nb11, sp8, cp8, rfl, hc22, hc23, hc24⟩, rfl⟩
  show JL _ _ _ _ ((98, .tuple #[]) :: _) [_, (Ez nb2 [.nilIface, Slc nb11 0 (32*nhb + si + 13) cp8] 149), (Ez nb11 (cu8 ((((((numK 8 rq 8 ++ numK 1 (1:UInt64) 1) ++ numK 1 (0:UInt64) 1) ++ numK 1 (UInt64.ofNat (nj - 1)) 1) ++ itmsT lj) ++ numK 2 (UInt64.ofNat nhb) 2) ++ xhb) ++ sp8) 5)]
  refine AJ (AD (AF (AC (AA _ (AG rfl) rfl ?_))))
  refine A2 (C6 83 _ _ (AV _ E4 rfl) (fun w1 hw1 => F8 nb2 0 nb11 (32*nhb + si + 13) cp8 ((((((numK 8 rq 8 ++ numK 1 (1:UInt64) 1) ++ numK 1 (0:UInt64) 1) ++ numK 1 (UInt64.ofNat (nj - 1)) 1) ++ itmsT lj) ++ numK 2 (UInt64.ofNat nhb) 2) ++ xhb) w1 (RdA.of hw1 (AR 1 rfl (AN _)) (by simp)) rfl (show ((((((numK 8 rq 8 ++ numK 1 (1:UInt64) 1) ++ numK 1 (0:UInt64) 1) ++ numK 1 (UInt64.ofNat (nj - 1)) 1) ++ itmsT lj) ++ numK 2 (UInt64.ofNat nhb) 2) ++ xhb).length = (32*nhb + si + 13) from (by rw [List.length_append, List.length_append, AZ, hi3, hlhb] <;> omega)) (by omega) (RdB.of hw1 (AR 2 rfl (AI (AN _))) (by simp)))) rfl ?_
  rintro v1 L1 ⟨_, ⟨nb12, sp9, cp9, rfl, rfl, hc25, hc26, hc27⟩, rfl⟩
  show JL _ _ _ _ ((100, .tuple #[Slc nb12 0 (32*nhb + si + 13) cp9, .nilIface]) :: _) [_, _, _, (Ez nb12 (cu8 ((((((numK 8 rq 8 ++ numK 1 (1:UInt64) 1) ++ numK 1 (0:UInt64) 1) ++ numK 1 (UInt64.ofNat (nj - 1)) 1) ++ itmsT lj) ++ numK 2 (UInt64.ofNat nhb) 2) ++ xhb) ++ sp9) 5)]
  refine AA _ (BI rfl rfl) rfl (AA _ (BI rfl rfl) rfl (AA _ (AE rfl) rfl (AA _ (AE rfl) rfl ?_)))
  refine AJ (AD (BK (CD [false, false, false, true] ?_)))
  show JQ _ _ _ _ [_]
  refine BJ (.tuple #[Slc nb12 0 (32*nhb + si + 13) cp9, .nilIface]) (res2 Tryd.results34 (BF rfl) (BF rfl)) fun w1 hw1 => ?_
  skip
  exact ⟨_, _, rfl, ⟨nb12, sp9, cp9, rfl, rfl, hc25, hc26, hc27⟩, hw1.sub (by simp) (by simp)⟩
set_option maxHeartbeats 2000000 in
theorem putRep2_c (rq : UInt64) (aj : Option Addr) (nj cj : Nat) (lj : List ItemR) (th : Bool) (pv ep : UInt64) (kd : Int) (ai : Option Addr) (ni ci : Nat) (l : List UInt64) (sa : Option Addr) (ns sc : Nat) (ls : List SealR) (bl : UInt64) (tg : List UInt8) (aha : Option Addr) (nha cha : Nat) (xha : List UInt8) (ahb : Option Addr) (nhb chb : Nat) (xhb : List UInt8) (si : Nat)  (w : World) (hlj : lj.length = nj) (hnj : nj ≤ 2000000) (hdj : nj ≤ cj) (hcj : cj ≤ maxLen) (hj : RdV w aj (lj.flatMap itemC)) (hl : l.length = ni) (hnm : ni ≤ 2000000) (hnc : ni ≤ ci) (hcm : ci ≤ maxLen) (hv : RdV w ai (cu64 l)) (hls : ls.length = ns) (hnn : ns ≤ 2000000) (hnd : ns ≤ sc) (hcn : sc ≤ maxLen) (hs : RdV w sa (ls.flatMap sealC)) (htg : tg.length = 16) (hlha : xha.length = nha * 32) (hnha : nha ≤ 9000) (hdha : nha ≤ cha) (hcha : cha ≤ maxLen) (hrha : RdB w [] aha xha) (hlhb : xhb.length = nhb * 32) (hnhb : nhb ≤ 9000) (hdhb : nhb ≤ chb) (hchb : chb ≤ maxLen) (hrhb : RdB w [] ahb xhb) (hbi : ni ≤ 300) (hbs : ns ≤ 300) (hA : nha ≤ 300) (hB : nhb ≤ 8192) (hR : repR (2:Int) (0:Int) th lj (blankB pv ep kd l ls bl tg) (decide (mayN pv ep kd l ls bl = 0)) nha nhb = true) (hsi : (itmsT lj).length = si)  : Calls Tryd.prog 34 #[.agg (V0 rq 2 0 aj nj cj th pv ep (kd) ai ni ci sa ns sc bl tg aha nha cha ahb nhb chb).toArray] w (Post w [] (fun v L => ∃ g sp cap, v = .tuple #[Slc g 0 ((32*nha + 32*nhb + si + 15)) cap, .nilIface] ∧ L = [(Ez g (cu8 ((((((((numK 8 rq 8 ++ numK 1 (2:UInt64) 1) ++ numK 1 (0:UInt64) 1) ++ numK 1 (UInt64.ofNat (nj - 1)) 1) ++ itmsT lj) ++ numK 2 (UInt64.ofNat nha) 2) ++ xha) ++ numK 2 (UInt64.ofNat nhb) 2) ++ xhb) ++ sp) 5)] ∧ sp.length = cap - (32*nha + 32*nhb + si + 15) ∧ (32*nha + 32*nhb + si + 15) ≤ cap ∧ cap ≤ maxLen)) := by
 have hmx : maxLen = 9223372036854775807 := rfl
 have hf := repR_f hlj hR
 have hn0 := c2_len1 hlj (repR_2 hR (by decide +kernel))
 refine enter (P := Tryd.prog) (f := 34) (fn := Tryd.f34) w [] 103 [] [.agg (V0 rq 2 0 aj nj cj th pv ep (kd) ai ni ci sa ns sc bl tg aha nha cha ahb nhb chb).toArray] Tryd.func34 rfl rfl (by simp) (BZ (by simp) (by simp) (by simp)) ?_
 show JC _ _ _ [(0, .agg (V0 rq 2 0 aj nj cj th pv ep (kd) ai ni ci sa ns sc bl tg aha nha cha ahb nhb chb).toArray)] _
 refine AF (AC (A2 (CN (.agg (V0 rq 2 0 aj nj cj th pv ep (kd) ai ni ci sa ns sc bl tg aha nha cha ahb nhb chb).toArray) (V0 rq 2 0 aj nj cj th pv ep (kd) ai ni ci sa ns sc bl tg aha nha cha ahb nhb chb) rfl (by first | rfl | simp)) rfl ?_))
 rintro v1 L1 ⟨nb1, hnb1, rfl, rfl⟩
 show JL _ _ _ _ (_ :: _) [_]
 refine AA _ (AE rfl) rfl (AA _ (AE rfl) rfl ?_)
 refine AJ (AD (AF (AF (AC (AA _ (AL rfl (BR B8 BQ (by simp [htg]) (AR 0 rfl (AN _)))) rfl ?_)))))
 refine A7 (A3 35 _ (.bool (repR (2:Int) (0:Int) th lj (blankB pv ep (kd) l ls bl tg) (decide (mayN pv ep (kd) l ls bl = 0)) nha nhb)) (AV _ Tryd.call35 rfl) (fun w1 hw1 => FB rq (2:Int) (0:Int) aj nj cj lj th pv ep (kd) ai ni ci l sa ns sc ls bl tg aha nha cha xha ahb nhb chb xhb w1 hlj (by omega) (by omega) (by omega) (CF hw1 rfl hj) hl (by omega) (by omega) (by omega) (CF hw1 rfl hv) hls (by omega) (by omega) (by omega) (CF hw1 rfl hs) htg hlha (by omega) (by omega) (by omega) (hrha.at (M' := []) hw1 (by simp)) hlhb (by omega) (by omega) (by omega) (hrhb.at (M' := []) hw1 (by simp)) (by omega) (by omega))) rfl ?_
 show JL _ _ _ _ ((14, .bool (repR (2:Int) (0:Int) th lj (blankB pv ep (kd) l ls bl tg) (decide (mayN pv ep (kd) l ls bl = 0)) nha nhb)) :: _) [_]
 refine AA (.bool (!(repR (2:Int) (0:Int) th lj (blankB pv ep (kd) l ls bl tg) (decide (mayN pv ep (kd) l ls bl = 0)) nha nhb))) (D1 rfl) rfl ?_
 refine AJ (AD (BT _ rfl (bnotT hR) ?_))
 refine BH (AD (AF (AC (AA _ (AL rfl (BR B8 BQ (by simp [htg]) (AR 0 rfl (AN _)))) rfl ?_))))
 refine A7 (A3 95 _ (.tuple #[.bool (itB (0:Int) (2:Int)), .bool (chB (0:Int) (2:Int) th), .bool (aB (0:Int) (2:Int) th), .bool (bB (0:Int) (2:Int) th)]) (AV _ Tryd.call95 rfl) (fun w1 hw1 => parts_c rq (2:Int) (0:Int) aj nj cj lj th pv ep (kd) ai ni ci l sa ns sc ls bl tg aha nha cha xha ahb nhb chb xhb w1 htg)) rfl ?_
 show JL _ _ _ _ ((19, .tuple #[.bool (itB (0:Int) (2:Int)), .bool (chB (0:Int) (2:Int) th), .bool (aB (0:Int) (2:Int) th), .bool (bB (0:Int) (2:Int) th)]) :: _) [_]
 refine AA _ (AG rfl) rfl (AA _ (BI rfl rfl) rfl (AA _ (BI rfl rfl) rfl (AA _ (BI rfl rfl) rfl (AA _ (BI rfl rfl) rfl (AA _ (AE rfl) rfl (AA _ (AE rfl) rfl (AA _ (AE rfl) rfl (AA _ (AE rfl) rfl ?_))))))))
 refine AJ (AD (AF (AC (AA (.agg #[.nilIface, SL none 0 0]) (CY [] _ rfl (fun _ => by kernel_rfl)) rfl ?_))))
 refine A2 (CN (.agg #[.nilIface, SL none 0 0]) ([.nilIface, SL none 0 0]) rfl (by first | rfl | simp)) rfl ?_
 rintro v1 L1 ⟨nb2, hnb2, rfl, rfl⟩
 show JL _ _ _ _ (_ :: _) [_, _]
 refine AA _ (AE rfl) rfl ?_
 refine AJ (AD (AF (DB 103 4 [(0, Ptr nb2 0), (1, Ptr nb1 0), (2, U64 rq), (4, Ptr nb1 1), (5, I64 2), (6, U64 2), (8, Ptr nb1 2), (9, I64 0), (10, U64 0)] B6 rfl (by decide +kernel) ?_)))
 refine C2 ⟨[], [0, 1, 2, 4, 5, 6, 8, 9, 10], [], [0, 1, 2, 4, 5, 6, 8, 9, 10], [3]⟩ 3 _ rfl rfl (by decide +kernel) rfl ⟨CB rfl rfl rfl, AP rfl rfl (AB 0 22 1 AK rfl A1 rfl rfl), AP rfl rfl (AL rfl (AX A8 (AR 0 rfl (AI (AI (Seg.head)))))), AP rfl rfl (AB 1 3 1 AK rfl AW rfl rfl), AP rfl rfl (AL rfl (AX A0 (AR 0 rfl (AI (AI (AH (Seg.head))))))), AP rfl rfl (CV _ _ rfl fun _ => DX (by rw [A4]; rfl) AU rfl), AP rfl rfl (AB 2 3 1 AK rfl AW rfl rfl), AP rfl rfl (AL rfl (AX A0 (AR 0 rfl (AI (AI (AH (AH (Seg.head)))))))), AP rfl rfl (CV _ _ rfl fun _ => DX (by rw [A4]; rfl) AU rfl), trivial⟩ rfl (BO rfl (BD 81 _ [false, true] [nb2] _ (AV _ B9 rfl) rfl (fun w1 hw1 => numN_c nb2 8 .nilIface rq 8 w1 (hw1.en 1 rfl) (by unfold Szd; omega) (fun h => absurd h (by omega)) (by omega)))) ?_
 rintro v1 L1 ⟨_, ⟨rfl, nb3, sp1, cp1, rfl, hc1, hc2, hc3⟩, rfl⟩
 refine ⟨[], ?_⟩
 show DP _ _ _ _ _ _ _ _ [_, (Ez nb2 [.nilIface, Slc nb3 0 8 cp1] 149), (Ez nb3 (cu8 (numK 8 rq 8) ++ sp1) 5)]
 refine C2 ⟨[3], [0, 1, 2, 4, 5, 6, 8, 9, 10], [0, 1, 2], [4, 5, 6, 8, 9, 10], [7]⟩ 7 _ rfl rfl (by decide +kernel) rfl ⟨AP rfl rfl (AB 1 3 1 AK rfl AW rfl rfl), AP rfl rfl (AL rfl (AX A0 (AR 0 rfl (AI (AI (AH (Seg.head))))))), AP rfl rfl (CV _ _ rfl fun _ => DX (by rw [A4]; rfl) AU rfl), AP rfl rfl (AB 2 3 1 AK rfl AW rfl rfl), AP rfl rfl (AL rfl (AX A0 (AR 0 rfl (AI (AI (AH (AH (Seg.head)))))))), AP rfl rfl (CV _ _ rfl fun _ => DX (by rw [A4]; rfl) AU rfl), trivial⟩ rfl (BO rfl (BD 81 _ [false, true, true] [nb2, nb3] _ (AV _ B9 rfl) rfl (fun w1 hw1 => E1 nb2 nb3 8 cp1 9 .nilIface (numK 8 rq 8) sp1 (2:UInt64) 1 w1 (hw1.en 1 rfl) (hw1.en 2 rfl) (hw1.ne (i := 1) (j := 2) rfl rfl (by decide)) (show (numK 8 rq 8).length = 8 from (AZ _ _ _)) hc1 hc2 hc3 (by omega) (by unfold Szd; omega) (fun _ => by decide) (by omega)))) ?_
 rintro v1 L1 ⟨_, ⟨rfl, nb4, sp2, cp2, rfl, hc4, hc5, hc6⟩, rfl⟩
 refine ⟨[], ?_⟩
 show DP _ _ _ _ _ _ _ _ [_, (Ez nb2 [.nilIface, Slc nb4 0 9 cp2] 149), (Ez nb4 (cu8 ((numK 8 rq 8) ++ numK 1 (2:UInt64) 1) ++ sp2) 5)]
 refine C2 ⟨[3, 7], [0, 1, 2, 4, 5, 6, 8, 9, 10], [0, 1, 2, 4, 5, 6], [8, 9, 10], [11]⟩ 11 _ rfl rfl (by decide +kernel) rfl ⟨AP rfl rfl (AB 2 3 1 AK rfl AW rfl rfl), AP rfl rfl (AL rfl (AX A0 (AR 0 rfl (AI (AI (AH (AH (Seg.head)))))))), AP rfl rfl (CV _ _ rfl fun _ => DX (by rw [A4]; rfl) AU rfl), trivial⟩ rfl (BO rfl (BD 81 _ [false, true, true] [nb2, nb4] _ (AV _ B9 rfl) rfl (fun w1 hw1 => E1 nb2 nb4 9 cp2 10 .nilIface ((numK 8 rq 8) ++ numK 1 (2:UInt64) 1) sp2 (0:UInt64) 1 w1 (hw1.en 1 rfl) (hw1.en 2 rfl) (hw1.ne (i := 1) (j := 2) rfl rfl (by decide)) (show ((numK 8 rq 8) ++ numK 1 (2:UInt64) 1).length = 9 from (by rw [List.length_append, (show (numK 8 rq 8).length = 8 from (AZ _ _ _)), AZ] <;> omega)) hc4 hc5 hc6 (by omega) (by unfold Szd; omega) (fun _ => by decide) (by omega)))) ?_
 rintro v1 L1 ⟨_, ⟨rfl, nb5, sp3, cp3, rfl, hc7, hc8, hc9⟩, rfl⟩
 refine ⟨[], ?_⟩
 show DP _ _ _ _ _ _ _ _ [_, (Ez nb2 [.nilIface, Slc nb5 0 10 cp3] 149), (Ez nb5 (cu8 (((numK 8 rq 8) ++ numK 1 (2:UInt64) 1) ++ numK 1 (0:UInt64) 1) ++ sp3) 5)]
 refine DR ⟨[3, 7, 11], [0, 1, 2, 4, 5, 6, 8, 9, 10], [0, 1, 2, 4, 5, 6, 8, 9, 10], [], []⟩ rfl rfl (by decide +kernel) rfl trivial ?_
 refine C5 (F' := [(1, Ptr nb1 0), (2, SL none 0 0), (3, .nilIface), (4, .bool (itB (0:Int) (2:Int))), (5, .bool (chB (0:Int) (2:Int) th)), (6, .bool (aB (0:Int) (2:Int) th)), (7, .bool (bB (0:Int) (2:Int) th)), (8, Ptr nb2 0)]) (by kernel_rfl) ?_
 refine AD (AF (AF (AC (AA _ (AG rfl) rfl ?_))))
 refine AJ (AD (CH _ rfl (by decide +kernel) ?_))
 refine AC (AA _ (AG rfl) rfl ?_)
 refine AA (Ptr nb1 3) (AB 3 64 1 AK rfl C1 rfl rfl) rfl (AA _ (AL rfl (AX DZ (AR 0 rfl (AI (AI (AH (AH (AH (Seg.head))))))))) rfl ?_)
 refine AA (I64 nj) (DA B2 rfl) rfl ?_
 refine AA (I64 ((nj:Int) - 1)) (AT rfl rfl fun _ => E7 _ _ ((nj:Int) - 1) (by omega) (by omega)) rfl ?_
 refine AA (U64 (UInt64.ofNat (nj - 1))) (CV _ _ rfl fun _ => EB (by rw [A4]; rfl) AU (nj - 1) _ (by omega)) rfl ?_
 refine A2 (BD 81 _ [false, true, true] [nb2, nb5] _ (AV _ B9 rfl) rfl (fun w1 hw1 => E1 nb2 nb5 10 cp3 11 .nilIface (((numK 8 rq 8) ++ numK 1 (2:UInt64) 1) ++ numK 1 (0:UInt64) 1) sp3 (UInt64.ofNat (nj - 1)) 1 w1 (hw1.en 1 rfl) (hw1.en 2 rfl) (hw1.ne (i := 1) (j := 2) rfl rfl (by decide)) (show (((numK 8 rq 8) ++ numK 1 (2:UInt64) 1) ++ numK 1 (0:UInt64) 1).length = 10 from (by rw [List.length_append, (show ((numK 8 rq 8) ++ numK 1 (2:UInt64) 1).length = 9 from (by rw [List.length_append, (show (numK 8 rq 8).length = 8 from (AZ _ _ _)), AZ] <;> omega)), AZ] <;> omega)) hc7 hc8 hc9 (by omega) (by unfold Szd; omega) (fun _ => shr8n (by omega)) (by omega))) rfl ?_
 rintro v1 L1 ⟨_, ⟨rfl, nb6, sp4, cp4, rfl, hc10, hc11, hc12⟩, rfl⟩
 show JL _ _ _ _ ((45, Ptr nb2 0) :: _) [_, (Ez nb2 [.nilIface, Slc nb6 0 11 cp4] 149), (Ez nb6 (cu8 ((((numK 8 rq 8) ++ numK 1 (2:UInt64) 1) ++ numK 1 (0:UInt64) 1) ++ numK 1 (UInt64.ofNat (nj - 1)) 1) ++ sp4) 5)]
 refine AJ (AD (AF (AF (AC (AA (Ptr nb1 3) (AB 3 64 1 AK rfl C1 rfl rfl) rfl ?_)))))
 refine AA _ (AL rfl (AX DZ (AR 0 rfl (AI (AI (AH (AH (AH (Seg.head))))))))) rfl ?_
 refine AA (I64 nj) (DA B2 rfl) rfl (AA _ (AG rfl) rfl ?_)
 refine AJ (AD (B5 (EO (ι := Nat × Nat × List UInt8 × Nat × List Value × Nat) (fun ⟨i, q, oqi, gqi, spqi, cpqi⟩ => [(1, Ptr nb1 0), (2, SL none 0 0), (3, .nilIface), (5, .bool (chB (0:Int) (2:Int) th)), (6, .bool (aB (0:Int) (2:Int) th)), (7, .bool (bB (0:Int) (2:Int) th)), (8, Ptr nb2 0), (47, SL aj nj cj), (48, I64 nj), (49, I64 i)]) (fun ⟨i, q, oqi, gqi, spqi, cpqi⟩ => [(Ez nb1 (V0 rq 2 0 aj nj cj th pv ep (kd) ai ni ci sa ns sc bl tg aha nha cha ahb nhb chb) 67), (Ez nb2 [.nilIface, Slc gqi 0 q cpqi] 149), (Ez gqi (cu8 oqi ++ spqi) 5)]) (fun ⟨i, q, oqi, gqi, spqi, cpqi⟩ => i ≤ nj ∧ oqi = (((numK 8 rq 8 ++ numK 1 (2:UInt64) 1) ++ numK 1 (0:UInt64) 1) ++ numK 1 (UInt64.ofNat (nj - 1)) 1) ++ itmsT (lj.take i) ∧ oqi.length = q ∧ spqi.length = cpqi - q ∧ q ≤ cpqi ∧ cpqi ≤ maxLen ∧ q ≤ 57*i + 11) (fun ⟨i, q, oqi, gqi, spqi, cpqi⟩ => nj - i) (0, 11, (((numK 8 rq 8) ++ numK 1 (2:UInt64) 1) ++ numK 1 (0:UInt64) 1) ++ numK 1 (UInt64.ofNat (nj - 1)) 1, nb6, sp4, cp4) ⟨by omega, by rw [List.take_zero, itmsT_nil, List.append_nil], (by have h := (show ((((numK 8 rq 8) ++ numK 1 (2:UInt64) 1) ++ numK 1 (0:UInt64) 1) ++ numK 1 (UInt64.ofNat (nj - 1)) 1).length = 11 from (by rw [List.length_append, (show (((numK 8 rq 8) ++ numK 1 (2:UInt64) 1) ++ numK 1 (0:UInt64) 1).length = 10 from (by rw [List.length_append, (show ((numK 8 rq 8) ++ numK 1 (2:UInt64) 1).length = 9 from (by rw [List.length_append, (show (numK 8 rq 8).length = 8 from (AZ _ _ _)), AZ] <;> omega)), AZ] <;> omega)), AZ] <;> omega)); omega), (by have h := hc10; omega), by omega, by omega, by omega⟩ (Sub.all rfl) (by first | rfl | (simp; done)) ?_)))
 rintro ⟨i, q, oqi, gqi, spqi, cpqi⟩ ⟨hi1, hi2, hi3, hi4, hi5, hi6, hi7⟩
 show JC _ _ _ [_, _, _, _, _, _, _, _, _, _] [_, _, _]
 refine AF (AC (AA (.bool (decide (((i:Int)) < ((nj:Int))))) (AT rfl rfl fun _ => CL _ _) rfl ?_))
 refine AJ (AD (AF (CC (decide (((i:Int)) < ((nj:Int)))) rfl (fun hb1 => ?_) (fun hb1 => ?_))))
 ·
  have hp1 : ((i:Int)) < ((nj:Int)) := of_decide_eq_true hb1
  refine BH (AD (AF (B5 (AF (AC ?_)))))
  obtain ⟨x1, hx1⟩ : ∃ x, lj[i]? = some x := ⟨_, List.getElem?_eq_getElem (by rw [hlj]; omega)⟩
  obtain ⟨bz1, oz1, hz1, hm1⟩ := F6 itemC_len (by decide) hj hx1
  rw [itemC_eq] at hm1
  refine AA (Ptr bz1 (50*i + oz1)) (DI 163 50 (50*i + oz1) B2 DD rfl hz1 rfl (by omega) (by omega) (by omega)) rfl ?_
  refine AA (.agg (List.toArray (α := Value) (V3 x1.b x1.s.e x1.s.d x1.s.t))) (AL rfl (BR Tryd.isAgg163 DD (by simp [x1.s.hd, x1.s.ht]) (C9 (hm1.mem (by simp)) (AN _) (by first | omega | (simp; done) | (simp; omega))))) rfl ?_
  refine A2 (C4 _ (V9) Tryd.zeroValue163 (by kernel_rfl)) rfl ?_
  rintro v1 L1 ⟨nb7, hnb7, rfl, rfl⟩
  show JL _ _ _ _ (_ :: _) [_, _, _, _]
  refine A7 (BS 3 nb7 50 _ 163 (V3 x1.b x1.s.e x1.s.d x1.s.t) rfl rfl rfl DD (by simp [x1.s.hd, x1.s.ht]) (B0 (B0 (by simp [Value.oneCell']) CZ) CZ) (by simp [(AO 32), (AO 16)]) (BW (by simp [(AO 32), (AO 16), x1.s.hd, x1.s.ht]))) rfl ?_
  show JL _ _ _ _ _ [_, _, _, _]
  refine AJ (AD (AF (AC (AA _ (AG rfl) rfl ?_))))
  refine AA (Ptr nb7 0) (AB 0 4 1 DS rfl Tryd.sizeOf4 rfl rfl) rfl (AA _ (AL rfl (AX Tryd.isAgg4 (AR 3 rfl (AI (AI (Seg.head)))))) rfl ?_)
  refine A2 (BD 96 _ [false, true, true, false] [nb2, gqi] _ (AV _ Tryd.call96 rfl) rfl (fun w1 hw1 => flagO_c nb2 gqi q cpqi (q + 1) .nilIface oqi spqi x1.b w1 (hw1.en 1 rfl) (hw1.en 2 rfl) (hw1.ne (i := 1) (j := 2) rfl rfl (by decide)) hi3 hi4 hi5 hi6 (by omega) (by omega))) rfl ?_
  rintro v1 L1 ⟨_, ⟨rfl, nb8, sp5, cp5, rfl, hc13, hc14, hc15⟩, rfl⟩
  show JL _ _ _ _ ((56, Ptr nb2 0) :: _) [_, _, (Ez nb2 [.nilIface, Slc nb8 0 (q + 1) cp5] 149), (Ez nb8 (cu8 (oqi ++ numK 1 (bitU x1.b) 1) ++ sp5) 5)]
  refine AJ (AD (AF (AC (AA (Ptr nb7 0) (AB 0 4 1 DS rfl Tryd.sizeOf4 rfl rfl) rfl ?_))))
  refine AA _ (AL rfl (AX Tryd.isAgg4 (AR 1 rfl (AI (AI (Seg.head)))))) rfl ?_
  refine AJ (AD (CC (x1.b) rfl (fun hb2 => ?_) (fun hb2 => ?_)))
  ·
   refine AC (AA _ (AG rfl) rfl ?_)
   refine AA (Ptr nb7 1) (AB 1 161 49 DS rfl BY rfl rfl) rfl (AA _ (AL rfl (BR DN BY (by simp [x1.s.hd, x1.s.ht]) (AR 1 rfl (DL (p := [.bool x1.b]) (q := []) (vs := [U64 x1.s.e] ++ cu8 x1.s.d ++ cu8 x1.s.t) (by first | rfl | (simp only [List.append_assoc, List.nil_append, List.append_nil, List.cons_append]; done)) rfl)))) rfl ?_)
   refine A2 (C6 97 _ _ (AV _ Tryd.call97 rfl) (fun w1 hw1 => put7_c x1.s.e x1.s.d x1.s.t w1 x1.s.hd x1.s.ht)) rfl ?_
   rintro v1 L1 ⟨_, ⟨nb9, sp6, cp6, rfl, rfl, hc16, hc17, hc18⟩, rfl⟩
   show JL _ _ _ _ ((62, Slc nb9 0 56 cp6) :: _) [_, _, _, _, (Ez nb9 (cu8 (putL x1.s.e x1.s.d x1.s.t) ++ sp6) 5)]
   refine A2 (BD 82 _ [false, false, true, true, false] [nb2, nb8] _ (AV _ Tryd.call82 rfl) rfl (fun w1 hw1 => rawO_c nb2 nb8 (q + 1) cp5 (q + 57) .nilIface (oqi ++ numK 1 (bitU x1.b) 1) sp5 (some ⟨nb9, 0, none⟩) 56 cp6 (putL x1.s.e x1.s.d x1.s.t) w1 (hw1.en 2 rfl) (hw1.en 3 rfl) (hw1.ne (i := 2) (j := 3) rfl rfl (by decide)) (show (oqi ++ numK 1 (bitU x1.b) 1).length = (q + 1) from (by rw [List.length_append, hi3, AZ] <;> omega)) hc13 hc14 hc15 (by omega) (show (putL x1.s.e x1.s.d x1.s.t).length = 56 from (putL_len x1.s.hd x1.s.ht)) (by omega) (RdB.of hw1 (AR 4 rfl (AI (AN _))) (by intro _; simp only [List.mem_cons, List.not_mem_nil, or_false, not_or]; exact ⟨hw1.ne (i := 4) (j := 2) rfl rfl (by decide), hw1.ne (i := 4) (j := 3) rfl rfl (by decide)⟩)) (by omega))) rfl ?_
   rintro v1 L1 ⟨_, ⟨rfl, nb10, sp7, cp7, rfl, hc19, hc20, hc21⟩, rfl⟩
   show JL _ _ _ _ ((63, Ptr nb2 0) :: _) [_, _, _, (Ez nb2 [.nilIface, Slc nb10 0 (q + 57) cp7] 149), (Ez nb10 (cu8 ((oqi ++ numK 1 (bitU x1.b) 1) ++ (putL x1.s.e x1.s.d x1.s.t)) ++ sp7) 5)]
   refine AJ (BU (AD (AC (AA (I64 ((i:Int) + 1)) (AT rfl rfl fun _ => DK _ _ ((i:Int) + 1) (by omega) (by omega)) rfl ?_))))
   refine AA _ (AG rfl) rfl ?_
   refine AJ (DU (CD [true, false, false, true, true] ?_))
   show K _ _ [_, _, _] _
   refine EZ (i + 1, (q + 57), (oqi ++ numK 1 (bitU x1.b) 1) ++ (putL x1.s.e x1.s.d x1.s.t), nb10, sp7, cp7) ⟨by omega, by rw [hi2, List.append_assoc, List.append_assoc, ← itm_t hb2, itms_step hx1], (by have h := (show ((oqi ++ numK 1 (bitU x1.b) 1) ++ (putL x1.s.e x1.s.d x1.s.t)).length = (q + 57) from (by rw [List.length_append, (show (oqi ++ numK 1 (bitU x1.b) 1).length = (q + 1) from (by rw [List.length_append, hi3, AZ] <;> omega)), (show (putL x1.s.e x1.s.d x1.s.t).length = 56 from (putL_len x1.s.hd x1.s.ht))] <;> omega)); omega), (by have h := hc19; omega), by omega, by omega, by omega⟩ (by first | (simp; omega) | simp | (dsimp only; omega) | omega) (Sub.all rfl) rfl
  ·
   refine BH (BU (AD (AC (AA (I64 ((i:Int) + 1)) (AT rfl rfl fun _ => DK _ _ ((i:Int) + 1) (by omega) (by omega)) rfl ?_))))
   refine AA _ (AG rfl) rfl ?_
   refine AJ (DU (CD [true, false, true, true] ?_))
   show K _ _ [_, _, _] _
   refine EZ (i + 1, (q + 1), oqi ++ numK 1 (bitU x1.b) 1, nb8, sp5, cp5) ⟨by omega, by rw [hi2, List.append_assoc, ← itm_f hb2, itms_step hx1], (by have h := (show (oqi ++ numK 1 (bitU x1.b) 1).length = (q + 1) from (by rw [List.length_append, hi3, AZ] <;> omega)); omega), (by have h := hc13; omega), by omega, by omega, by omega⟩ (by first | (simp; omega) | simp | (dsimp only; omega) | omega) (Sub.all rfl) rfl
 ·
  have hp1 : ¬ (((i:Int)) < ((nj:Int))) := of_decide_eq_false hb1
  refine EF (BC (BC (CX (AD (AF (AF ?_))))))
  have ei : nj = i := by omega
  subst ei
  rw [List.take_of_length_le (by omega)] at hi2
  have eq : q = si + 11 := by rw [← hi3, hi2]; simp [AZ, hsi]; omega
  subst eq
  subst hi2
  show JC _ _ _ _ [(Ez nb1 (V0 rq 2 0 aj nj cj th pv ep (kd) ai ni ci sa ns sc bl tg aha nha cha ahb nhb chb) 67), (Ez nb2 [.nilIface, Slc gqi 0 (si + 11) cpqi] 149), (Ez gqi (cu8 ((((numK 8 rq 8 ++ numK 1 (2:UInt64) 1) ++ numK 1 (0:UInt64) 1) ++ numK 1 (UInt64.ofNat (nj - 1)) 1) ++ itmsT lj) ++ spqi) 5)]
  refine AC (AA (Ptr nb1 2) (AB 2 3 1 AK rfl AW rfl rfl) rfl ?_)
  refine AA _ (AL rfl (AX A0 (AR 0 rfl (AI (AI (AH (AH (Seg.head)))))))) rfl ?_
  refine AA (.bool (decide ((0:Int) = (0:Int)))) (AT rfl rfl fun _ => BP _ _) rfl ?_
  refine AA _ (AG rfl) rfl ?_
  refine AM 3 68 true _ (Ptr nb1 1) rfl rfl (by decide) (AB 1 3 1 AK rfl AW rfl rfl) rfl ?_
  refine AM 3 68 true _ _ rfl rfl (by decide) (AL rfl (AX A0 (AR 0 rfl (AI (AI (AH (Seg.head))))))) rfl ?_
  refine AM 3 68 true _ (.bool (decide ((2:Int) = (4:Int)))) rfl rfl (by decide) (AT rfl rfl fun _ => BP _ _) rfl ?_
  refine AA _ (BA _ rfl (by decide) rfl) rfl ?_
  refine AJ (AD (BT _ rfl (by decide) ?_))
  refine BH (AD (AF (AF (AC (AA _ (AG rfl) rfl ?_)))))
  refine AJ (AD (BT _ rfl ((by decide +kernel : ∀ t : Bool, (chB (0:Int) (2:Int) t) = false) th) ?_))
  refine BH (AD (AF (AF (AC (AA _ (AG rfl) rfl ?_)))))
  refine AJ (AD (CH _ rfl ((by decide +kernel : ∀ t : Bool, (aB (0:Int) (2:Int) t) = true) th) ?_))
  refine AC (AA _ (AG rfl) rfl ?_)
  refine AA (Ptr nb1 27) (AB 27 65 1 AK rfl CI rfl rfl) rfl (AA _ (AL rfl (AX D3 (AR 0 rfl (Seg.right 27 0 (by simp [htg]) rfl (Seg.head))))) rfl ?_)
  refine A2 (BD 98 _ [false, true, true] [nb2, gqi] _ (AV _ Tryd.call98 rfl) rfl (fun w1 hw1 => hashesO_c nb2 gqi (si + 11) cpqi (32*nha + si + 13) .nilIface ((((numK 8 rq 8 ++ numK 1 (2:UInt64) 1) ++ numK 1 (0:UInt64) 1) ++ numK 1 (UInt64.ofNat (nj - 1)) 1) ++ itmsT lj) spqi aha nha cha xha w1 (hw1.en 1 rfl) (hw1.en 2 rfl) (hw1.ne (i := 1) (j := 2) rfl rfl (by decide)) hi3 hi4 hi5 hi6 (by omega) hlha (by omega) (by omega) (by omega) (hrha.at (M' := [nb2, gqi]) hw1 (hw1.apart [1, 2] _ rfl)) (by omega) (by omega))) rfl ?_
  rintro v1 L1 ⟨_, ⟨rfl, nb11, sp8, cp8, rfl, hc22, hc23, hc24⟩, rfl⟩
  show JL _ _ _ _ ((93, .tuple #[]) :: _) [_, (Ez nb2 [.nilIface, Slc nb11 0 (32*nha + si + 13) cp8] 149), (Ez nb11 (cu8 ((((((numK 8 rq 8 ++ numK 1 (2:UInt64) 1) ++ numK 1 (0:UInt64) 1) ++ numK 1 (UInt64.ofNat (nj - 1)) 1) ++ itmsT lj) ++ numK 2 (UInt64.ofNat nha) 2) ++ xha) ++ sp8) 5)]
  refine AJ (AD (AF (AF (AC (AA _ (AG rfl) rfl ?_)))))
  refine AJ (AD (CH _ rfl ((by decide +kernel : ∀ t : Bool, (bB (0:Int) (2:Int) t) = true) th) ?_))
  refine AC (AA _ (AG rfl) rfl ?_)
  refine AA (Ptr nb1 28) (AB 28 65 1 AK rfl CI rfl rfl) rfl (AA _ (AL rfl (AX D3 (AR 0 rfl (Seg.right 27 1 (by simp [htg]) rfl (AH (Seg.head)))))) rfl ?_)
  refine A2 (BD 98 _ [false, true, true] [nb2, nb11] _ (AV _ Tryd.call98 rfl) rfl (fun w1 hw1 => hashesO_c nb2 nb11 (32*nha + si + 13) cp8 (32*nha + 32*nhb + si + 15) .nilIface ((((((numK 8 rq 8 ++ numK 1 (2:UInt64) 1) ++ numK 1 (0:UInt64) 1) ++ numK 1 (UInt64.ofNat (nj - 1)) 1) ++ itmsT lj) ++ numK 2 (UInt64.ofNat nha) 2) ++ xha) sp8 ahb nhb chb xhb w1 (hw1.en 1 rfl) (hw1.en 2 rfl) (hw1.ne (i := 1) (j := 2) rfl rfl (by decide)) (show ((((((numK 8 rq 8 ++ numK 1 (2:UInt64) 1) ++ numK 1 (0:UInt64) 1) ++ numK 1 (UInt64.ofNat (nj - 1)) 1) ++ itmsT lj) ++ numK 2 (UInt64.ofNat nha) 2) ++ xha).length = (32*nha + si + 13) from (by rw [List.length_append, List.length_append, AZ, hi3, hlha] <;> omega)) hc22 hc23 hc24 (by omega) hlhb (by omega) (by omega) (by omega) (hrhb.at (M' := [nb2, nb11]) hw1 (hw1.apart [1, 2] _ rfl)) (by omega) (by omega))) rfl ?_
  rintro v1 L1 ⟨_, ⟨rfl, nb12, sp9, cp9, rfl, hc25, hc26, hc27⟩, rfl⟩
  show JL _ _ _ _ ((98, .tuple #[]) :: _) [_, (Ez nb2 [.nilIface, Slc nb12 0 (32*nha + 32*nhb + si + 15) cp9] 149), (Ez nb12 (cu8 ((((((((numK 8 rq 8 ++ numK 1 (2:UInt64) 1) ++ numK 1 (0:UInt64) 1) ++ numK 1 (UInt64.ofNat (nj - 1)) 1) ++ itmsT lj) ++ numK 2 (UInt64.ofNat nha) 2) ++ xha) ++ numK 2 (UInt64.ofNat nhb) 2) ++ xhb) ++ sp9) 5)]
  refine AJ (AD (AF (AC (AA _ (AG rfl) rfl ?_))))
  refine A2 (C6 83 _ _ (AV _ E4 rfl) (fun w1 hw1 => F8 nb2 0 nb12 (32*nha + 32*nhb + si + 15) cp9 ((((((((numK 8 rq 8 ++ numK 1 (2:UInt64) 1) ++ numK 1 (0:UInt64) 1) ++ numK 1 (UInt64.ofNat (nj - 1)) 1) ++ itmsT lj) ++ numK 2 (UInt64.ofNat nha) 2) ++ xha) ++ numK 2 (UInt64.ofNat nhb) 2) ++ xhb) w1 (RdA.of hw1 (AR 1 rfl (AN _)) (by simp)) rfl (show ((((((((numK 8 rq 8 ++ numK 1 (2:UInt64) 1) ++ numK 1 (0:UInt64) 1) ++ numK 1 (UInt64.ofNat (nj - 1)) 1) ++ itmsT lj) ++ numK 2 (UInt64.ofNat nha) 2) ++ xha) ++ numK 2 (UInt64.ofNat nhb) 2) ++ xhb).length = (32*nha + 32*nhb + si + 15) from (by rw [List.length_append, List.length_append, AZ, (show ((((((numK 8 rq 8 ++ numK 1 (2:UInt64) 1) ++ numK 1 (0:UInt64) 1) ++ numK 1 (UInt64.ofNat (nj - 1)) 1) ++ itmsT lj) ++ numK 2 (UInt64.ofNat nha) 2) ++ xha).length = (32*nha + si + 13) from (by rw [List.length_append, List.length_append, AZ, hi3, hlha] <;> omega)), hlhb] <;> omega)) (by omega) (RdB.of hw1 (AR 2 rfl (AI (AN _))) (by simp)))) rfl ?_
  rintro v1 L1 ⟨_, ⟨nb13, sp10, cp10, rfl, rfl, hc28, hc29, hc30⟩, rfl⟩
  show JL _ _ _ _ ((100, .tuple #[Slc nb13 0 (32*nha + 32*nhb + si + 15) cp10, .nilIface]) :: _) [_, _, _, (Ez nb13 (cu8 ((((((((numK 8 rq 8 ++ numK 1 (2:UInt64) 1) ++ numK 1 (0:UInt64) 1) ++ numK 1 (UInt64.ofNat (nj - 1)) 1) ++ itmsT lj) ++ numK 2 (UInt64.ofNat nha) 2) ++ xha) ++ numK 2 (UInt64.ofNat nhb) 2) ++ xhb) ++ sp10) 5)]
  refine AA _ (BI rfl rfl) rfl (AA _ (BI rfl rfl) rfl (AA _ (AE rfl) rfl (AA _ (AE rfl) rfl ?_)))
  refine AJ (AD (BK (CD [false, false, false, true] ?_)))
  show JQ _ _ _ _ [_]
  refine BJ (.tuple #[Slc nb13 0 (32*nha + 32*nhb + si + 15) cp10, .nilIface]) (res2 Tryd.results34 (BF rfl) (BF rfl)) fun w1 hw1 => ?_
  skip
  exact ⟨_, _, rfl, ⟨nb13, sp10, cp10, rfl, rfl, hc28, hc29, hc30⟩, hw1.sub (by simp) (by simp)⟩
set_option maxHeartbeats 2000000 in
theorem putRep3_c (rq : UInt64) (aj : Option Addr) (nj cj : Nat) (lj : List ItemR) (th : Bool) (pv ep : UInt64) (kd : Int) (ai : Option Addr) (ni ci : Nat) (l : List UInt64) (sa : Option Addr) (ns sc : Nat) (ls : List SealR) (bl : UInt64) (tg : List UInt8) (aha : Option Addr) (nha cha : Nat) (xha : List UInt8) (ahb : Option Addr) (nhb chb : Nat) (xhb : List UInt8)  (w : World) (hlj : lj.length = nj) (hnj : nj ≤ 2000000) (hdj : nj ≤ cj) (hcj : cj ≤ maxLen) (hj : RdV w aj (lj.flatMap itemC)) (hl : l.length = ni) (hnm : ni ≤ 2000000) (hnc : ni ≤ ci) (hcm : ci ≤ maxLen) (hv : RdV w ai (cu64 l)) (hls : ls.length = ns) (hnn : ns ≤ 2000000) (hnd : ns ≤ sc) (hcn : sc ≤ maxLen) (hs : RdV w sa (ls.flatMap sealC)) (htg : tg.length = 16) (hlha : xha.length = nha * 32) (hnha : nha ≤ 9000) (hdha : nha ≤ cha) (hcha : cha ≤ maxLen) (hrha : RdB w [] aha xha) (hlhb : xhb.length = nhb * 32) (hnhb : nhb ≤ 9000) (hdhb : nhb ≤ chb) (hchb : chb ≤ maxLen) (hrhb : RdB w [] ahb xhb) (hbi : ni ≤ 300) (hbs : ns ≤ 300) (hA : nha ≤ 300) (hB : nhb ≤ 8192) (hR : repR (3:Int) (0:Int) th lj (blankB pv ep kd l ls bl tg) (decide (mayN pv ep kd l ls bl = 0)) nha nhb = true)  : Calls Tryd.prog 34 #[.agg (V0 rq 3 0 aj nj cj th pv ep (kd) ai ni ci sa ns sc bl tg aha nha cha ahb nhb chb).toArray] w (Post w [] (fun v L => ∃ g sp cap, v = .tuple #[Slc g 0 ((32*nha + 32*nhb + 14)) cap, .nilIface] ∧ L = [(Ez g (cu8 ((((((numK 8 rq 8 ++ numK 1 (3:UInt64) 1) ++ numK 1 (0:UInt64) 1) ++ numK 2 (UInt64.ofNat nha) 2) ++ xha) ++ numK 2 (UInt64.ofNat nhb) 2) ++ xhb) ++ sp) 5)] ∧ sp.length = cap - (32*nha + 32*nhb + 14) ∧ (32*nha + 32*nhb + 14) ≤ cap ∧ cap ≤ maxLen)) := by
 have hmx : maxLen = 9223372036854775807 := rfl
 have hf := repR_f hlj hR
 have hn0 := c2_len0 hlj (repR_2 hR (by decide +kernel))
 refine enter (P := Tryd.prog) (f := 34) (fn := Tryd.f34) w [] 103 [] [.agg (V0 rq 3 0 aj nj cj th pv ep (kd) ai ni ci sa ns sc bl tg aha nha cha ahb nhb chb).toArray] Tryd.func34 rfl rfl (by simp) (BZ (by simp) (by simp) (by simp)) ?_
 show JC _ _ _ [(0, .agg (V0 rq 3 0 aj nj cj th pv ep (kd) ai ni ci sa ns sc bl tg aha nha cha ahb nhb chb).toArray)] _
 refine AF (AC (A2 (CN (.agg (V0 rq 3 0 aj nj cj th pv ep (kd) ai ni ci sa ns sc bl tg aha nha cha ahb nhb chb).toArray) (V0 rq 3 0 aj nj cj th pv ep (kd) ai ni ci sa ns sc bl tg aha nha cha ahb nhb chb) rfl (by first | rfl | simp)) rfl ?_))
 rintro v1 L1 ⟨nb1, hnb1, rfl, rfl⟩
 show JL _ _ _ _ (_ :: _) [_]
 refine AA _ (AE rfl) rfl (AA _ (AE rfl) rfl ?_)
 refine AJ (AD (AF (AF (AC (AA _ (AL rfl (BR B8 BQ (by simp [htg]) (AR 0 rfl (AN _)))) rfl ?_)))))
 refine A7 (A3 35 _ (.bool (repR (3:Int) (0:Int) th lj (blankB pv ep (kd) l ls bl tg) (decide (mayN pv ep (kd) l ls bl = 0)) nha nhb)) (AV _ Tryd.call35 rfl) (fun w1 hw1 => FB rq (3:Int) (0:Int) aj nj cj lj th pv ep (kd) ai ni ci l sa ns sc ls bl tg aha nha cha xha ahb nhb chb xhb w1 hlj (by omega) (by omega) (by omega) (CF hw1 rfl hj) hl (by omega) (by omega) (by omega) (CF hw1 rfl hv) hls (by omega) (by omega) (by omega) (CF hw1 rfl hs) htg hlha (by omega) (by omega) (by omega) (hrha.at (M' := []) hw1 (by simp)) hlhb (by omega) (by omega) (by omega) (hrhb.at (M' := []) hw1 (by simp)) (by omega) (by omega))) rfl ?_
 show JL _ _ _ _ ((14, .bool (repR (3:Int) (0:Int) th lj (blankB pv ep (kd) l ls bl tg) (decide (mayN pv ep (kd) l ls bl = 0)) nha nhb)) :: _) [_]
 refine AA (.bool (!(repR (3:Int) (0:Int) th lj (blankB pv ep (kd) l ls bl tg) (decide (mayN pv ep (kd) l ls bl = 0)) nha nhb))) (D1 rfl) rfl ?_
 refine AJ (AD (BT _ rfl (bnotT hR) ?_))
 refine BH (AD (AF (AC (AA _ (AL rfl (BR B8 BQ (by simp [htg]) (AR 0 rfl (AN _)))) rfl ?_))))
 refine A7 (A3 95 _ (.tuple #[.bool (itB (0:Int) (3:Int)), .bool (chB (0:Int) (3:Int) th), .bool (aB (0:Int) (3:Int) th), .bool (bB (0:Int) (3:Int) th)]) (AV _ Tryd.call95 rfl) (fun w1 hw1 => parts_c rq (3:Int) (0:Int) aj nj cj lj th pv ep (kd) ai ni ci l sa ns sc ls bl tg aha nha cha xha ahb nhb chb xhb w1 htg)) rfl ?_
 show JL _ _ _ _ ((19, .tuple #[.bool (itB (0:Int) (3:Int)), .bool (chB (0:Int) (3:Int) th), .bool (aB (0:Int) (3:Int) th), .bool (bB (0:Int) (3:Int) th)]) :: _) [_]
 refine AA _ (AG rfl) rfl (AA _ (BI rfl rfl) rfl (AA _ (BI rfl rfl) rfl (AA _ (BI rfl rfl) rfl (AA _ (BI rfl rfl) rfl (AA _ (AE rfl) rfl (AA _ (AE rfl) rfl (AA _ (AE rfl) rfl (AA _ (AE rfl) rfl ?_))))))))
 refine AJ (AD (AF (AC (AA (.agg #[.nilIface, SL none 0 0]) (CY [] _ rfl (fun _ => by kernel_rfl)) rfl ?_))))
 refine A2 (CN (.agg #[.nilIface, SL none 0 0]) ([.nilIface, SL none 0 0]) rfl (by first | rfl | simp)) rfl ?_
 rintro v1 L1 ⟨nb2, hnb2, rfl, rfl⟩
 show JL _ _ _ _ (_ :: _) [_, _]
 refine AA _ (AE rfl) rfl ?_
 refine AJ (AD (AF (DB 103 4 [(0, Ptr nb2 0), (1, Ptr nb1 0), (2, U64 rq), (4, Ptr nb1 1), (5, I64 3), (6, U64 3), (8, Ptr nb1 2), (9, I64 0), (10, U64 0)] B6 rfl (by decide +kernel) ?_)))
 refine C2 ⟨[], [0, 1, 2, 4, 5, 6, 8, 9, 10], [], [0, 1, 2, 4, 5, 6, 8, 9, 10], [3]⟩ 3 _ rfl rfl (by decide +kernel) rfl ⟨CB rfl rfl rfl, AP rfl rfl (AB 0 22 1 AK rfl A1 rfl rfl), AP rfl rfl (AL rfl (AX A8 (AR 0 rfl (AI (AI (Seg.head)))))), AP rfl rfl (AB 1 3 1 AK rfl AW rfl rfl), AP rfl rfl (AL rfl (AX A0 (AR 0 rfl (AI (AI (AH (Seg.head))))))), AP rfl rfl (CV _ _ rfl fun _ => DX (by rw [A4]; rfl) AU rfl), AP rfl rfl (AB 2 3 1 AK rfl AW rfl rfl), AP rfl rfl (AL rfl (AX A0 (AR 0 rfl (AI (AI (AH (AH (Seg.head)))))))), AP rfl rfl (CV _ _ rfl fun _ => DX (by rw [A4]; rfl) AU rfl), trivial⟩ rfl (BO rfl (BD 81 _ [false, true] [nb2] _ (AV _ B9 rfl) rfl (fun w1 hw1 => numN_c nb2 8 .nilIface rq 8 w1 (hw1.en 1 rfl) (by unfold Szd; omega) (fun h => absurd h (by omega)) (by omega)))) ?_
 rintro v1 L1 ⟨_, ⟨rfl, nb3, sp1, cp1, rfl, hc1, hc2, hc3⟩, rfl⟩
 refine ⟨[], ?_⟩
 show DP _ _ _ _ _ _ _ _ [_, (Ez nb2 [.nilIface, Slc nb3 0 8 cp1] 149), (Ez nb3 (cu8 (numK 8 rq 8) ++ sp1) 5)]
 refine C2 ⟨[3], [0, 1, 2, 4, 5, 6, 8, 9, 10], [0, 1, 2], [4, 5, 6, 8, 9, 10], [7]⟩ 7 _ rfl rfl (by decide +kernel) rfl ⟨AP rfl rfl (AB 1 3 1 AK rfl AW rfl rfl), AP rfl rfl (AL rfl (AX A0 (AR 0 rfl (AI (AI (AH (Seg.head))))))), AP rfl rfl (CV _ _ rfl fun _ => DX (by rw [A4]; rfl) AU rfl), AP rfl rfl (AB 2 3 1 AK rfl AW rfl rfl), AP rfl rfl (AL rfl (AX A0 (AR 0 rfl (AI (AI (AH (AH (Seg.head)))))))), AP rfl rfl (CV _ _ rfl fun _ => DX (by rw [A4]; rfl) AU rfl), trivial⟩ rfl (BO rfl (BD 81 _ [false, true, true] [nb2, nb3] _ (AV _ B9 rfl) rfl (fun w1 hw1 => E1 nb2 nb3 8 cp1 9 .nilIface (numK 8 rq 8) sp1 (3:UInt64) 1 w1 (hw1.en 1 rfl) (hw1.en 2 rfl) (hw1.ne (i := 1) (j := 2) rfl rfl (by decide)) (show (numK 8 rq 8).length = 8 from (AZ _ _ _)) hc1 hc2 hc3 (by omega) (by unfold Szd; omega) (fun _ => by decide) (by omega)))) ?_
 rintro v1 L1 ⟨_, ⟨rfl, nb4, sp2, cp2, rfl, hc4, hc5, hc6⟩, rfl⟩
 refine ⟨[], ?_⟩
 show DP _ _ _ _ _ _ _ _ [_, (Ez nb2 [.nilIface, Slc nb4 0 9 cp2] 149), (Ez nb4 (cu8 ((numK 8 rq 8) ++ numK 1 (3:UInt64) 1) ++ sp2) 5)]
 refine C2 ⟨[3, 7], [0, 1, 2, 4, 5, 6, 8, 9, 10], [0, 1, 2, 4, 5, 6], [8, 9, 10], [11]⟩ 11 _ rfl rfl (by decide +kernel) rfl ⟨AP rfl rfl (AB 2 3 1 AK rfl AW rfl rfl), AP rfl rfl (AL rfl (AX A0 (AR 0 rfl (AI (AI (AH (AH (Seg.head)))))))), AP rfl rfl (CV _ _ rfl fun _ => DX (by rw [A4]; rfl) AU rfl), trivial⟩ rfl (BO rfl (BD 81 _ [false, true, true] [nb2, nb4] _ (AV _ B9 rfl) rfl (fun w1 hw1 => E1 nb2 nb4 9 cp2 10 .nilIface ((numK 8 rq 8) ++ numK 1 (3:UInt64) 1) sp2 (0:UInt64) 1 w1 (hw1.en 1 rfl) (hw1.en 2 rfl) (hw1.ne (i := 1) (j := 2) rfl rfl (by decide)) (show ((numK 8 rq 8) ++ numK 1 (3:UInt64) 1).length = 9 from (by rw [List.length_append, (show (numK 8 rq 8).length = 8 from (AZ _ _ _)), AZ] <;> omega)) hc4 hc5 hc6 (by omega) (by unfold Szd; omega) (fun _ => by decide) (by omega)))) ?_
 rintro v1 L1 ⟨_, ⟨rfl, nb5, sp3, cp3, rfl, hc7, hc8, hc9⟩, rfl⟩
 refine ⟨[], ?_⟩
 show DP _ _ _ _ _ _ _ _ [_, (Ez nb2 [.nilIface, Slc nb5 0 10 cp3] 149), (Ez nb5 (cu8 (((numK 8 rq 8) ++ numK 1 (3:UInt64) 1) ++ numK 1 (0:UInt64) 1) ++ sp3) 5)]
 refine DR ⟨[3, 7, 11], [0, 1, 2, 4, 5, 6, 8, 9, 10], [0, 1, 2, 4, 5, 6, 8, 9, 10], [], []⟩ rfl rfl (by decide +kernel) rfl trivial ?_
 refine C5 (F' := [(1, Ptr nb1 0), (2, SL none 0 0), (3, .nilIface), (4, .bool (itB (0:Int) (3:Int))), (5, .bool (chB (0:Int) (3:Int) th)), (6, .bool (aB (0:Int) (3:Int) th)), (7, .bool (bB (0:Int) (3:Int) th)), (8, Ptr nb2 0)]) (by kernel_rfl) ?_
 refine AD (AF (AF (AC (AA _ (AG rfl) rfl ?_))))
 refine AJ (AD (BT _ rfl (by decide +kernel) ?_))
 refine BH (AD (AF (AF (AC (AA (Ptr nb1 3) (AB 3 64 1 AK rfl C1 rfl rfl) rfl ?_)))))
 refine AA _ (AL rfl (AX DZ (AR 0 rfl (AI (AI (AH (AH (AH (Seg.head))))))))) rfl ?_
 refine AA (I64 nj) (DA B2 rfl) rfl (AA _ (AG rfl) rfl ?_)
 refine AJ (AD (B5 (EO (ι := Unit) (fun _ => [(1, Ptr nb1 0), (2, SL none 0 0), (3, .nilIface), (5, .bool (chB (0:Int) (3:Int) th)), (6, .bool (aB (0:Int) (3:Int) th)), (7, .bool (bB (0:Int) (3:Int) th)), (8, Ptr nb2 0), (47, SL aj nj cj), (48, I64 nj), (49, I64 0)]) (fun _ => [(Ez nb1 (V0 rq 3 0 aj nj cj th pv ep (kd) ai ni ci sa ns sc bl tg aha nha cha ahb nhb chb) 67), (Ez nb2 [.nilIface, Slc nb5 0 10 cp3] 149), (Ez nb5 (cu8 (((numK 8 rq 8) ++ numK 1 (3:UInt64) 1) ++ numK 1 (0:UInt64) 1) ++ sp3) 5)]) (fun _ => True) (fun _ => 1) () trivial (Sub.all rfl) rfl ?_)))
 rintro _ _
 show JC _ _ _ [_, _, _, _, _, _, _, _, _, _] [_, _, _]
 refine AF (AC (AA (.bool (decide ((0:Int) < ((nj:Int))))) (AT rfl rfl fun _ => CL _ _) rfl ?_))
 refine AJ (AD (AF (BT _ rfl (decide_eq_false (by omega)) ?_)))
 refine EF (BC (BC (CX (AD (AF (AF (AC (AA (Ptr nb1 2) (AB 2 3 1 AK rfl AW rfl rfl) rfl ?_))))))))
 refine AA _ (AL rfl (AX A0 (AR 0 rfl (AI (AI (AH (AH (Seg.head)))))))) rfl ?_
 refine AA (.bool (decide ((0:Int) = (0:Int)))) (AT rfl rfl fun _ => BP _ _) rfl ?_
 refine AA _ (AG rfl) rfl ?_
 refine AM 3 68 true _ (Ptr nb1 1) rfl rfl (by decide) (AB 1 3 1 AK rfl AW rfl rfl) rfl ?_
 refine AM 3 68 true _ _ rfl rfl (by decide) (AL rfl (AX A0 (AR 0 rfl (AI (AI (AH (Seg.head))))))) rfl ?_
 refine AM 3 68 true _ (.bool (decide ((3:Int) = (4:Int)))) rfl rfl (by decide) (AT rfl rfl fun _ => BP _ _) rfl ?_
 refine AA _ (BA _ rfl (by decide) rfl) rfl ?_
 refine AJ (AD (BT _ rfl (by decide) ?_))
 refine BH (AD (AF (AF (AC (AA _ (AG rfl) rfl ?_)))))
 refine AJ (AD (BT _ rfl ((by decide +kernel : ∀ t : Bool, (chB (0:Int) (3:Int) t) = false) th) ?_))
 refine BH (AD (AF (AF (AC (AA _ (AG rfl) rfl ?_)))))
 refine AJ (AD (CH _ rfl ((by decide +kernel : ∀ t : Bool, (aB (0:Int) (3:Int) t) = true) th) ?_))
 refine AC (AA _ (AG rfl) rfl ?_)
 refine AA (Ptr nb1 27) (AB 27 65 1 AK rfl CI rfl rfl) rfl (AA _ (AL rfl (AX D3 (AR 0 rfl (Seg.right 27 0 (by simp [htg]) rfl (Seg.head))))) rfl ?_)
 refine A2 (BD 98 _ [false, true, true] [nb2, nb5] _ (AV _ Tryd.call98 rfl) rfl (fun w1 hw1 => hashesO_c nb2 nb5 10 cp3 (32*nha + 12) .nilIface (((numK 8 rq 8) ++ numK 1 (3:UInt64) 1) ++ numK 1 (0:UInt64) 1) sp3 aha nha cha xha w1 (hw1.en 1 rfl) (hw1.en 2 rfl) (hw1.ne (i := 1) (j := 2) rfl rfl (by decide)) (show (((numK 8 rq 8) ++ numK 1 (3:UInt64) 1) ++ numK 1 (0:UInt64) 1).length = 10 from (by rw [List.length_append, (show ((numK 8 rq 8) ++ numK 1 (3:UInt64) 1).length = 9 from (by rw [List.length_append, (show (numK 8 rq 8).length = 8 from (AZ _ _ _)), AZ] <;> omega)), AZ] <;> omega)) hc7 hc8 hc9 (by omega) hlha (by omega) (by omega) (by omega) (hrha.at (M' := [nb2, nb5]) hw1 (hw1.apart [1, 2] _ rfl)) (by omega) (by omega))) rfl ?_
 rintro v1 L1 ⟨_, ⟨rfl, nb6, sp4, cp4, rfl, hc10, hc11, hc12⟩, rfl⟩
 show JL _ _ _ _ ((93, .tuple #[]) :: _) [_, (Ez nb2 [.nilIface, Slc nb6 0 (32*nha + 12) cp4] 149), (Ez nb6 (cu8 (((((numK 8 rq 8) ++ numK 1 (3:UInt64) 1) ++ numK 1 (0:UInt64) 1) ++ numK 2 (UInt64.ofNat nha) 2) ++ xha) ++ sp4) 5)]
 refine AJ (AD (AF (AF (AC (AA _ (AG rfl) rfl ?_)))))
 refine AJ (AD (CH _ rfl ((by decide +kernel : ∀ t : Bool, (bB (0:Int) (3:Int) t) = true) th) ?_))
 refine AC (AA _ (AG rfl) rfl ?_)
 refine AA (Ptr nb1 28) (AB 28 65 1 AK rfl CI rfl rfl) rfl (AA _ (AL rfl (AX D3 (AR 0 rfl (Seg.right 27 1 (by simp [htg]) rfl (AH (Seg.head)))))) rfl ?_)
 refine A2 (BD 98 _ [false, true, true] [nb2, nb6] _ (AV _ Tryd.call98 rfl) rfl (fun w1 hw1 => hashesO_c nb2 nb6 (32*nha + 12) cp4 (32*nha + 32*nhb + 14) .nilIface (((((numK 8 rq 8) ++ numK 1 (3:UInt64) 1) ++ numK 1 (0:UInt64) 1) ++ numK 2 (UInt64.ofNat nha) 2) ++ xha) sp4 ahb nhb chb xhb w1 (hw1.en 1 rfl) (hw1.en 2 rfl) (hw1.ne (i := 1) (j := 2) rfl rfl (by decide)) (show (((((numK 8 rq 8) ++ numK 1 (3:UInt64) 1) ++ numK 1 (0:UInt64) 1) ++ numK 2 (UInt64.ofNat nha) 2) ++ xha).length = (32*nha + 12) from (by rw [List.length_append, List.length_append, AZ, (show (((numK 8 rq 8) ++ numK 1 (3:UInt64) 1) ++ numK 1 (0:UInt64) 1).length = 10 from (by rw [List.length_append, (show ((numK 8 rq 8) ++ numK 1 (3:UInt64) 1).length = 9 from (by rw [List.length_append, (show (numK 8 rq 8).length = 8 from (AZ _ _ _)), AZ] <;> omega)), AZ] <;> omega)), hlha] <;> omega)) hc10 hc11 hc12 (by omega) hlhb (by omega) (by omega) (by omega) (hrhb.at (M' := [nb2, nb6]) hw1 (hw1.apart [1, 2] _ rfl)) (by omega) (by omega))) rfl ?_
 rintro v1 L1 ⟨_, ⟨rfl, nb7, sp5, cp5, rfl, hc13, hc14, hc15⟩, rfl⟩
 show JL _ _ _ _ ((98, .tuple #[]) :: _) [_, (Ez nb2 [.nilIface, Slc nb7 0 (32*nha + 32*nhb + 14) cp5] 149), (Ez nb7 (cu8 (((((((numK 8 rq 8) ++ numK 1 (3:UInt64) 1) ++ numK 1 (0:UInt64) 1) ++ numK 2 (UInt64.ofNat nha) 2) ++ xha) ++ numK 2 (UInt64.ofNat nhb) 2) ++ xhb) ++ sp5) 5)]
 refine AJ (AD (AF (AC (AA _ (AG rfl) rfl ?_))))
 refine A2 (C6 83 _ _ (AV _ E4 rfl) (fun w1 hw1 => F8 nb2 0 nb7 (32*nha + 32*nhb + 14) cp5 (((((((numK 8 rq 8) ++ numK 1 (3:UInt64) 1) ++ numK 1 (0:UInt64) 1) ++ numK 2 (UInt64.ofNat nha) 2) ++ xha) ++ numK 2 (UInt64.ofNat nhb) 2) ++ xhb) w1 (RdA.of hw1 (AR 1 rfl (AN _)) (by simp)) rfl (show (((((((numK 8 rq 8) ++ numK 1 (3:UInt64) 1) ++ numK 1 (0:UInt64) 1) ++ numK 2 (UInt64.ofNat nha) 2) ++ xha) ++ numK 2 (UInt64.ofNat nhb) 2) ++ xhb).length = (32*nha + 32*nhb + 14) from (by rw [List.length_append, List.length_append, AZ, (show (((((numK 8 rq 8) ++ numK 1 (3:UInt64) 1) ++ numK 1 (0:UInt64) 1) ++ numK 2 (UInt64.ofNat nha) 2) ++ xha).length = (32*nha + 12) from (by rw [List.length_append, List.length_append, AZ, (show (((numK 8 rq 8) ++ numK 1 (3:UInt64) 1) ++ numK 1 (0:UInt64) 1).length = 10 from (by rw [List.length_append, (show ((numK 8 rq 8) ++ numK 1 (3:UInt64) 1).length = 9 from (by rw [List.length_append, (show (numK 8 rq 8).length = 8 from (AZ _ _ _)), AZ] <;> omega)), AZ] <;> omega)), hlha] <;> omega)), hlhb] <;> omega)) (by omega) (RdB.of hw1 (AR 2 rfl (AI (AN _))) (by simp)))) rfl ?_
 rintro v1 L1 ⟨_, ⟨nb8, sp6, cp6, rfl, rfl, hc16, hc17, hc18⟩, rfl⟩
 show JL _ _ _ _ ((100, .tuple #[Slc nb8 0 (32*nha + 32*nhb + 14) cp6, .nilIface]) :: _) [_, _, _, (Ez nb8 (cu8 (((((((numK 8 rq 8) ++ numK 1 (3:UInt64) 1) ++ numK 1 (0:UInt64) 1) ++ numK 2 (UInt64.ofNat nha) 2) ++ xha) ++ numK 2 (UInt64.ofNat nhb) 2) ++ xhb) ++ sp6) 5)]
 refine AA _ (BI rfl rfl) rfl (AA _ (BI rfl rfl) rfl (AA _ (AE rfl) rfl (AA _ (AE rfl) rfl ?_)))
 refine AJ (AD (BK (CD [false, false, false, true] ?_)))
 show JQ _ _ _ _ [_]
 refine BJ (.tuple #[Slc nb8 0 (32*nha + 32*nhb + 14) cp6, .nilIface]) (res2 Tryd.results34 (BF rfl) (BF rfl)) fun w1 hw1 => ?_
 skip
 exact ⟨_, _, rfl, ⟨nb8, sp6, cp6, rfl, rfl, hc16, hc17, hc18⟩, hw1.sub (by simp) (by simp)⟩
set_option maxHeartbeats 2000000 in
theorem putRep4t_c (rq : UInt64) (aj : Option Addr) (nj cj : Nat) (lj : List ItemR) (pv ep : UInt64) (k : Nat) (ai : Option Addr) (ni ci : Nat) (l : List UInt64) (sa : Option Addr) (ns sc : Nat) (ls : List SealR) (bl : UInt64) (tg : List UInt8) (aha : Option Addr) (nha cha : Nat) (xha : List UInt8) (ahb : Option Addr) (nhb chb : Nat) (xhb : List UInt8) (tot : Nat)  (w : World) (hlj : lj.length = nj) (hnj : nj ≤ 2000000) (hdj : nj ≤ cj) (hcj : cj ≤ maxLen) (hj : RdV w aj (lj.flatMap itemC)) (hl : l.length = ni) (hnm : ni ≤ 2000000) (hnc : ni ≤ ci) (hcm : ci ≤ maxLen) (hv : RdV w ai (cu64 l)) (hls : ls.length = ns) (hnn : ns ≤ 2000000) (hnd : ns ≤ sc) (hcn : sc ≤ maxLen) (hs : RdV w sa (ls.flatMap sealC)) (htg : tg.length = 16) (hlha : xha.length = nha * 32) (hnha : nha ≤ 9000) (hdha : nha ≤ cha) (hcha : cha ≤ maxLen) (hrha : RdB w [] aha xha) (hlhb : xhb.length = nhb * 32) (hnhb : nhb ≤ 9000) (hdhb : nhb ≤ chb) (hchb : chb ≤ maxLen) (hrhb : RdB w [] ahb xhb) (hbi : ni ≤ 300) (hbs : ns ≤ 300) (hA : nha ≤ 300) (hB : nhb ≤ 8192) (hR : repR (4:Int) (0:Int) true lj (blankB pv ep (k:Int) l ls bl tg) (decide (mayN pv ep (k:Int) l ls bl = 0)) nha nhb = true) (hmay : mayN pv ep (k:Int) l ls bl = 0) (hk : k = 1 ∨ k = 2 ∨ k = 3) (hsm : ns ≤ 300) (htot : tktN k ni ns = tot) (htb : tot ≤ 30000)  : Calls Tryd.prog 34 #[.agg (V0 rq 4 0 aj nj cj true pv ep k ai ni ci sa ns sc bl tg aha nha cha ahb nhb chb).toArray] w (Post w [] (fun v L => ∃ g sp cap, v = .tuple #[Slc g 0 ((32*nha + 32*nhb + tot + 31)) cap, .nilIface] ∧ L = [(Ez g (cu8 ((((((((numK 8 rq 8 ++ numK 1 (4:UInt64) 1) ++ numK 1 (0:UInt64) 1) ++ numK 1 (bitU true) 1) ++ ((tktT pv ep k l ls bl) ++ tg)) ++ numK 2 (UInt64.ofNat nha) 2) ++ xha) ++ numK 2 (UInt64.ofNat nhb) 2) ++ xhb) ++ sp) 5)] ∧ sp.length = cap - (32*nha + 32*nhb + tot + 31) ∧ (32*nha + 32*nhb + tot + 31) ≤ cap ∧ cap ≤ maxLen)) := by
 have hmx : maxLen = 9223372036854775807 := rfl
 have hf := repR_f hlj hR
 have hn0 := c2_len0 hlj (repR_2 hR (by decide +kernel))
 refine enter (P := Tryd.prog) (f := 34) (fn := Tryd.f34) w [] 103 [] [.agg (V0 rq 4 0 aj nj cj true pv ep k ai ni ci sa ns sc bl tg aha nha cha ahb nhb chb).toArray] Tryd.func34 rfl rfl (by simp) (BZ (by simp) (by simp) (by simp)) ?_
 show JC _ _ _ [(0, .agg (V0 rq 4 0 aj nj cj true pv ep k ai ni ci sa ns sc bl tg aha nha cha ahb nhb chb).toArray)] _
 refine AF (AC (A2 (CN (.agg (V0 rq 4 0 aj nj cj true pv ep k ai ni ci sa ns sc bl tg aha nha cha ahb nhb chb).toArray) (V0 rq 4 0 aj nj cj true pv ep k ai ni ci sa ns sc bl tg aha nha cha ahb nhb chb) rfl (by first | rfl | simp)) rfl ?_))
 rintro v1 L1 ⟨nb1, hnb1, rfl, rfl⟩
 show JL _ _ _ _ (_ :: _) [_]
 refine AA _ (AE rfl) rfl (AA _ (AE rfl) rfl ?_)
 refine AJ (AD (AF (AF (AC (AA _ (AL rfl (BR B8 BQ (by simp [htg]) (AR 0 rfl (AN _)))) rfl ?_)))))
 refine A7 (A3 35 _ (.bool (repR (4:Int) (0:Int) true lj (blankB pv ep ((k:Int)) l ls bl tg) (decide (mayN pv ep ((k:Int)) l ls bl = 0)) nha nhb)) (AV _ Tryd.call35 rfl) (fun w1 hw1 => FB rq (4:Int) (0:Int) aj nj cj lj true pv ep ((k:Int)) ai ni ci l sa ns sc ls bl tg aha nha cha xha ahb nhb chb xhb w1 hlj (by omega) (by omega) (by omega) (CF hw1 rfl hj) hl (by omega) (by omega) (by omega) (CF hw1 rfl hv) hls (by omega) (by omega) (by omega) (CF hw1 rfl hs) htg hlha (by omega) (by omega) (by omega) (hrha.at (M' := []) hw1 (by simp)) hlhb (by omega) (by omega) (by omega) (hrhb.at (M' := []) hw1 (by simp)) (by omega) (by omega))) rfl ?_
 show JL _ _ _ _ ((14, .bool (repR (4:Int) (0:Int) true lj (blankB pv ep ((k:Int)) l ls bl tg) (decide (mayN pv ep ((k:Int)) l ls bl = 0)) nha nhb)) :: _) [_]
 refine AA (.bool (!(repR (4:Int) (0:Int) true lj (blankB pv ep ((k:Int)) l ls bl tg) (decide (mayN pv ep ((k:Int)) l ls bl = 0)) nha nhb))) (D1 rfl) rfl ?_
 refine AJ (AD (BT _ rfl (bnotT hR) ?_))
 refine BH (AD (AF (AC (AA _ (AL rfl (BR B8 BQ (by simp [htg]) (AR 0 rfl (AN _)))) rfl ?_))))
 refine A7 (A3 95 _ (.tuple #[.bool (itB (0:Int) (4:Int)), .bool (chB (0:Int) (4:Int) true), .bool (aB (0:Int) (4:Int) true), .bool (bB (0:Int) (4:Int) true)]) (AV _ Tryd.call95 rfl) (fun w1 hw1 => parts_c rq (4:Int) (0:Int) aj nj cj lj true pv ep ((k:Int)) ai ni ci l sa ns sc ls bl tg aha nha cha xha ahb nhb chb xhb w1 htg)) rfl ?_
 show JL _ _ _ _ ((19, .tuple #[.bool (itB (0:Int) (4:Int)), .bool (chB (0:Int) (4:Int) true), .bool (aB (0:Int) (4:Int) true), .bool (bB (0:Int) (4:Int) true)]) :: _) [_]
 refine AA _ (AG rfl) rfl (AA _ (BI rfl rfl) rfl (AA _ (BI rfl rfl) rfl (AA _ (BI rfl rfl) rfl (AA _ (BI rfl rfl) rfl (AA _ (AE rfl) rfl (AA _ (AE rfl) rfl (AA _ (AE rfl) rfl (AA _ (AE rfl) rfl ?_))))))))
 refine AJ (AD (AF (AC (AA (.agg #[.nilIface, SL none 0 0]) (CY [] _ rfl (fun _ => by kernel_rfl)) rfl ?_))))
 refine A2 (CN (.agg #[.nilIface, SL none 0 0]) ([.nilIface, SL none 0 0]) rfl (by first | rfl | simp)) rfl ?_
 rintro v1 L1 ⟨nb2, hnb2, rfl, rfl⟩
 show JL _ _ _ _ (_ :: _) [_, _]
 refine AA _ (AE rfl) rfl ?_
 refine AJ (AD (AF (DB 103 4 [(0, Ptr nb2 0), (1, Ptr nb1 0), (2, U64 rq), (4, Ptr nb1 1), (5, I64 4), (6, U64 4), (8, Ptr nb1 2), (9, I64 0), (10, U64 0)] B6 rfl (by decide +kernel) ?_)))
 refine C2 ⟨[], [0, 1, 2, 4, 5, 6, 8, 9, 10], [], [0, 1, 2, 4, 5, 6, 8, 9, 10], [3]⟩ 3 _ rfl rfl (by decide +kernel) rfl ⟨CB rfl rfl rfl, AP rfl rfl (AB 0 22 1 AK rfl A1 rfl rfl), AP rfl rfl (AL rfl (AX A8 (AR 0 rfl (AI (AI (Seg.head)))))), AP rfl rfl (AB 1 3 1 AK rfl AW rfl rfl), AP rfl rfl (AL rfl (AX A0 (AR 0 rfl (AI (AI (AH (Seg.head))))))), AP rfl rfl (CV _ _ rfl fun _ => DX (by rw [A4]; rfl) AU rfl), AP rfl rfl (AB 2 3 1 AK rfl AW rfl rfl), AP rfl rfl (AL rfl (AX A0 (AR 0 rfl (AI (AI (AH (AH (Seg.head)))))))), AP rfl rfl (CV _ _ rfl fun _ => DX (by rw [A4]; rfl) AU rfl), trivial⟩ rfl (BO rfl (BD 81 _ [false, true] [nb2] _ (AV _ B9 rfl) rfl (fun w1 hw1 => numN_c nb2 8 .nilIface rq 8 w1 (hw1.en 1 rfl) (by unfold Szd; omega) (fun h => absurd h (by omega)) (by omega)))) ?_
 rintro v1 L1 ⟨_, ⟨rfl, nb3, sp1, cp1, rfl, hc1, hc2, hc3⟩, rfl⟩
 refine ⟨[], ?_⟩
 show DP _ _ _ _ _ _ _ _ [_, (Ez nb2 [.nilIface, Slc nb3 0 8 cp1] 149), (Ez nb3 (cu8 (numK 8 rq 8) ++ sp1) 5)]
 refine C2 ⟨[3], [0, 1, 2, 4, 5, 6, 8, 9, 10], [0, 1, 2], [4, 5, 6, 8, 9, 10], [7]⟩ 7 _ rfl rfl (by decide +kernel) rfl ⟨AP rfl rfl (AB 1 3 1 AK rfl AW rfl rfl), AP rfl rfl (AL rfl (AX A0 (AR 0 rfl (AI (AI (AH (Seg.head))))))), AP rfl rfl (CV _ _ rfl fun _ => DX (by rw [A4]; rfl) AU rfl), AP rfl rfl (AB 2 3 1 AK rfl AW rfl rfl), AP rfl rfl (AL rfl (AX A0 (AR 0 rfl (AI (AI (AH (AH (Seg.head)))))))), AP rfl rfl (CV _ _ rfl fun _ => DX (by rw [A4]; rfl) AU rfl), trivial⟩ rfl (BO rfl (BD 81 _ [false, true, true] [nb2, nb3] _ (AV _ B9 rfl) rfl (fun w1 hw1 => E1 nb2 nb3 8 cp1 9 .nilIface (numK 8 rq 8) sp1 (4:UInt64) 1 w1 (hw1.en 1 rfl) (hw1.en 2 rfl) (hw1.ne (i := 1) (j := 2) rfl rfl (by decide)) (show (numK 8 rq 8).length = 8 from (AZ _ _ _)) hc1 hc2 hc3 (by omega) (by unfold Szd; omega) (fun _ => by decide) (by omega)))) ?_
 rintro v1 L1 ⟨_, ⟨rfl, nb4, sp2, cp2, rfl, hc4, hc5, hc6⟩, rfl⟩
 refine ⟨[], ?_⟩
 show DP _ _ _ _ _ _ _ _ [_, (Ez nb2 [.nilIface, Slc nb4 0 9 cp2] 149), (Ez nb4 (cu8 ((numK 8 rq 8) ++ numK 1 (4:UInt64) 1) ++ sp2) 5)]
 refine C2 ⟨[3, 7], [0, 1, 2, 4, 5, 6, 8, 9, 10], [0, 1, 2, 4, 5, 6], [8, 9, 10], [11]⟩ 11 _ rfl rfl (by decide +kernel) rfl ⟨AP rfl rfl (AB 2 3 1 AK rfl AW rfl rfl), AP rfl rfl (AL rfl (AX A0 (AR 0 rfl (AI (AI (AH (AH (Seg.head)))))))), AP rfl rfl (CV _ _ rfl fun _ => DX (by rw [A4]; rfl) AU rfl), trivial⟩ rfl (BO rfl (BD 81 _ [false, true, true] [nb2, nb4] _ (AV _ B9 rfl) rfl (fun w1 hw1 => E1 nb2 nb4 9 cp2 10 .nilIface ((numK 8 rq 8) ++ numK 1 (4:UInt64) 1) sp2 (0:UInt64) 1 w1 (hw1.en 1 rfl) (hw1.en 2 rfl) (hw1.ne (i := 1) (j := 2) rfl rfl (by decide)) (show ((numK 8 rq 8) ++ numK 1 (4:UInt64) 1).length = 9 from (by rw [List.length_append, (show (numK 8 rq 8).length = 8 from (AZ _ _ _)), AZ] <;> omega)) hc4 hc5 hc6 (by omega) (by unfold Szd; omega) (fun _ => by decide) (by omega)))) ?_
 rintro v1 L1 ⟨_, ⟨rfl, nb5, sp3, cp3, rfl, hc7, hc8, hc9⟩, rfl⟩
 refine ⟨[], ?_⟩
 show DP _ _ _ _ _ _ _ _ [_, (Ez nb2 [.nilIface, Slc nb5 0 10 cp3] 149), (Ez nb5 (cu8 (((numK 8 rq 8) ++ numK 1 (4:UInt64) 1) ++ numK 1 (0:UInt64) 1) ++ sp3) 5)]
 refine DR ⟨[3, 7, 11], [0, 1, 2, 4, 5, 6, 8, 9, 10], [0, 1, 2, 4, 5, 6, 8, 9, 10], [], []⟩ rfl rfl (by decide +kernel) rfl trivial ?_
 refine C5 (F' := [(1, Ptr nb1 0), (2, SL none 0 0), (3, .nilIface), (4, .bool (itB (0:Int) (4:Int))), (5, .bool (chB (0:Int) (4:Int) true)), (6, .bool (aB (0:Int) (4:Int) true)), (7, .bool (bB (0:Int) (4:Int) true)), (8, Ptr nb2 0)]) (by kernel_rfl) ?_
 refine AD (AF (AF (AC (AA _ (AG rfl) rfl ?_))))
 refine AJ (AD (BT _ rfl (by decide +kernel) ?_))
 refine BH (AD (AF (AF (AC (AA (Ptr nb1 3) (AB 3 64 1 AK rfl C1 rfl rfl) rfl ?_)))))
 refine AA _ (AL rfl (AX DZ (AR 0 rfl (AI (AI (AH (AH (AH (Seg.head))))))))) rfl ?_
 refine AA (I64 nj) (DA B2 rfl) rfl (AA _ (AG rfl) rfl ?_)
 refine AJ (AD (B5 (EO (ι := Unit) (fun _ => [(1, Ptr nb1 0), (2, SL none 0 0), (3, .nilIface), (5, .bool (chB (0:Int) (4:Int) true)), (6, .bool (aB (0:Int) (4:Int) true)), (7, .bool (bB (0:Int) (4:Int) true)), (8, Ptr nb2 0), (47, SL aj nj cj), (48, I64 nj), (49, I64 0)]) (fun _ => [(Ez nb1 (V0 rq 4 0 aj nj cj true pv ep k ai ni ci sa ns sc bl tg aha nha cha ahb nhb chb) 67), (Ez nb2 [.nilIface, Slc nb5 0 10 cp3] 149), (Ez nb5 (cu8 (((numK 8 rq 8) ++ numK 1 (4:UInt64) 1) ++ numK 1 (0:UInt64) 1) ++ sp3) 5)]) (fun _ => True) (fun _ => 1) () trivial (Sub.all rfl) rfl ?_)))
 rintro _ _
 show JC _ _ _ [_, _, _, _, _, _, _, _, _, _] [_, _, _]
 refine AF (AC (AA (.bool (decide ((0:Int) < ((nj:Int))))) (AT rfl rfl fun _ => CL _ _) rfl ?_))
 refine AJ (AD (AF (BT _ rfl (decide_eq_false (by omega)) ?_)))
 refine EF (BC (BC (CX (AD (AF (AF (AC (AA (Ptr nb1 2) (AB 2 3 1 AK rfl AW rfl rfl) rfl ?_))))))))
 refine AA _ (AL rfl (AX A0 (AR 0 rfl (AI (AI (AH (AH (Seg.head)))))))) rfl ?_
 refine AA (.bool (decide ((0:Int) = (0:Int)))) (AT rfl rfl fun _ => BP _ _) rfl ?_
 refine AA _ (AG rfl) rfl ?_
 refine AM 3 68 true _ (Ptr nb1 1) rfl rfl (by decide) (AB 1 3 1 AK rfl AW rfl rfl) rfl ?_
 refine AM 3 68 true _ _ rfl rfl (by decide) (AL rfl (AX A0 (AR 0 rfl (AI (AI (AH (Seg.head))))))) rfl ?_
 refine AM 3 68 true _ (.bool (decide ((4:Int) = (4:Int)))) rfl rfl (by decide) (AT rfl rfl fun _ => BP _ _) rfl ?_
 refine AA _ (BA _ rfl (by decide) rfl) rfl ?_
 refine AJ (AD (CH _ rfl (by decide) ?_))
 refine AC (AA _ (AG rfl) rfl ?_)
 refine AA _ (AG rfl) rfl ?_
 refine A2 (BD 96 _ [false, true, true] [nb2, nb5] _ (AV _ Tryd.call96 rfl) rfl (fun w1 hw1 => flagO_c nb2 nb5 10 cp3 11 .nilIface (((numK 8 rq 8) ++ numK 1 (4:UInt64) 1) ++ numK 1 (0:UInt64) 1) sp3 (chB (0:Int) (4:Int) true) w1 (hw1.en 1 rfl) (hw1.en 2 rfl) (hw1.ne (i := 1) (j := 2) rfl rfl (by decide)) (show (((numK 8 rq 8) ++ numK 1 (4:UInt64) 1) ++ numK 1 (0:UInt64) 1).length = 10 from (by rw [List.length_append, (show ((numK 8 rq 8) ++ numK 1 (4:UInt64) 1).length = 9 from (by rw [List.length_append, (show (numK 8 rq 8).length = 8 from (AZ _ _ _)), AZ] <;> omega)), AZ] <;> omega)) hc7 hc8 hc9 (by omega) (by omega))) rfl ?_
 rintro v1 L1 ⟨_, ⟨rfl, nb6, sp4, cp4, rfl, hc10, hc11, hc12⟩, rfl⟩
 show JL _ _ _ _ ((75, Ptr nb2 0) :: _) [_, (Ez nb2 [.nilIface, Slc nb6 0 11 cp4] 149), (Ez nb6 (cu8 ((((numK 8 rq 8) ++ numK 1 (4:UInt64) 1) ++ numK 1 (0:UInt64) 1) ++ numK 1 (bitU (chB (0:Int) (4:Int) true)) 1) ++ sp4) 5)]
 refine AJ (AD (AF (AF (AC (AA _ (AG rfl) rfl ?_)))))
 refine AJ (AD (CH _ rfl (by decide +kernel) ?_))
 refine AF (AC (AA (Ptr nb1 5) (AB 5 29 22 AK rfl BB rfl rfl) rfl ?_))
 refine AA _ (AL rfl (BR CA BB (by simp [htg]) (AR 0 rfl (DL (p := [U64 rq, I64 4, I64 0, SL aj nj cj, .bool true]) (q := [SL aha nha cha, SL ahb nhb chb]) (vs := (V2 pv ep k ai ni ci sa ns sc bl tg)) (by first | rfl | (simp only [List.append_assoc, List.nil_append, List.append_nil, List.cons_append]; done)) rfl)))) rfl ?_
 refine A2 (C6 47 _ _ (AV _ Tryd.call47 rfl) (fun w1 hw1 => put13_c pv ep k ai ni ci l sa ns sc ls bl tg tot w1 hl (by omega) (by omega) (by omega) (CF hw1 rfl hv) hls (by omega) (by omega) (by omega) (CF hw1 rfl hs) htg hmay hk hsm htot (by omega))) rfl ?_
 rintro v1 L1 ⟨_, ⟨nb7, sp5, cp5, rfl, rfl, hc13, hc14, hc15⟩, rfl⟩
 show JL _ _ _ _ ((80, .tuple #[Slc nb7 0 (tot + 16) cp5, .nilIface]) :: _) [_, _, _, (Ez nb7 (cu8 ((tktT pv ep k l ls bl) ++ tg) ++ sp5) 5)]
 refine AA _ (AG rfl) rfl (AA _ (BI rfl rfl) rfl (AA _ (BI rfl rfl) rfl (AA _ (AE rfl) rfl (AA _ (AE rfl) rfl ?_))))
 refine AJ (AD (AF (AF (AC (AA _ (AG rfl) rfl ?_)))))
 refine AA (.bool false) (DM _ _ _ rfl rfl (fun _ => FW ..) fun _ => FJ BG) rfl ?_
 refine AJ (AD (BT _ rfl rfl ?_))
 refine BH (AD (AC (AA _ (AG rfl) rfl ?_)))
 refine AA _ (AG rfl) rfl ?_
 refine A2 (BD 82 _ [false, true, true, false] [nb2, nb6] _ (AV _ Tryd.call82 rfl) rfl (fun w1 hw1 => rawO_c nb2 nb6 11 cp4 (tot + 27) .nilIface ((((numK 8 rq 8) ++ numK 1 (4:UInt64) 1) ++ numK 1 (0:UInt64) 1) ++ numK 1 (bitU (chB (0:Int) (4:Int) true)) 1) sp4 (some ⟨nb7, 0, none⟩) (tot + 16) cp5 ((tktT pv ep k l ls bl) ++ tg) w1 (hw1.en 1 rfl) (hw1.en 2 rfl) (hw1.ne (i := 1) (j := 2) rfl rfl (by decide)) (show ((((numK 8 rq 8) ++ numK 1 (4:UInt64) 1) ++ numK 1 (0:UInt64) 1) ++ numK 1 (bitU (chB (0:Int) (4:Int) true)) 1).length = 11 from (by rw [List.length_append, (show (((numK 8 rq 8) ++ numK 1 (4:UInt64) 1) ++ numK 1 (0:UInt64) 1).length = 10 from (by rw [List.length_append, (show ((numK 8 rq 8) ++ numK 1 (4:UInt64) 1).length = 9 from (by rw [List.length_append, (show (numK 8 rq 8).length = 8 from (AZ _ _ _)), AZ] <;> omega)), AZ] <;> omega)), AZ] <;> omega)) hc10 hc11 hc12 (by omega) (show ((tktT pv ep k l ls bl) ++ tg).length = (tot + 16) from (by rw [List.length_append, ((FM hl hls).trans htot), htg])) (by omega) (RdB.of hw1 (AR 3 rfl (AI (AN _))) (by intro _; simp only [List.mem_cons, List.not_mem_nil, or_false, not_or]; exact ⟨hw1.ne (i := 3) (j := 1) rfl rfl (by decide), hw1.ne (i := 3) (j := 2) rfl rfl (by decide)⟩)) (by omega))) rfl ?_
 rintro v1 L1 ⟨_, ⟨rfl, nb8, sp6, cp6, rfl, hc16, hc17, hc18⟩, rfl⟩
 show JL _ _ _ _ ((88, Ptr nb2 0) :: _) [_, _, (Ez nb2 [.nilIface, Slc nb8 0 (tot + 27) cp6] 149), (Ez nb8 (cu8 (((((numK 8 rq 8) ++ numK 1 (4:UInt64) 1) ++ numK 1 (0:UInt64) 1) ++ numK 1 (bitU (chB (0:Int) (4:Int) true)) 1) ++ ((tktT pv ep k l ls bl) ++ tg)) ++ sp6) 5)]
 refine AJ (AD (AF (AF (AC (AA _ (AG rfl) rfl ?_)))))
 refine AJ (AD (CH _ rfl (by decide +kernel) ?_))
 refine AC (AA _ (AG rfl) rfl ?_)
 refine AA (Ptr nb1 27) (AB 27 65 1 AK rfl CI rfl rfl) rfl (AA _ (AL rfl (AX D3 (AR 0 rfl (Seg.right 27 0 (by simp [htg]) rfl (Seg.head))))) rfl ?_)
 refine A2 (BD 98 _ [false, false, true, true] [nb2, nb8] _ (AV _ Tryd.call98 rfl) rfl (fun w1 hw1 => hashesO_c nb2 nb8 (tot + 27) cp6 (32*nha + tot + 29) .nilIface (((((numK 8 rq 8) ++ numK 1 (4:UInt64) 1) ++ numK 1 (0:UInt64) 1) ++ numK 1 (bitU (chB (0:Int) (4:Int) true)) 1) ++ ((tktT pv ep k l ls bl) ++ tg)) sp6 aha nha cha xha w1 (hw1.en 2 rfl) (hw1.en 3 rfl) (hw1.ne (i := 2) (j := 3) rfl rfl (by decide)) (show (((((numK 8 rq 8) ++ numK 1 (4:UInt64) 1) ++ numK 1 (0:UInt64) 1) ++ numK 1 (bitU (chB (0:Int) (4:Int) true)) 1) ++ ((tktT pv ep k l ls bl) ++ tg)).length = (tot + 27) from (by rw [List.length_append, (show ((((numK 8 rq 8) ++ numK 1 (4:UInt64) 1) ++ numK 1 (0:UInt64) 1) ++ numK 1 (bitU (chB (0:Int) (4:Int) true)) 1).length = 11 from (by rw [List.length_append, (show (((numK 8 rq 8) ++ numK 1 (4:UInt64) 1) ++ numK 1 (0:UInt64) 1).length = 10 from (by rw [List.length_append, (show ((numK 8 rq 8) ++ numK 1 (4:UInt64) 1).length = 9 from (by rw [List.length_append, (show (numK 8 rq 8).length = 8 from (AZ _ _ _)), AZ] <;> omega)), AZ] <;> omega)), AZ] <;> omega)), (show ((tktT pv ep k l ls bl) ++ tg).length = (tot + 16) from (by rw [List.length_append, ((FM hl hls).trans htot), htg]))] <;> omega)) hc16 hc17 hc18 (by omega) hlha (by omega) (by omega) (by omega) (hrha.at (M' := [nb2, nb8]) hw1 (hw1.apart [2, 3] _ rfl)) (by omega) (by omega))) rfl ?_
 rintro v1 L1 ⟨_, ⟨rfl, nb9, sp7, cp7, rfl, hc19, hc20, hc21⟩, rfl⟩
 show JL _ _ _ _ ((93, .tuple #[]) :: _) [_, _, (Ez nb2 [.nilIface, Slc nb9 0 (32*nha + tot + 29) cp7] 149), (Ez nb9 (cu8 (((((((numK 8 rq 8) ++ numK 1 (4:UInt64) 1) ++ numK 1 (0:UInt64) 1) ++ numK 1 (bitU (chB (0:Int) (4:Int) true)) 1) ++ ((tktT pv ep k l ls bl) ++ tg)) ++ numK 2 (UInt64.ofNat nha) 2) ++ xha) ++ sp7) 5)]
 refine AJ (AD (AF (AF (AC (AA _ (AG rfl) rfl ?_)))))
 refine AJ (AD (CH _ rfl (by decide +kernel) ?_))
 refine AC (AA _ (AG rfl) rfl ?_)
 refine AA (Ptr nb1 28) (AB 28 65 1 AK rfl CI rfl rfl) rfl (AA _ (AL rfl (AX D3 (AR 0 rfl (Seg.right 27 1 (by simp [htg]) rfl (AH (Seg.head)))))) rfl ?_)
 refine A2 (BD 98 _ [false, false, true, true] [nb2, nb9] _ (AV _ Tryd.call98 rfl) rfl (fun w1 hw1 => hashesO_c nb2 nb9 (32*nha + tot + 29) cp7 (32*nha + 32*nhb + tot + 31) .nilIface (((((((numK 8 rq 8) ++ numK 1 (4:UInt64) 1) ++ numK 1 (0:UInt64) 1) ++ numK 1 (bitU (chB (0:Int) (4:Int) true)) 1) ++ ((tktT pv ep k l ls bl) ++ tg)) ++ numK 2 (UInt64.ofNat nha) 2) ++ xha) sp7 ahb nhb chb xhb w1 (hw1.en 2 rfl) (hw1.en 3 rfl) (hw1.ne (i := 2) (j := 3) rfl rfl (by decide)) (show (((((((numK 8 rq 8) ++ numK 1 (4:UInt64) 1) ++ numK 1 (0:UInt64) 1) ++ numK 1 (bitU (chB (0:Int) (4:Int) true)) 1) ++ ((tktT pv ep k l ls bl) ++ tg)) ++ numK 2 (UInt64.ofNat nha) 2) ++ xha).length = (32*nha + tot + 29) from (by rw [List.length_append, List.length_append, AZ, (show (((((numK 8 rq 8) ++ numK 1 (4:UInt64) 1) ++ numK 1 (0:UInt64) 1) ++ numK 1 (bitU (chB (0:Int) (4:Int) true)) 1) ++ ((tktT pv ep k l ls bl) ++ tg)).length = (tot + 27) from (by rw [List.length_append, (show ((((numK 8 rq 8) ++ numK 1 (4:UInt64) 1) ++ numK 1 (0:UInt64) 1) ++ numK 1 (bitU (chB (0:Int) (4:Int) true)) 1).length = 11 from (by rw [List.length_append, (show (((numK 8 rq 8) ++ numK 1 (4:UInt64) 1) ++ numK 1 (0:UInt64) 1).length = 10 from (by rw [List.length_append, (show ((numK 8 rq 8) ++ numK 1 (4:UInt64) 1).length = 9 from (by rw [List.length_append, (show (numK 8 rq 8).length = 8 from (AZ _ _ _)), AZ] <;> omega)), AZ] <;> omega)), AZ] <;> omega)), (show ((tktT pv ep k l ls bl) ++ tg).length = (tot + 16) from (by rw [List.length_append, ((FM hl hls).trans htot), htg]))] <;> omega)), hlha] <;> omega)) hc19 hc20 hc21 (by omega) hlhb (by omega) (by omega) (by omega) (hrhb.at (M' := [nb2, nb9]) hw1 (hw1.apart [2, 3] _ rfl)) (by omega) (by omega))) rfl ?_
 rintro v1 L1 ⟨_, ⟨rfl, nb10, sp8, cp8, rfl, hc22, hc23, hc24⟩, rfl⟩
 show JL _ _ _ _ ((98, .tuple #[]) :: _) [_, _, (Ez nb2 [.nilIface, Slc nb10 0 (32*nha + 32*nhb + tot + 31) cp8] 149), (Ez nb10 (cu8 (((((((((numK 8 rq 8) ++ numK 1 (4:UInt64) 1) ++ numK 1 (0:UInt64) 1) ++ numK 1 (bitU (chB (0:Int) (4:Int) true)) 1) ++ ((tktT pv ep k l ls bl) ++ tg)) ++ numK 2 (UInt64.ofNat nha) 2) ++ xha) ++ numK 2 (UInt64.ofNat nhb) 2) ++ xhb) ++ sp8) 5)]
 refine AJ (AD (AF (AC (AA _ (AG rfl) rfl ?_))))
 refine A2 (C6 83 _ _ (AV _ E4 rfl) (fun w1 hw1 => F8 nb2 0 nb10 (32*nha + 32*nhb + tot + 31) cp8 (((((((((numK 8 rq 8) ++ numK 1 (4:UInt64) 1) ++ numK 1 (0:UInt64) 1) ++ numK 1 (bitU (chB (0:Int) (4:Int) true)) 1) ++ ((tktT pv ep k l ls bl) ++ tg)) ++ numK 2 (UInt64.ofNat nha) 2) ++ xha) ++ numK 2 (UInt64.ofNat nhb) 2) ++ xhb) w1 (RdA.of hw1 (AR 2 rfl (AN _)) (by simp)) rfl (show (((((((((numK 8 rq 8) ++ numK 1 (4:UInt64) 1) ++ numK 1 (0:UInt64) 1) ++ numK 1 (bitU (chB (0:Int) (4:Int) true)) 1) ++ ((tktT pv ep k l ls bl) ++ tg)) ++ numK 2 (UInt64.ofNat nha) 2) ++ xha) ++ numK 2 (UInt64.ofNat nhb) 2) ++ xhb).length = (32*nha + 32*nhb + tot + 31) from (by rw [List.length_append, List.length_append, AZ, (show (((((((numK 8 rq 8) ++ numK 1 (4:UInt64) 1) ++ numK 1 (0:UInt64) 1) ++ numK 1 (bitU (chB (0:Int) (4:Int) true)) 1) ++ ((tktT pv ep k l ls bl) ++ tg)) ++ numK 2 (UInt64.ofNat nha) 2) ++ xha).length = (32*nha + tot + 29) from (by rw [List.length_append, List.length_append, AZ, (show (((((numK 8 rq 8) ++ numK 1 (4:UInt64) 1) ++ numK 1 (0:UInt64) 1) ++ numK 1 (bitU (chB (0:Int) (4:Int) true)) 1) ++ ((tktT pv ep k l ls bl) ++ tg)).length = (tot + 27) from (by rw [List.length_append, (show ((((numK 8 rq 8) ++ numK 1 (4:UInt64) 1) ++ numK 1 (0:UInt64) 1) ++ numK 1 (bitU (chB (0:Int) (4:Int) true)) 1).length = 11 from (by rw [List.length_append, (show (((numK 8 rq 8) ++ numK 1 (4:UInt64) 1) ++ numK 1 (0:UInt64) 1).length = 10 from (by rw [List.length_append, (show ((numK 8 rq 8) ++ numK 1 (4:UInt64) 1).length = 9 from (by rw [List.length_append, (show (numK 8 rq 8).length = 8 from (AZ _ _ _)), AZ] <;> omega)), AZ] <;> omega)), AZ] <;> omega)), (show ((tktT pv ep k l ls bl) ++ tg).length = (tot + 16) from (by rw [List.length_append, ((FM hl hls).trans htot), htg]))] <;> omega)), hlha] <;> omega)), hlhb] <;> omega)) (by omega) (RdB.of hw1 (AR 3 rfl (AI (AN _))) (by simp)))) rfl ?_
 rintro v1 L1 ⟨_, ⟨nb11, sp9, cp9, rfl, rfl, hc25, hc26, hc27⟩, rfl⟩
 show JL _ _ _ _ ((100, .tuple #[Slc nb11 0 (32*nha + 32*nhb + tot + 31) cp9, .nilIface]) :: _) [_, _, _, _, (Ez nb11 (cu8 (((((((((numK 8 rq 8) ++ numK 1 (4:UInt64) 1) ++ numK 1 (0:UInt64) 1) ++ numK 1 (bitU (chB (0:Int) (4:Int) true)) 1) ++ ((tktT pv ep k l ls bl) ++ tg)) ++ numK 2 (UInt64.ofNat nha) 2) ++ xha) ++ numK 2 (UInt64.ofNat nhb) 2) ++ xhb) ++ sp9) 5)]
 refine AA _ (BI rfl rfl) rfl (AA _ (BI rfl rfl) rfl (AA _ (AE rfl) rfl (AA _ (AE rfl) rfl ?_)))
 refine AJ (AD (BK (CD [false, false, false, false, true] ?_)))
 show JQ _ _ _ _ [_]
 refine BJ (.tuple #[Slc nb11 0 (32*nha + 32*nhb + tot + 31) cp9, .nilIface]) (res2 Tryd.results34 (BF rfl) (BF rfl)) fun w1 hw1 => ?_
 have hq : ((((((((numK 8 rq 8) ++ numK 1 (4:UInt64) 1) ++ numK 1 (0:UInt64) 1) ++ numK 1 (bitU (chB (0:Int) (4:Int) true)) 1) ++ ((tktT pv ep k l ls bl) ++ tg)) ++ numK 2 (UInt64.ofNat nha) 2) ++ xha) ++ numK 2 (UInt64.ofNat nhb) 2) ++ xhb = (((((((numK 8 rq 8 ++ numK 1 (4:UInt64) 1) ++ numK 1 (0:UInt64) 1) ++ numK 1 (bitU true) 1) ++ ((tktT pv ep k l ls bl) ++ tg)) ++ numK 2 (UInt64.ofNat nha) 2) ++ xha) ++ numK 2 (UInt64.ofNat nhb) 2) ++ xhb := by simp only [List.append_assoc, show chB 0 4 true = true from by decide +kernel]
 rw [hq] at hw1
 exact ⟨_, _, rfl, ⟨nb11, sp9, cp9, rfl, rfl, hc25, hc26, hc27⟩, hw1.sub (by simp) (by simp)⟩
set_option maxHeartbeats 2000000 in
theorem putRep4f_c (rq : UInt64) (aj : Option Addr) (nj cj : Nat) (lj : List ItemR) (pv ep : UInt64) (kd : Int) (ai : Option Addr) (ni ci : Nat) (l : List UInt64) (sa : Option Addr) (ns sc : Nat) (ls : List SealR) (bl : UInt64) (tg : List UInt8) (aha : Option Addr) (nha cha : Nat) (xha : List UInt8) (ahb : Option Addr) (nhb chb : Nat) (xhb : List UInt8)  (w : World) (hlj : lj.length = nj) (hnj : nj ≤ 2000000) (hdj : nj ≤ cj) (hcj : cj ≤ maxLen) (hj : RdV w aj (lj.flatMap itemC)) (hl : l.length = ni) (hnm : ni ≤ 2000000) (hnc : ni ≤ ci) (hcm : ci ≤ maxLen) (hv : RdV w ai (cu64 l)) (hls : ls.length = ns) (hnn : ns ≤ 2000000) (hnd : ns ≤ sc) (hcn : sc ≤ maxLen) (hs : RdV w sa (ls.flatMap sealC)) (htg : tg.length = 16) (hlha : xha.length = nha * 32) (hnha : nha ≤ 9000) (hdha : nha ≤ cha) (hcha : cha ≤ maxLen) (hrha : RdB w [] aha xha) (hlhb : xhb.length = nhb * 32) (hnhb : nhb ≤ 9000) (hdhb : nhb ≤ chb) (hchb : chb ≤ maxLen) (hrhb : RdB w [] ahb xhb) (hbi : ni ≤ 300) (hbs : ns ≤ 300) (hA : nha ≤ 300) (hB : nhb ≤ 8192) (hR : repR (4:Int) (0:Int) false lj (blankB pv ep kd l ls bl tg) (decide (mayN pv ep kd l ls bl = 0)) nha nhb = true)  : Calls Tryd.prog 34 #[.agg (V0 rq 4 0 aj nj cj false pv ep (kd) ai ni ci sa ns sc bl tg aha nha cha ahb nhb chb).toArray] w (Post w [] (fun v L => ∃ g sp cap, v = .tuple #[Slc g 0 (11) cap, .nilIface] ∧ L = [(Ez g (cu8 (((numK 8 rq 8 ++ numK 1 (4:UInt64) 1) ++ numK 1 (0:UInt64) 1) ++ numK 1 (bitU false) 1) ++ sp) 5)] ∧ sp.length = cap - 11 ∧ 11 ≤ cap ∧ cap ≤ maxLen)) := by
 have hmx : maxLen = 9223372036854775807 := rfl
 have hf := repR_f hlj hR
 have hn0 := c2_len0 hlj (repR_2 hR (by decide +kernel))
 refine enter (P := Tryd.prog) (f := 34) (fn := Tryd.f34) w [] 103 [] [.agg (V0 rq 4 0 aj nj cj false pv ep (kd) ai ni ci sa ns sc bl tg aha nha cha ahb nhb chb).toArray] Tryd.func34 rfl rfl (by simp) (BZ (by simp) (by simp) (by simp)) ?_
 show JC _ _ _ [(0, .agg (V0 rq 4 0 aj nj cj false pv ep (kd) ai ni ci sa ns sc bl tg aha nha cha ahb nhb chb).toArray)] _
 refine AF (AC (A2 (CN (.agg (V0 rq 4 0 aj nj cj false pv ep (kd) ai ni ci sa ns sc bl tg aha nha cha ahb nhb chb).toArray) (V0 rq 4 0 aj nj cj false pv ep (kd) ai ni ci sa ns sc bl tg aha nha cha ahb nhb chb) rfl (by first | rfl | simp)) rfl ?_))
 rintro v1 L1 ⟨nb1, hnb1, rfl, rfl⟩
 show JL _ _ _ _ (_ :: _) [_]
 refine AA _ (AE rfl) rfl (AA _ (AE rfl) rfl ?_)
 refine AJ (AD (AF (AF (AC (AA _ (AL rfl (BR B8 BQ (by simp [htg]) (AR 0 rfl (AN _)))) rfl ?_)))))
 refine A7 (A3 35 _ (.bool (repR (4:Int) (0:Int) false lj (blankB pv ep (kd) l ls bl tg) (decide (mayN pv ep (kd) l ls bl = 0)) nha nhb)) (AV _ Tryd.call35 rfl) (fun w1 hw1 => FB rq (4:Int) (0:Int) aj nj cj lj false pv ep (kd) ai ni ci l sa ns sc ls bl tg aha nha cha xha ahb nhb chb xhb w1 hlj (by omega) (by omega) (by omega) (CF hw1 rfl hj) hl (by omega) (by omega) (by omega) (CF hw1 rfl hv) hls (by omega) (by omega) (by omega) (CF hw1 rfl hs) htg hlha (by omega) (by omega) (by omega) (hrha.at (M' := []) hw1 (by simp)) hlhb (by omega) (by omega) (by omega) (hrhb.at (M' := []) hw1 (by simp)) (by omega) (by omega))) rfl ?_
 show JL _ _ _ _ ((14, .bool (repR (4:Int) (0:Int) false lj (blankB pv ep (kd) l ls bl tg) (decide (mayN pv ep (kd) l ls bl = 0)) nha nhb)) :: _) [_]
 refine AA (.bool (!(repR (4:Int) (0:Int) false lj (blankB pv ep (kd) l ls bl tg) (decide (mayN pv ep (kd) l ls bl = 0)) nha nhb))) (D1 rfl) rfl ?_
 refine AJ (AD (BT _ rfl (bnotT hR) ?_))
 refine BH (AD (AF (AC (AA _ (AL rfl (BR B8 BQ (by simp [htg]) (AR 0 rfl (AN _)))) rfl ?_))))
 refine A7 (A3 95 _ (.tuple #[.bool (itB (0:Int) (4:Int)), .bool (chB (0:Int) (4:Int) false), .bool (aB (0:Int) (4:Int) false), .bool (bB (0:Int) (4:Int) false)]) (AV _ Tryd.call95 rfl) (fun w1 hw1 => parts_c rq (4:Int) (0:Int) aj nj cj lj false pv ep (kd) ai ni ci l sa ns sc ls bl tg aha nha cha xha ahb nhb chb xhb w1 htg)) rfl ?_
 show JL _ _ _ _ ((19, .tuple #[.bool (itB (0:Int) (4:Int)), .bool (chB (0:Int) (4:Int) false), .bool (aB (0:Int) (4:Int) false), .bool (bB (0:Int) (4:Int) false)]) :: _) [_]
 refine AA _ (AG rfl) rfl (AA _ (BI rfl rfl) rfl (AA _ (BI rfl rfl) rfl (AA _ (BI rfl rfl) rfl (AA _ (BI rfl rfl) rfl (AA _ (AE rfl) rfl (AA _ (AE rfl) rfl (AA _ (AE rfl) rfl (AA _ (AE rfl) rfl ?_))))))))
 refine AJ (AD (AF (AC (AA (.agg #[.nilIface, SL none 0 0]) (CY [] _ rfl (fun _ => by kernel_rfl)) rfl ?_))))
 refine A2 (CN (.agg #[.nilIface, SL none 0 0]) ([.nilIface, SL none 0 0]) rfl (by first | rfl | simp)) rfl ?_
 rintro v1 L1 ⟨nb2, hnb2, rfl, rfl⟩
 show JL _ _ _ _ (_ :: _) [_, _]
 refine AA _ (AE rfl) rfl ?_
 refine AJ (AD (AF (DB 103 4 [(0, Ptr nb2 0), (1, Ptr nb1 0), (2, U64 rq), (4, Ptr nb1 1), (5, I64 4), (6, U64 4), (8, Ptr nb1 2), (9, I64 0), (10, U64 0)] B6 rfl (by decide +kernel) ?_)))
 refine C2 ⟨[], [0, 1, 2, 4, 5, 6, 8, 9, 10], [], [0, 1, 2, 4, 5, 6, 8, 9, 10], [3]⟩ 3 _ rfl rfl (by decide +kernel) rfl ⟨CB rfl rfl rfl, AP rfl rfl (AB 0 22 1 AK rfl A1 rfl rfl), AP rfl rfl (AL rfl (AX A8 (AR 0 rfl (AI (AI (Seg.head)))))), AP rfl rfl (AB 1 3 1 AK rfl AW rfl rfl), AP rfl rfl (AL rfl (AX A0 (AR 0 rfl (AI (AI (AH (Seg.head))))))), AP rfl rfl (CV _ _ rfl fun _ => DX (by rw [A4]; rfl) AU rfl), AP rfl rfl (AB 2 3 1 AK rfl AW rfl rfl), AP rfl rfl (AL rfl (AX A0 (AR 0 rfl (AI (AI (AH (AH (Seg.head)))))))), AP rfl rfl (CV _ _ rfl fun _ => DX (by rw [A4]; rfl) AU rfl), trivial⟩ rfl (BO rfl (BD 81 _ [false, true] [nb2] _ (AV _ B9 rfl) rfl (fun w1 hw1 => numN_c nb2 8 .nilIface rq 8 w1 (hw1.en 1 rfl) (by unfold Szd; omega) (fun h => absurd h (by omega)) (by omega)))) ?_
 rintro v1 L1 ⟨_, ⟨rfl, nb3, sp1, cp1, rfl, hc1, hc2, hc3⟩, rfl⟩
 refine ⟨[], ?_⟩
 show DP _ _ _ _ _ _ _ _ [_, (Ez nb2 [.nilIface, Slc nb3 0 8 cp1] 149), (Ez nb3 (cu8 (numK 8 rq 8) ++ sp1) 5)]
 refine C2 ⟨[3], [0, 1, 2, 4, 5, 6, 8, 9, 10], [0, 1, 2], [4, 5, 6, 8, 9, 10], [7]⟩ 7 _ rfl rfl (by decide +kernel) rfl ⟨AP rfl rfl (AB 1 3 1 AK rfl AW rfl rfl), AP rfl rfl (AL rfl (AX A0 (AR 0 rfl (AI (AI (AH (Seg.head))))))), AP rfl rfl (CV _ _ rfl fun _ => DX (by rw [A4]; rfl) AU rfl), AP rfl rfl (AB 2 3 1 AK rfl AW rfl rfl), AP rfl rfl (AL rfl (AX A0 (AR 0 rfl (AI (AI (AH (AH (Seg.head)))))))), AP rfl rfl (CV _ _ rfl fun _ => DX (by rw [A4]; rfl) AU rfl), trivial⟩ rfl (BO rfl (BD 81 _ [false, true, true] [nb2, nb3] _ (AV _ B9 rfl) rfl (fun w1 hw1 => E1 nb2 nb3 8 cp1 9 .nilIface (numK 8 rq 8) sp1 (4:UInt64) 1 w1 (hw1.en 1 rfl) (hw1.en 2 rfl) (hw1.ne (i := 1) (j := 2) rfl rfl (by decide)) (show (numK 8 rq 8).length = 8 from (AZ _ _ _)) hc1 hc2 hc3 (by omega) (by unfold Szd; omega) (fun _ => by decide) (by omega)))) ?_
 rintro v1 L1 ⟨_, ⟨rfl, nb4, sp2, cp2, rfl, hc4, hc5, hc6⟩, rfl⟩
 refine ⟨[], ?_⟩
 show DP _ _ _ _ _ _ _ _ [_, (Ez nb2 [.nilIface, Slc nb4 0 9 cp2] 149), (Ez nb4 (cu8 ((numK 8 rq 8) ++ numK 1 (4:UInt64) 1) ++ sp2) 5)]
 refine C2 ⟨[3, 7], [0, 1, 2, 4, 5, 6, 8, 9, 10], [0, 1, 2, 4, 5, 6], [8, 9, 10], [11]⟩ 11 _ rfl rfl (by decide +kernel) rfl ⟨AP rfl rfl (AB 2 3 1 AK rfl AW rfl rfl), AP rfl rfl (AL rfl (AX A0 (AR 0 rfl (AI (AI (AH (AH (Seg.head)))))))), AP rfl rfl (CV _ _ rfl fun _ => DX (by rw [A4]; rfl) AU rfl), trivial⟩ rfl (BO rfl (BD 81 _ [false, true, true] [nb2, nb4] _ (AV _ B9 rfl) rfl (fun w1 hw1 => E1 nb2 nb4 9 cp2 10 .nilIface ((numK 8 rq 8) ++ numK 1 (4:UInt64) 1) sp2 (0:UInt64) 1 w1 (hw1.en 1 rfl) (hw1.en 2 rfl) (hw1.ne (i := 1) (j := 2) rfl rfl (by decide)) (show ((numK 8 rq 8) ++ numK 1 (4:UInt64) 1).length = 9 from (by rw [List.length_append, (show (numK 8 rq 8).length = 8 from (AZ _ _ _)), AZ] <;> omega)) hc4 hc5 hc6 (by omega) (by unfold Szd; omega) (fun _ => by decide) (by omega)))) ?_
 rintro v1 L1 ⟨_, ⟨rfl, nb5, sp3, cp3, rfl, hc7, hc8, hc9⟩, rfl⟩
 refine ⟨[], ?_⟩
 show DP _ _ _ _ _ _ _ _ [_, (Ez nb2 [.nilIface, Slc nb5 0 10 cp3] 149), (Ez nb5 (cu8 (((numK 8 rq 8) ++ numK 1 (4:UInt64) 1) ++ numK 1 (0:UInt64) 1) ++ sp3) 5)]
 refine DR ⟨[3, 7, 11], [0, 1, 2, 4, 5, 6, 8, 9, 10], [0, 1, 2, 4, 5, 6, 8, 9, 10], [], []⟩ rfl rfl (by decide +kernel) rfl trivial ?_
 refine C5 (F' := [(1, Ptr nb1 0), (2, SL none 0 0), (3, .nilIface), (4, .bool (itB (0:Int) (4:Int))), (5, .bool (chB (0:Int) (4:Int) false)), (6, .bool (aB (0:Int) (4:Int) false)), (7, .bool (bB (0:Int) (4:Int) false)), (8, Ptr nb2 0)]) (by kernel_rfl) ?_
 refine AD (AF (AF (AC (AA _ (AG rfl) rfl ?_))))
 refine AJ (AD (BT _ rfl (by decide +kernel) ?_))
 refine BH (AD (AF (AF (AC (AA (Ptr nb1 3) (AB 3 64 1 AK rfl C1 rfl rfl) rfl ?_)))))
 refine AA _ (AL rfl (AX DZ (AR 0 rfl (AI (AI (AH (AH (AH (Seg.head))))))))) rfl ?_
 refine AA (I64 nj) (DA B2 rfl) rfl (AA _ (AG rfl) rfl ?_)
 refine AJ (AD (B5 (EO (ι := Unit) (fun _ => [(1, Ptr nb1 0), (2, SL none 0 0), (3, .nilIface), (5, .bool (chB (0:Int) (4:Int) false)), (6, .bool (aB (0:Int) (4:Int) false)), (7, .bool (bB (0:Int) (4:Int) false)), (8, Ptr nb2 0), (47, SL aj nj cj), (48, I64 nj), (49, I64 0)]) (fun _ => [(Ez nb1 (V0 rq 4 0 aj nj cj false pv ep (kd) ai ni ci sa ns sc bl tg aha nha cha ahb nhb chb) 67), (Ez nb2 [.nilIface, Slc nb5 0 10 cp3] 149), (Ez nb5 (cu8 (((numK 8 rq 8) ++ numK 1 (4:UInt64) 1) ++ numK 1 (0:UInt64) 1) ++ sp3) 5)]) (fun _ => True) (fun _ => 1) () trivial (Sub.all rfl) rfl ?_)))
 rintro _ _
 show JC _ _ _ [_, _, _, _, _, _, _, _, _, _] [_, _, _]
 refine AF (AC (AA (.bool (decide ((0:Int) < ((nj:Int))))) (AT rfl rfl fun _ => CL _ _) rfl ?_))
 refine AJ (AD (AF (BT _ rfl (decide_eq_false (by omega)) ?_)))
 refine EF (BC (BC (CX (AD (AF (AF (AC (AA (Ptr nb1 2) (AB 2 3 1 AK rfl AW rfl rfl) rfl ?_))))))))
 refine AA _ (AL rfl (AX A0 (AR 0 rfl (AI (AI (AH (AH (Seg.head)))))))) rfl ?_
 refine AA (.bool (decide ((0:Int) = (0:Int)))) (AT rfl rfl fun _ => BP _ _) rfl ?_
 refine AA _ (AG rfl) rfl ?_
 refine AM 3 68 true _ (Ptr nb1 1) rfl rfl (by decide) (AB 1 3 1 AK rfl AW rfl rfl) rfl ?_
 refine AM 3 68 true _ _ rfl rfl (by decide) (AL rfl (AX A0 (AR 0 rfl (AI (AI (AH (Seg.head))))))) rfl ?_
 refine AM 3 68 true _ (.bool (decide ((4:Int) = (4:Int)))) rfl rfl (by decide) (AT rfl rfl fun _ => BP _ _) rfl ?_
 refine AA _ (BA _ rfl (by decide) rfl) rfl ?_
 refine AJ (AD (CH _ rfl (by decide) ?_))
 refine AC (AA _ (AG rfl) rfl ?_)
 refine AA _ (AG rfl) rfl ?_
 refine A2 (BD 96 _ [false, true, true] [nb2, nb5] _ (AV _ Tryd.call96 rfl) rfl (fun w1 hw1 => flagO_c nb2 nb5 10 cp3 11 .nilIface (((numK 8 rq 8) ++ numK 1 (4:UInt64) 1) ++ numK 1 (0:UInt64) 1) sp3 (chB (0:Int) (4:Int) false) w1 (hw1.en 1 rfl) (hw1.en 2 rfl) (hw1.ne (i := 1) (j := 2) rfl rfl (by decide)) (show (((numK 8 rq 8) ++ numK 1 (4:UInt64) 1) ++ numK 1 (0:UInt64) 1).length = 10 from (by rw [List.length_append, (show ((numK 8 rq 8) ++ numK 1 (4:UInt64) 1).length = 9 from (by rw [List.length_append, (show (numK 8 rq 8).length = 8 from (AZ _ _ _)), AZ] <;> omega)), AZ] <;> omega)) hc7 hc8 hc9 (by omega) (by omega))) rfl ?_
 rintro v1 L1 ⟨_, ⟨rfl, nb6, sp4, cp4, rfl, hc10, hc11, hc12⟩, rfl⟩
 show JL _ _ _ _ ((75, Ptr nb2 0) :: _) [_, (Ez nb2 [.nilIface, Slc nb6 0 11 cp4] 149), (Ez nb6 (cu8 ((((numK 8 rq 8) ++ numK 1 (4:UInt64) 1) ++ numK 1 (0:UInt64) 1) ++ numK 1 (bitU (chB (0:Int) (4:Int) false)) 1) ++ sp4) 5)]
 refine AJ (AD (AF (AF (AC (AA _ (AG rfl) rfl ?_)))))
 refine AJ (AD (BT _ rfl (by decide +kernel) ?_))
 refine BH (AD (AF (AF (AC (AA _ (AG rfl) rfl ?_)))))
 refine AJ (AD (BT _ rfl (by decide +kernel) ?_))
 refine BH (AD (AF (AF (AC (AA _ (AG rfl) rfl ?_)))))
 refine AJ (AD (BT _ rfl (by decide +kernel) ?_))
 refine BH (AD (AF (AC (AA _ (AG rfl) rfl ?_))))
 refine A2 (C6 83 _ _ (AV _ E4 rfl) (fun w1 hw1 => F8 nb2 0 nb6 11 cp4 ((((numK 8 rq 8) ++ numK 1 (4:UInt64) 1) ++ numK 1 (0:UInt64) 1) ++ numK 1 (bitU (chB (0:Int) (4:Int) false)) 1) w1 (RdA.of hw1 (AR 1 rfl (AN _)) (by simp)) rfl (show ((((numK 8 rq 8) ++ numK 1 (4:UInt64) 1) ++ numK 1 (0:UInt64) 1) ++ numK 1 (bitU (chB (0:Int) (4:Int) false)) 1).length = 11 from (by rw [List.length_append, (show (((numK 8 rq 8) ++ numK 1 (4:UInt64) 1) ++ numK 1 (0:UInt64) 1).length = 10 from (by rw [List.length_append, (show ((numK 8 rq 8) ++ numK 1 (4:UInt64) 1).length = 9 from (by rw [List.length_append, (show (numK 8 rq 8).length = 8 from (AZ _ _ _)), AZ] <;> omega)), AZ] <;> omega)), AZ] <;> omega)) (by omega) (RdB.of hw1 (AR 2 rfl (AI (AN _))) (by simp)))) rfl ?_
 rintro v1 L1 ⟨_, ⟨nb7, sp5, cp5, rfl, rfl, hc13, hc14, hc15⟩, rfl⟩
 show JL _ _ _ _ ((100, .tuple #[Slc nb7 0 11 cp5, .nilIface]) :: _) [_, _, _, (Ez nb7 (cu8 ((((numK 8 rq 8) ++ numK 1 (4:UInt64) 1) ++ numK 1 (0:UInt64) 1) ++ numK 1 (bitU (chB (0:Int) (4:Int) false)) 1) ++ sp5) 5)]
 refine AA _ (BI rfl rfl) rfl (AA _ (BI rfl rfl) rfl (AA _ (AE rfl) rfl (AA _ (AE rfl) rfl ?_)))
 refine AJ (AD (BK (CD [false, false, false, true] ?_)))
 show JQ _ _ _ _ [_]
 refine BJ (.tuple #[Slc nb7 0 11 cp5, .nilIface]) (res2 Tryd.results34 (BF rfl) (BF rfl)) fun w1 hw1 => ?_
 have hq : (((numK 8 rq 8) ++ numK 1 (4:UInt64) 1) ++ numK 1 (0:UInt64) 1) ++ numK 1 (bitU (chB (0:Int) (4:Int) false)) 1 = ((numK 8 rq 8 ++ numK 1 (4:UInt64) 1) ++ numK 1 (0:UInt64) 1) ++ numK 1 (bitU false) 1 := by simp only [List.append_assoc, show chB 0 4 false = false from by decide +kernel]
 rw [hq] at hw1
 exact ⟨_, _, rfl, ⟨nb7, sp5, cp5, rfl, rfl, hc13, hc14, hc15⟩, hw1.sub (by simp) (by simp)⟩
set_option maxHeartbeats 2000000 in
theorem putRep5_c (rq : UInt64) (aj : Option Addr) (nj cj : Nat) (lj : List ItemR) (th : Bool) (pv ep : UInt64) (kd : Int) (ai : Option Addr) (ni ci : Nat) (l : List UInt64) (sa : Option Addr) (ns sc : Nat) (ls : List SealR) (bl : UInt64) (tg : List UInt8) (aha : Option Addr) (nha cha : Nat) (xha : List UInt8) (ahb : Option Addr) (nhb chb : Nat) (xhb : List UInt8)  (w : World) (hlj : lj.length = nj) (hnj : nj ≤ 2000000) (hdj : nj ≤ cj) (hcj : cj ≤ maxLen) (hj : RdV w aj (lj.flatMap itemC)) (hl : l.length = ni) (hnm : ni ≤ 2000000) (hnc : ni ≤ ci) (hcm : ci ≤ maxLen) (hv : RdV w ai (cu64 l)) (hls : ls.length = ns) (hnn : ns ≤ 2000000) (hnd : ns ≤ sc) (hcn : sc ≤ maxLen) (hs : RdV w sa (ls.flatMap sealC)) (htg : tg.length = 16) (hlha : xha.length = nha * 32) (hnha : nha ≤ 9000) (hdha : nha ≤ cha) (hcha : cha ≤ maxLen) (hrha : RdB w [] aha xha) (hlhb : xhb.length = nhb * 32) (hnhb : nhb ≤ 9000) (hdhb : nhb ≤ chb) (hchb : chb ≤ maxLen) (hrhb : RdB w [] ahb xhb) (hbi : ni ≤ 300) (hbs : ns ≤ 300) (hA : nha ≤ 300) (hB : nhb ≤ 8192) (hR : repR (5:Int) (0:Int) th lj (blankB pv ep kd l ls bl tg) (decide (mayN pv ep kd l ls bl = 0)) nha nhb = true)  : Calls Tryd.prog 34 #[.agg (V0 rq 5 0 aj nj cj th pv ep (kd) ai ni ci sa ns sc bl tg aha nha cha ahb nhb chb).toArray] w (Post w [] (fun v L => ∃ g sp cap, v = .tuple #[Slc g 0 (10) cap, .nilIface] ∧ L = [(Ez g (cu8 ((numK 8 rq 8 ++ numK 1 (5:UInt64) 1) ++ numK 1 (0:UInt64) 1) ++ sp) 5)] ∧ sp.length = cap - 10 ∧ 10 ≤ cap ∧ cap ≤ maxLen)) := by
 have hmx : maxLen = 9223372036854775807 := rfl
 have hf := repR_f hlj hR
 have hn0 := c2_len0 hlj (repR_2 hR (by decide +kernel))
 refine enter (P := Tryd.prog) (f := 34) (fn := Tryd.f34) w [] 103 [] [.agg (V0 rq 5 0 aj nj cj th pv ep (kd) ai ni ci sa ns sc bl tg aha nha cha ahb nhb chb).toArray] Tryd.func34 rfl rfl (by simp) (BZ (by simp) (by simp) (by simp)) ?_
 show JC _ _ _ [(0, .agg (V0 rq 5 0 aj nj cj th pv ep (kd) ai ni ci sa ns sc bl tg aha nha cha ahb nhb chb).toArray)] _
 refine AF (AC (A2 (CN (.agg (V0 rq 5 0 aj nj cj th pv ep (kd) ai ni ci sa ns sc bl tg aha nha cha ahb nhb chb).toArray) (V0 rq 5 0 aj nj cj th pv ep (kd) ai ni ci sa ns sc bl tg aha nha cha ahb nhb chb) rfl (by first | rfl | simp)) rfl ?_))
 rintro v1 L1 ⟨nb1, hnb1, rfl, rfl⟩
 show JL _ _ _ _ (_ :: _) [_]
 refine AA _ (AE rfl) rfl (AA _ (AE rfl) rfl ?_)
 refine AJ (AD (AF (AF (AC (AA _ (AL rfl (BR B8 BQ (by simp [htg]) (AR 0 rfl (AN _)))) rfl ?_)))))
 refine A7 (A3 35 _ (.bool (repR (5:Int) (0:Int) th lj (blankB pv ep (kd) l ls bl tg) (decide (mayN pv ep (kd) l ls bl = 0)) nha nhb)) (AV _ Tryd.call35 rfl) (fun w1 hw1 => FB rq (5:Int) (0:Int) aj nj cj lj th pv ep (kd) ai ni ci l sa ns sc ls bl tg aha nha cha xha ahb nhb chb xhb w1 hlj (by omega) (by omega) (by omega) (CF hw1 rfl hj) hl (by omega) (by omega) (by omega) (CF hw1 rfl hv) hls (by omega) (by omega) (by omega) (CF hw1 rfl hs) htg hlha (by omega) (by omega) (by omega) (hrha.at (M' := []) hw1 (by simp)) hlhb (by omega) (by omega) (by omega) (hrhb.at (M' := []) hw1 (by simp)) (by omega) (by omega))) rfl ?_
 show JL _ _ _ _ ((14, .bool (repR (5:Int) (0:Int) th lj (blankB pv ep (kd) l ls bl tg) (decide (mayN pv ep (kd) l ls bl = 0)) nha nhb)) :: _) [_]
 refine AA (.bool (!(repR (5:Int) (0:Int) th lj (blankB pv ep (kd) l ls bl tg) (decide (mayN pv ep (kd) l ls bl = 0)) nha nhb))) (D1 rfl) rfl ?_
 refine AJ (AD (BT _ rfl (bnotT hR) ?_))
 refine BH (AD (AF (AC (AA _ (AL rfl (BR B8 BQ (by simp [htg]) (AR 0 rfl (AN _)))) rfl ?_))))
 refine A7 (A3 95 _ (.tuple #[.bool (itB (0:Int) (5:Int)), .bool (chB (0:Int) (5:Int) th), .bool (aB (0:Int) (5:Int) th), .bool (bB (0:Int) (5:Int) th)]) (AV _ Tryd.call95 rfl) (fun w1 hw1 => parts_c rq (5:Int) (0:Int) aj nj cj lj th pv ep (kd) ai ni ci l sa ns sc ls bl tg aha nha cha xha ahb nhb chb xhb w1 htg)) rfl ?_
 show JL _ _ _ _ ((19, .tuple #[.bool (itB (0:Int) (5:Int)), .bool (chB (0:Int) (5:Int) th), .bool (aB (0:Int) (5:Int) th), .bool (bB (0:Int) (5:Int) th)]) :: _) [_]
 refine AA _ (AG rfl) rfl (AA _ (BI rfl rfl) rfl (AA _ (BI rfl rfl) rfl (AA _ (BI rfl rfl) rfl (AA _ (BI rfl rfl) rfl (AA _ (AE rfl) rfl (AA _ (AE rfl) rfl (AA _ (AE rfl) rfl (AA _ (AE rfl) rfl ?_))))))))
 refine AJ (AD (AF (AC (AA (.agg #[.nilIface, SL none 0 0]) (CY [] _ rfl (fun _ => by kernel_rfl)) rfl ?_))))
 refine A2 (CN (.agg #[.nilIface, SL none 0 0]) ([.nilIface, SL none 0 0]) rfl (by first | rfl | simp)) rfl ?_
 rintro v1 L1 ⟨nb2, hnb2, rfl, rfl⟩
 show JL _ _ _ _ (_ :: _) [_, _]
 refine AA _ (AE rfl) rfl ?_
 refine AJ (AD (AF (DB 103 4 [(0, Ptr nb2 0), (1, Ptr nb1 0), (2, U64 rq), (4, Ptr nb1 1), (5, I64 5), (6, U64 5), (8, Ptr nb1 2), (9, I64 0), (10, U64 0)] B6 rfl (by decide +kernel) ?_)))
 refine C2 ⟨[], [0, 1, 2, 4, 5, 6, 8, 9, 10], [], [0, 1, 2, 4, 5, 6, 8, 9, 10], [3]⟩ 3 _ rfl rfl (by decide +kernel) rfl ⟨CB rfl rfl rfl, AP rfl rfl (AB 0 22 1 AK rfl A1 rfl rfl), AP rfl rfl (AL rfl (AX A8 (AR 0 rfl (AI (AI (Seg.head)))))), AP rfl rfl (AB 1 3 1 AK rfl AW rfl rfl), AP rfl rfl (AL rfl (AX A0 (AR 0 rfl (AI (AI (AH (Seg.head))))))), AP rfl rfl (CV _ _ rfl fun _ => DX (by rw [A4]; rfl) AU rfl), AP rfl rfl (AB 2 3 1 AK rfl AW rfl rfl), AP rfl rfl (AL rfl (AX A0 (AR 0 rfl (AI (AI (AH (AH (Seg.head)))))))), AP rfl rfl (CV _ _ rfl fun _ => DX (by rw [A4]; rfl) AU rfl), trivial⟩ rfl (BO rfl (BD 81 _ [false, true] [nb2] _ (AV _ B9 rfl) rfl (fun w1 hw1 => numN_c nb2 8 .nilIface rq 8 w1 (hw1.en 1 rfl) (by unfold Szd; omega) (fun h => absurd h (by omega)) (by omega)))) ?_
 rintro v1 L1 ⟨_, ⟨rfl, nb3, sp1, cp1, rfl, hc1, hc2, hc3⟩, rfl⟩
 refine ⟨[], ?_⟩
 show DP _ _ _ _ _ _ _ _ [_, (Ez nb2 [.nilIface, Slc nb3 0 8 cp1] 149), (Ez nb3 (cu8 (numK 8 rq 8) ++ sp1) 5)]
 refine C2 ⟨[3], [0, 1, 2, 4, 5, 6, 8, 9, 10], [0, 1, 2], [4, 5, 6, 8, 9, 10], [7]⟩ 7 _ rfl rfl (by decide +kernel) rfl ⟨AP rfl rfl (AB 1 3 1 AK rfl AW rfl rfl), AP rfl rfl (AL rfl (AX A0 (AR 0 rfl (AI (AI (AH (Seg.head))))))), AP rfl rfl (CV _ _ rfl fun _ => DX (by rw [A4]; rfl) AU rfl), AP rfl rfl (AB 2 3 1 AK rfl AW rfl rfl), AP rfl rfl (AL rfl (AX A0 (AR 0 rfl (AI (AI (AH (AH (Seg.head)))))))), AP rfl rfl (CV _ _ rfl fun _ => DX (by rw [A4]; rfl) AU rfl), trivial⟩ rfl (BO rfl (BD 81 _ [false, true, true] [nb2, nb3] _ (AV _ B9 rfl) rfl (fun w1 hw1 => E1 nb2 nb3 8 cp1 9 .nilIface (numK 8 rq 8) sp1 (5:UInt64) 1 w1 (hw1.en 1 rfl) (hw1.en 2 rfl) (hw1.ne (i := 1) (j := 2) rfl rfl (by decide)) (show (numK 8 rq 8).length = 8 from (AZ _ _ _)) hc1 hc2 hc3 (by omega) (by unfold Szd; omega) (fun _ => by decide) (by omega)))) ?_
 rintro v1 L1 ⟨_, ⟨rfl, nb4, sp2, cp2, rfl, hc4, hc5, hc6⟩, rfl⟩
 refine ⟨[], ?_⟩
 show DP _ _ _ _ _ _ _ _ [_, (Ez nb2 [.nilIface, Slc nb4 0 9 cp2] 149), (Ez nb4 (cu8 ((numK 8 rq 8) ++ numK 1 (5:UInt64) 1) ++ sp2) 5)]
 refine C2 ⟨[3, 7], [0, 1, 2, 4, 5, 6, 8, 9, 10], [0, 1, 2, 4, 5, 6], [8, 9, 10], [11]⟩ 11 _ rfl rfl (by decide +kernel) rfl ⟨AP rfl rfl (AB 2 3 1 AK rfl AW rfl rfl), AP rfl rfl (AL rfl (AX A0 (AR 0 rfl (AI (AI (AH (AH (Seg.head)))))))), AP rfl rfl (CV _ _ rfl fun _ => DX (by rw [A4]; rfl) AU rfl), trivial⟩ rfl (BO rfl (BD 81 _ [false, true, true] [nb2, nb4] _ (AV _ B9 rfl) rfl (fun w1 hw1 => E1 nb2 nb4 9 cp2 10 .nilIface ((numK 8 rq 8) ++ numK 1 (5:UInt64) 1) sp2 (0:UInt64) 1 w1 (hw1.en 1 rfl) (hw1.en 2 rfl) (hw1.ne (i := 1) (j := 2) rfl rfl (by decide)) (show ((numK 8 rq 8) ++ numK 1 (5:UInt64) 1).length = 9 from (by rw [List.length_append, (show (numK 8 rq 8).length = 8 from (AZ _ _ _)), AZ] <;> omega)) hc4 hc5 hc6 (by omega) (by unfold Szd; omega) (fun _ => by decide) (by omega)))) ?_
 rintro v1 L1 ⟨_, ⟨rfl, nb5, sp3, cp3, rfl, hc7, hc8, hc9⟩, rfl⟩
 refine ⟨[], ?_⟩
 show DP _ _ _ _ _ _ _ _ [_, (Ez nb2 [.nilIface, Slc nb5 0 10 cp3] 149), (Ez nb5 (cu8 (((numK 8 rq 8) ++ numK 1 (5:UInt64) 1) ++ numK 1 (0:UInt64) 1) ++ sp3) 5)]
 refine DR ⟨[3, 7, 11], [0, 1, 2, 4, 5, 6, 8, 9, 10], [0, 1, 2, 4, 5, 6, 8, 9, 10], [], []⟩ rfl rfl (by decide +kernel) rfl trivial ?_
 refine C5 (F' := [(1, Ptr nb1 0), (2, SL none 0 0), (3, .nilIface), (4, .bool (itB (0:Int) (5:Int))), (5, .bool (chB (0:Int) (5:Int) th)), (6, .bool (aB (0:Int) (5:Int) th)), (7, .bool (bB (0:Int) (5:Int) th)), (8, Ptr nb2 0)]) (by kernel_rfl) ?_
 refine AD (AF (AF (AC (AA _ (AG rfl) rfl ?_))))
 refine AJ (AD (BT _ rfl (by decide +kernel) ?_))
 refine BH (AD (AF (AF (AC (AA (Ptr nb1 3) (AB 3 64 1 AK rfl C1 rfl rfl) rfl ?_)))))
 refine AA _ (AL rfl (AX DZ (AR 0 rfl (AI (AI (AH (AH (AH (Seg.head))))))))) rfl ?_
 refine AA (I64 nj) (DA B2 rfl) rfl (AA _ (AG rfl) rfl ?_)
 refine AJ (AD (B5 (EO (ι := Unit) (fun _ => [(1, Ptr nb1 0), (2, SL none 0 0), (3, .nilIface), (5, .bool (chB (0:Int) (5:Int) th)), (6, .bool (aB (0:Int) (5:Int) th)), (7, .bool (bB (0:Int) (5:Int) th)), (8, Ptr nb2 0), (47, SL aj nj cj), (48, I64 nj), (49, I64 0)]) (fun _ => [(Ez nb1 (V0 rq 5 0 aj nj cj th pv ep (kd) ai ni ci sa ns sc bl tg aha nha cha ahb nhb chb) 67), (Ez nb2 [.nilIface, Slc nb5 0 10 cp3] 149), (Ez nb5 (cu8 (((numK 8 rq 8) ++ numK 1 (5:UInt64) 1) ++ numK 1 (0:UInt64) 1) ++ sp3) 5)]) (fun _ => True) (fun _ => 1) () trivial (Sub.all rfl) rfl ?_)))
 rintro _ _
 show JC _ _ _ [_, _, _, _, _, _, _, _, _, _] [_, _, _]
 refine AF (AC (AA (.bool (decide ((0:Int) < ((nj:Int))))) (AT rfl rfl fun _ => CL _ _) rfl ?_))
 refine AJ (AD (AF (BT _ rfl (decide_eq_false (by omega)) ?_)))
 refine EF (BC (BC (CX (AD (AF (AF (AC (AA (Ptr nb1 2) (AB 2 3 1 AK rfl AW rfl rfl) rfl ?_))))))))
 refine AA _ (AL rfl (AX A0 (AR 0 rfl (AI (AI (AH (AH (Seg.head)))))))) rfl ?_
 refine AA (.bool (decide ((0:Int) = (0:Int)))) (AT rfl rfl fun _ => BP _ _) rfl ?_
 refine AA _ (AG rfl) rfl ?_
 refine AM 3 68 true _ (Ptr nb1 1) rfl rfl (by decide) (AB 1 3 1 AK rfl AW rfl rfl) rfl ?_
 refine AM 3 68 true _ _ rfl rfl (by decide) (AL rfl (AX A0 (AR 0 rfl (AI (AI (AH (Seg.head))))))) rfl ?_
 refine AM 3 68 true _ (.bool (decide ((5:Int) = (4:Int)))) rfl rfl (by decide) (AT rfl rfl fun _ => BP _ _) rfl ?_
 refine AA _ (BA _ rfl (by decide) rfl) rfl ?_
 refine AJ (AD (BT _ rfl (by decide) ?_))
 refine BH (AD (AF (AF (AC (AA _ (AG rfl) rfl ?_)))))
 refine AJ (AD (BT _ rfl ((by decide +kernel : ∀ t : Bool, (chB (0:Int) (5:Int) t) = false) th) ?_))
 refine BH (AD (AF (AF (AC (AA _ (AG rfl) rfl ?_)))))
 refine AJ (AD (BT _ rfl ((by decide +kernel : ∀ t : Bool, (aB (0:Int) (5:Int) t) = false) th) ?_))
 refine BH (AD (AF (AF (AC (AA _ (AG rfl) rfl ?_)))))
 refine AJ (AD (BT _ rfl ((by decide +kernel : ∀ t : Bool, (bB (0:Int) (5:Int) t) = false) th) ?_))
 refine BH (AD (AF (AC (AA _ (AG rfl) rfl ?_))))
 refine A2 (C6 83 _ _ (AV _ E4 rfl) (fun w1 hw1 => F8 nb2 0 nb5 10 cp3 (((numK 8 rq 8) ++ numK 1 (5:UInt64) 1) ++ numK 1 (0:UInt64) 1) w1 (RdA.of hw1 (AR 1 rfl (AN _)) (by simp)) rfl (show (((numK 8 rq 8) ++ numK 1 (5:UInt64) 1) ++ numK 1 (0:UInt64) 1).length = 10 from (by rw [List.length_append, (show ((numK 8 rq 8) ++ numK 1 (5:UInt64) 1).length = 9 from (by rw [List.length_append, (show (numK 8 rq 8).length = 8 from (AZ _ _ _)), AZ] <;> omega)), AZ] <;> omega)) (by omega) (RdB.of hw1 (AR 2 rfl (AI (AN _))) (by simp)))) rfl ?_
 rintro v1 L1 ⟨_, ⟨nb6, sp4, cp4, rfl, rfl, hc10, hc11, hc12⟩, rfl⟩
 show JL _ _ _ _ ((100, .tuple #[Slc nb6 0 10 cp4, .nilIface]) :: _) [_, _, _, (Ez nb6 (cu8 (((numK 8 rq 8) ++ numK 1 (5:UInt64) 1) ++ numK 1 (0:UInt64) 1) ++ sp4) 5)]
 refine AA _ (BI rfl rfl) rfl (AA _ (BI rfl rfl) rfl (AA _ (AE rfl) rfl (AA _ (AE rfl) rfl ?_)))
 refine AJ (AD (BK (CD [false, false, false, true] ?_)))
 show JQ _ _ _ _ [_]
 refine BJ (.tuple #[Slc nb6 0 10 cp4, .nilIface]) (res2 Tryd.results34 (BF rfl) (BF rfl)) fun w1 hw1 => ?_
 skip
 exact ⟨_, _, rfl, ⟨nb6, sp4, cp4, rfl, rfl, hc10, hc11, hc12⟩, hw1.sub (by simp) (by simp)⟩
theorem putRepB_c (rq : UInt64) (rk er : Int) (aj : Option Addr) (nj cj : Nat) (lj : List ItemR) (th : Bool) (pv ep : UInt64) (kd : Int) (ai : Option Addr) (ni ci : Nat) (l : List UInt64) (sa : Option Addr) (ns sc : Nat) (ls : List SealR) (bl : UInt64) (tg : List UInt8) (aha : Option Addr) (nha cha : Nat) (xha : List UInt8) (ahb : Option Addr) (nhb chb : Nat) (xhb : List UInt8)  (w : World) (hlj : lj.length = nj) (hnj : nj ≤ 2000000) (hdj : nj ≤ cj) (hcj : cj ≤ maxLen) (hj : RdV w aj (lj.flatMap itemC)) (hl : l.length = ni) (hnm : ni ≤ 2000000) (hnc : ni ≤ ci) (hcm : ci ≤ maxLen) (hv : RdV w ai (cu64 l)) (hls : ls.length = ns) (hnn : ns ≤ 2000000) (hnd : ns ≤ sc) (hcn : sc ≤ maxLen) (hs : RdV w sa (ls.flatMap sealC)) (htg : tg.length = 16) (hlha : xha.length = nha * 32) (hnha : nha ≤ 9000) (hdha : nha ≤ cha) (hcha : cha ≤ maxLen) (hrha : RdB w [] aha xha) (hlhb : xhb.length = nhb * 32) (hnhb : nhb ≤ 9000) (hdhb : nhb ≤ chb) (hchb : chb ≤ maxLen) (hrhb : RdB w [] ahb xhb) (hbi : ni ≤ 300) (hbs : ns ≤ 300) (hR : repR rk er th lj (blankB pv ep kd l ls bl tg) (decide (mayN pv ep kd l ls bl = 0)) nha nhb = false)  : Calls Tryd.prog 34 #[.agg (V0 rq (rk) (er) aj nj cj th pv ep (kd) ai ni ci sa ns sc bl tg aha nha cha ahb nhb chb).toArray] w (Post w [] (fun v L => v = .tuple #[SL none 0 0, .iface 50 (I64 2)] ∧ L = [])) := by
 have hmx : maxLen = 9223372036854775807 := rfl
 refine enter (P := Tryd.prog) (f := 34) (fn := Tryd.f34) w [] 103 [] [.agg (V0 rq (rk) (er) aj nj cj th pv ep (kd) ai ni ci sa ns sc bl tg aha nha cha ahb nhb chb).toArray] Tryd.func34 rfl rfl (by simp) (BZ (by simp) (by simp) (by simp)) ?_
 show JC _ _ _ [(0, .agg (V0 rq (rk) (er) aj nj cj th pv ep (kd) ai ni ci sa ns sc bl tg aha nha cha ahb nhb chb).toArray)] _
 refine AF (AC (A2 (CN (.agg (V0 rq (rk) (er) aj nj cj th pv ep (kd) ai ni ci sa ns sc bl tg aha nha cha ahb nhb chb).toArray) (V0 rq (rk) (er) aj nj cj th pv ep (kd) ai ni ci sa ns sc bl tg aha nha cha ahb nhb chb) rfl (by first | rfl | simp)) rfl ?_))
 rintro v1 L1 ⟨nb1, hnb1, rfl, rfl⟩
 show JL _ _ _ _ (_ :: _) [_]
 refine AA _ (AE rfl) rfl (AA _ (AE rfl) rfl ?_)
 refine AJ (AD (AF (AF (AC (AA _ (AL rfl (BR B8 BQ (by simp [htg]) (AR 0 rfl (AN _)))) rfl ?_)))))
 refine A7 (A3 35 _ (.bool (repR (rk) (er) th lj (blankB pv ep (kd) l ls bl tg) (decide (mayN pv ep (kd) l ls bl = 0)) nha nhb)) (AV _ Tryd.call35 rfl) (fun w1 hw1 => FB rq (rk) (er) aj nj cj lj th pv ep (kd) ai ni ci l sa ns sc ls bl tg aha nha cha xha ahb nhb chb xhb w1 hlj (by omega) (by omega) (by omega) (CF hw1 rfl hj) hl (by omega) (by omega) (by omega) (CF hw1 rfl hv) hls (by omega) (by omega) (by omega) (CF hw1 rfl hs) htg hlha (by omega) (by omega) (by omega) (hrha.at (M' := []) hw1 (by simp)) hlhb (by omega) (by omega) (by omega) (hrhb.at (M' := []) hw1 (by simp)) (by omega) (by omega))) rfl ?_
 show JL _ _ _ _ ((14, .bool (repR (rk) (er) th lj (blankB pv ep (kd) l ls bl tg) (decide (mayN pv ep (kd) l ls bl = 0)) nha nhb)) :: _) [_]
 refine AA (.bool (!(repR (rk) (er) th lj (blankB pv ep (kd) l ls bl tg) (decide (mayN pv ep (kd) l ls bl = 0)) nha nhb))) (D1 rfl) rfl ?_
 refine AJ (AD (CH _ rfl (bnotF hR) ?_))
 refine AF (AC (AA (.iface 50 (I64 2)) (DH BN rfl rfl) rfl ?_))
 refine AA _ (AE rfl) rfl (AA _ (AE rfl) rfl ?_)
 refine AJ (AD (BK (A6 (CD [false] ?_))))
 show JQ _ _ _ _ []
 refine BJ (.tuple #[SL none 0 0, .iface 50 (I64 2)]) (res2 Tryd.results34 (BF rfl) (BF rfl)) fun w1 hw1 => ?_
 exact ⟨_, [], rfl, ⟨rfl, rfl⟩, hw1.no⟩
attribute [local irreducible] repT LargeQ
theorem putRep_w (rq : UInt64) (rk er : Int) (aj : Option Addr) (nj cj : Nat) (lj : List ItemR) (th : Bool) (pv ep : UInt64) (kd : Int) (ai : Option Addr) (ni ci : Nat) (l : List UInt64) (sa : Option Addr) (ns sc : Nat) (ls : List SealR) (bl : UInt64) (tg : List UInt8) (aha : Option Addr) (nha cha : Nat) (xha : List UInt8) (ahb : Option Addr) (nhb chb : Nat) (xhb : List UInt8) (n : Nat) (w : World) (hlj : lj.length = nj) (hnj : nj ≤ 2000000) (hdj : nj ≤ cj) (hcj : cj ≤ maxLen) (hj : RdV w aj (lj.flatMap itemC)) (hl : l.length = ni) (hnm : ni ≤ 2000000) (hnc : ni ≤ ci) (hcm : ci ≤ maxLen) (hv : RdV w ai (cu64 l)) (hls : ls.length = ns) (hnn : ns ≤ 2000000) (hnd : ns ≤ sc) (hcn : sc ≤ maxLen) (hs : RdV w sa (ls.flatMap sealC)) (htg : tg.length = 16) (hlha : xha.length = nha * 32) (hnha : nha ≤ 9000) (hdha : nha ≤ cha) (hcha : cha ≤ maxLen) (hrha : RdB w [] aha xha) (hlhb : xhb.length = nhb * 32) (hnhb : nhb ≤ 9000) (hdhb : nhb ≤ chb) (hchb : chb ≤ maxLen) (hrhb : RdB w [] ahb xhb) (hbi : ni ≤ 300) (hbs : ns ≤ 300) (hA : nha ≤ 300) (hB : nhb ≤ 8192) (hR : repR rk er th lj (blankB pv ep kd l ls bl tg) (decide (mayN pv ep kd l ls bl = 0)) nha nhb = true) (hn : (repT rq rk er nj lj th pv ep kd l ls bl tg nha xha nhb xhb).length = n) : Calls Tryd.prog 34 #[.agg (V0 rq (rk) (er) aj nj cj th pv ep (kd) ai ni ci sa ns sc bl tg aha nha cha ahb nhb chb).toArray] w (Post w [] (fun v L => ∃ g sp cap, v = .tuple #[Slc g 0 n cap, .nilIface] ∧ L = [(Ez g (cu8 (repT rq rk er nj lj th pv ep kd l ls bl tg nha xha nhb xhb) ++ sp) 5)] ∧ sp.length = cap - n ∧ n ≤ cap ∧ cap ≤ maxLen)) := by
  obtain ⟨h1, h2, h3, h4⟩ := repR_f hlj hR
  by_cases hE : er = 0
  · subst hE
    obtain rfl | rfl | rfl | rfl | rfl : rk = 1 ∨ rk = 2 ∨ rk = 3 ∨ rk = 4 ∨ rk = 5 := by omega
    · have e : repT rq 1 0 nj lj th pv ep kd l ls bl tg nha xha nhb xhb = (((((numK 8 rq 8 ++ numK 1 (1:UInt64) 1) ++ numK 1 (0:UInt64) 1) ++ numK 1 (UInt64.ofNat (nj - 1)) 1) ++ itmsT lj) ++ numK 2 (UInt64.ofNat nhb) 2) ++ xhb := by unfold repT; rw [if_neg (by decide), if_pos rfl]
      have hn2 : n = (32*nhb + (itmsT lj).length + 13) := by rw [← hn, e]; simp [AZ, hlha, hlhb]; try omega
      subst hn2
      rw [e]
      exact putRep1_c rq aj nj cj lj th pv ep kd ai ni ci l sa ns sc ls bl tg aha nha cha xha ahb nhb chb xhb (itmsT lj).length w hlj hnj hdj hcj hj hl hnm hnc hcm hv hls hnn hnd hcn hs htg hlha hnha hdha hcha hrha hlhb hnhb hdhb hchb hrhb hbi hbs hA hB hR rfl
    · have e : repT rq 2 0 nj lj th pv ep kd l ls bl tg nha xha nhb xhb = (((((((numK 8 rq 8 ++ numK 1 (2:UInt64) 1) ++ numK 1 (0:UInt64) 1) ++ numK 1 (UInt64.ofNat (nj - 1)) 1) ++ itmsT lj) ++ numK 2 (UInt64.ofNat nha) 2) ++ xha) ++ numK 2 (UInt64.ofNat nhb) 2) ++ xhb := by unfold repT; rw [if_neg (by decide), if_neg (by decide), if_pos rfl]
      have hn2 : n = (32*nha + 32*nhb + (itmsT lj).length + 15) := by rw [← hn, e]; simp [AZ, hlha, hlhb]; try omega
      subst hn2
      rw [e]
      exact putRep2_c rq aj nj cj lj th pv ep kd ai ni ci l sa ns sc ls bl tg aha nha cha xha ahb nhb chb xhb (itmsT lj).length w hlj hnj hdj hcj hj hl hnm hnc hcm hv hls hnn hnd hcn hs htg hlha hnha hdha hcha hrha hlhb hnhb hdhb hchb hrhb hbi hbs hA hB hR rfl
    · have e : repT rq 3 0 nj lj th pv ep kd l ls bl tg nha xha nhb xhb = (((((numK 8 rq 8 ++ numK 1 (3:UInt64) 1) ++ numK 1 (0:UInt64) 1) ++ numK 2 (UInt64.ofNat nha) 2) ++ xha) ++ numK 2 (UInt64.ofNat nhb) 2) ++ xhb := by unfold repT; rw [if_neg (by decide), if_neg (by decide), if_neg (by decide), if_pos rfl]
      have hn2 : n = (32*nha + 32*nhb + 14) := by rw [← hn, e]; simp [AZ, hlha, hlhb]; try omega
      subst hn2
      rw [e]
      exact putRep3_c rq aj nj cj lj th pv ep kd ai ni ci l sa ns sc ls bl tg aha nha cha xha ahb nhb chb xhb w hlj hnj hdj hcj hj hl hnm hnc hcm hv hls hnn hnd hcn hs htg hlha hnha hdha hcha hrha hlhb hnhb hdhb hchb hrhb hbi hbs hA hB hR
    · cases th with
      | true =>
        have hmay := of_decide_eq_true (repR_my hR)
        rcases RightO_cases (FZ hmay) with ⟨rfl, _⟩ | ⟨rfl, _⟩ | ⟨rfl, _⟩
        · have e : repT rq 4 0 nj lj true pv ep 1 l ls bl tg nha xha nhb xhb = (((((((numK 8 rq 8 ++ numK 1 (4:UInt64) 1) ++ numK 1 (0:UInt64) 1) ++ numK 1 (bitU true) 1) ++ ((tktT pv ep 1 l ls bl) ++ tg)) ++ numK 2 (UInt64.ofNat nha) 2) ++ xha) ++ numK 2 (UInt64.ofNat nhb) 2) ++ xhb := by unfold repT; rw [if_neg (by decide), if_neg (by decide), if_neg (by decide), if_neg (by decide), if_pos rfl, if_pos rfl]; rfl
          have hn2 : n = (32*nha + 32*nhb + (tktN 1 ni ns) + 31) := by rw [← hn, e]; simp [AZ, hlha, hlhb, htg, FM hl hls]; try omega
          subst hn2
          rw [e]
          exact putRep4t_c rq aj nj cj lj pv ep 1 ai ni ci l sa ns sc ls bl tg aha nha cha xha ahb nhb chb xhb (tktN 1 ni ns) w hlj hnj hdj hcj hj hl hnm hnc hcm hv hls hnn hnd hcn hs htg hlha hnha hdha hcha hrha hlhb hnhb hdhb hchb hrhb hbi hbs hA hB hR hmay (.inl rfl) hbs rfl (tktN_le hbi hbs)
        · have e : repT rq 4 0 nj lj true pv ep 2 l ls bl tg nha xha nhb xhb = (((((((numK 8 rq 8 ++ numK 1 (4:UInt64) 1) ++ numK 1 (0:UInt64) 1) ++ numK 1 (bitU true) 1) ++ ((tktT pv ep 2 l ls bl) ++ tg)) ++ numK 2 (UInt64.ofNat nha) 2) ++ xha) ++ numK 2 (UInt64.ofNat nhb) 2) ++ xhb := by unfold repT; rw [if_neg (by decide), if_neg (by decide), if_neg (by decide), if_neg (by decide), if_pos rfl, if_pos rfl]; rfl
          have hn2 : n = (32*nha + 32*nhb + (tktN 2 ni ns) + 31) := by rw [← hn, e]; simp [AZ, hlha, hlhb, htg, FM hl hls]; try omega
          subst hn2
          rw [e]
          exact putRep4t_c rq aj nj cj lj pv ep 2 ai ni ci l sa ns sc ls bl tg aha nha cha xha ahb nhb chb xhb (tktN 2 ni ns) w hlj hnj hdj hcj hj hl hnm hnc hcm hv hls hnn hnd hcn hs htg hlha hnha hdha hcha hrha hlhb hnhb hdhb hchb hrhb hbi hbs hA hB hR hmay (.inr (.inl rfl)) hbs rfl (tktN_le hbi hbs)
        · have e : repT rq 4 0 nj lj true pv ep 3 l ls bl tg nha xha nhb xhb = (((((((numK 8 rq 8 ++ numK 1 (4:UInt64) 1) ++ numK 1 (0:UInt64) 1) ++ numK 1 (bitU true) 1) ++ ((tktT pv ep 3 l ls bl) ++ tg)) ++ numK 2 (UInt64.ofNat nha) 2) ++ xha) ++ numK 2 (UInt64.ofNat nhb) 2) ++ xhb := by unfold repT; rw [if_neg (by decide), if_neg (by decide), if_neg (by decide), if_neg (by decide), if_pos rfl, if_pos rfl]; rfl
          have hn2 : n = (32*nha + 32*nhb + (tktN 3 ni ns) + 31) := by rw [← hn, e]; simp [AZ, hlha, hlhb, htg, FM hl hls]; try omega
          subst hn2
          rw [e]
          exact putRep4t_c rq aj nj cj lj pv ep 3 ai ni ci l sa ns sc ls bl tg aha nha cha xha ahb nhb chb xhb (tktN 3 ni ns) w hlj hnj hdj hcj hj hl hnm hnc hcm hv hls hnn hnd hcn hs htg hlha hnha hdha hcha hrha hlhb hnhb hdhb hchb hrhb hbi hbs hA hB hR hmay (.inr (.inr rfl)) hbs rfl (tktN_le hbi hbs)
      | false =>
        have e : repT rq 4 0 nj lj false pv ep kd l ls bl tg nha xha nhb xhb = ((numK 8 rq 8 ++ numK 1 (4:UInt64) 1) ++ numK 1 (0:UInt64) 1) ++ numK 1 (bitU false) 1 := by unfold repT; rw [if_neg (by decide), if_neg (by decide), if_neg (by decide), if_neg (by decide), if_pos rfl, if_neg (by decide)]
        have hn2 : n = 11 := by rw [← hn, e]; simp [AZ, hlha, hlhb]; try omega
        subst hn2
        rw [e]
        exact putRep4f_c rq aj nj cj lj pv ep kd ai ni ci l sa ns sc ls bl tg aha nha cha xha ahb nhb chb xhb w hlj hnj hdj hcj hj hl hnm hnc hcm hv hls hnn hnd hcn hs htg hlha hnha hdha hcha hrha hlhb hnhb hdhb hchb hrhb hbi hbs hA hB hR
    · have e : repT rq 5 0 nj lj th pv ep kd l ls bl tg nha xha nhb xhb = (numK 8 rq 8 ++ numK 1 (5:UInt64) 1) ++ numK 1 (0:UInt64) 1 := by unfold repT; rw [if_neg (by decide), if_neg (by decide), if_neg (by decide), if_neg (by decide), if_neg (by decide)]
      have hn2 : n = 10 := by rw [← hn, e]; simp [AZ, hlha, hlhb]; try omega
      subst hn2
      rw [e]
      exact putRep5_c rq aj nj cj lj th pv ep kd ai ni ci l sa ns sc ls bl tg aha nha cha xha ahb nhb chb xhb w hlj hnj hdj hcj hj hl hnm hnc hcm hv hls hnn hnd hcn hs htg hlha hnha hdha hcha hrha hlhb hnhb hdhb hchb hrhb hbi hbs hA hB hR
  · obtain ⟨rk, rfl⟩ : ∃ m : Nat, rk = m := ⟨rk.toNat, by omega⟩
    obtain ⟨er, rfl⟩ : ∃ m : Nat, er = m := ⟨er.toNat, by omega⟩
    have e : repT rq (rk:Int) (er:Int) nj lj th pv ep kd l ls bl tg nha xha nhb xhb = (numK 8 rq 8 ++ numK 1 (UInt64.ofNat rk) 1) ++ numK 1 (UInt64.ofNat er) 1 := by unfold repT; rw [if_pos hE]; rfl
    have hn2 : n = 10 := by rw [← hn, e]; simp [AZ, hlha, hlhb]; try omega
    subst hn2
    rw [e]
    exact putRepE_c rq rk er aj nj cj lj th pv ep kd ai ni ci l sa ns sc ls bl tg aha nha cha xha ahb nhb chb xhb w hlj hnj hdj hcj hj hl hnm hnc hcm hv hls hnn hnd hcn hs htg hlha hnha hdha hcha hrha hlhb hnhb hdhb hchb hrhb hbi hbs hA hB hR hE
theorem large14_c (rq : UInt64) (rk er : Int) (aj : Option Addr) (nj cj : Nat) (lj : List ItemR) (th : Bool) (pv ep : UInt64) (kd : Int) (ai : Option Addr) (ni ci : Nat) (l : List UInt64) (sa : Option Addr) (ns sc : Nat) (ls : List SealR) (bl : UInt64) (tg : List UInt8) (aha : Option Addr) (nha cha : Nat) (xha : List UInt8) (ahb : Option Addr) (nhb chb : Nat) (xhb : List UInt8)  (w : World) (htg : tg.length = 16)  : Calls Tryd.prog 31 #[.agg (V0 rq (rk) (er) aj nj cj th pv ep (kd) ai ni ci sa ns sc bl tg aha nha cha ahb nhb chb).toArray] w (Post w [] (fun v L => v = .bool (decide (LargeQ nj nha nhb ni ns)) ∧ L = [])) := by
 have hmx : maxLen = 9223372036854775807 := rfl
 refine enter (P := Tryd.prog) (f := 31) (fn := Tryd.f31) w [] 37 [] [.agg (V0 rq (rk) (er) aj nj cj th pv ep (kd) ai ni ci sa ns sc bl tg aha nha cha ahb nhb chb).toArray] Tryd.func31 rfl rfl (by simp) (BZ (by simp) (by simp) (by simp)) ?_
 show JC _ _ _ [(0, .agg (V0 rq (rk) (er) aj nj cj th pv ep (kd) ai ni ci sa ns sc bl tg aha nha cha ahb nhb chb).toArray)] _
 refine AF (AC (A2 (CN (.agg (V0 rq (rk) (er) aj nj cj th pv ep (kd) ai ni ci sa ns sc bl tg aha nha cha ahb nhb chb).toArray) (V0 rq (rk) (er) aj nj cj th pv ep (kd) ai ni ci sa ns sc bl tg aha nha cha ahb nhb chb) rfl (by first | rfl | simp)) rfl ?_))
 rintro v1 L1 ⟨nb1, hnb1, rfl, rfl⟩
 show JL _ _ _ _ (_ :: _) [_]
 refine AA _ (AE rfl) rfl ?_
 refine AJ (AD (AF (AC (AA (Ptr nb1 3) (AB 3 64 1 AK rfl C1 rfl rfl) rfl ?_))))
 refine AA _ (AL rfl (AX DZ (AR 0 rfl (AI (AI (AH (AH (AH (Seg.head))))))))) rfl ?_
 refine AA (I64 nj) (DA B2 rfl) rfl ?_
 refine AA (.bool (decide ((300:Int) < ((nj:Int))))) (AT rfl rfl fun _ => DJ _ _) rfl ?_
 refine AA _ (AG rfl) rfl ?_
 rcases Bool.eq_false_or_eq_true (decide ((300:Int) < ((nj:Int)))) with hb1 | hb1
 ·
  have hp1 : (300:Int) < ((nj:Int)) := of_decide_eq_true hb1
  refine A9 4 4 7 false _ rfl rfl hb1 rfl (AA _ (BA _ rfl hb1 rfl) rfl ?_)
  refine AA _ (AG rfl) rfl ?_
  refine A9 5 10 13 false _ rfl rfl rfl rfl ?_
  refine CQ 15 18 true rfl rfl rfl ?_
  refine CQ 15 18 true rfl rfl rfl ?_
  refine CQ 15 18 true rfl rfl rfl ?_
  refine CQ 15 18 true rfl rfl rfl ?_
  refine FN 10 13 false _ rfl rfl rfl rfl (AA _ (BA _ rfl rfl rfl) rfl ?_)
  refine AA _ (AG rfl) rfl ?_
  refine A9 4 22 25 false _ rfl rfl rfl rfl (AA _ (BA _ rfl rfl rfl) rfl ?_)
  refine AA _ (AG rfl) rfl ?_
  refine A9 4 28 31 false _ rfl rfl rfl rfl (AA _ (BA _ rfl rfl rfl) rfl ?_)
  refine AA _ (AE rfl) rfl ?_
  refine AJ (AD (BK (CD [false] ?_)))
  show JQ _ _ _ _ []
  refine BJ (.bool true) (res1 Tryd.results31 (BF rfl)) fun w1 hw1 => ?_
  refine ⟨_, [], rfl, ⟨congrArg Value.bool ?_, rfl⟩, hw1.no⟩
  first | exact (decide_eq_true (by unfold LargeQ LargeP; omega)).symm | exact (decide_eq_false (by unfold LargeQ LargeP; omega)).symm | exact decide_eq_decide.2 (by unfold LargeQ LargeP; omega)
 ·
  have hp1 : ¬ ((300:Int) < ((nj:Int))) := of_decide_eq_false hb1
  refine AM 4 7 false _ (Ptr nb1 27) rfl rfl hb1 (AB 27 65 1 AK rfl CI rfl rfl) rfl ?_
  refine AM 4 7 false _ _ rfl rfl hb1 (AL rfl (AX D3 (AR 0 rfl (Seg.right 27 0 (by simp [htg]) rfl (Seg.head))))) rfl ?_
  refine AM 4 7 false _ (I64 nha) rfl rfl hb1 (DA CP rfl) rfl ?_
  refine AM 4 7 false _ (.bool (decide ((300:Int) < ((nha:Int))))) rfl rfl hb1 (AT rfl rfl fun _ => DJ _ _) rfl ?_
  refine AA _ (A5 _ rfl hb1 rfl) rfl (AA _ (AG rfl) rfl ?_)
  rcases Bool.eq_false_or_eq_true (decide ((300:Int) < ((nha:Int)))) with hb2 | hb2
  ·
   have hp2 : (300:Int) < ((nha:Int)) := of_decide_eq_true hb2
   refine A9 5 10 13 false _ rfl rfl hb2 rfl ?_
   refine CQ 15 18 true rfl rfl rfl ?_
   refine CQ 15 18 true rfl rfl rfl ?_
   refine CQ 15 18 true rfl rfl rfl ?_
   refine CQ 15 18 true rfl rfl rfl ?_
   refine FN 10 13 false _ rfl rfl hb2 rfl (AA _ (BA _ rfl hb2 rfl) rfl ?_)
   refine AA _ (AG rfl) rfl ?_
   refine A9 4 22 25 false _ rfl rfl rfl rfl (AA _ (BA _ rfl rfl rfl) rfl ?_)
   refine AA _ (AG rfl) rfl ?_
   refine A9 4 28 31 false _ rfl rfl rfl rfl (AA _ (BA _ rfl rfl rfl) rfl ?_)
   refine AA _ (AE rfl) rfl ?_
   refine AJ (AD (BK (CD [false] ?_)))
   show JQ _ _ _ _ []
   refine BJ (.bool true) (res1 Tryd.results31 (BF rfl)) fun w1 hw1 => ?_
   refine ⟨_, [], rfl, ⟨congrArg Value.bool ?_, rfl⟩, hw1.no⟩
   first | exact (decide_eq_true (by unfold LargeQ LargeP; omega)).symm | exact (decide_eq_false (by unfold LargeQ LargeP; omega)).symm | exact decide_eq_decide.2 (by unfold LargeQ LargeP; omega)
  ·
   have hp2 : ¬ ((300:Int) < ((nha:Int))) := of_decide_eq_false hb2
   refine AM 10 13 false _ (Ptr nb1 28) rfl rfl hb2 (AB 28 65 1 AK rfl CI rfl rfl) rfl ?_
   refine AM 10 13 false _ _ rfl rfl hb2 (AL rfl (AX D3 (AR 0 rfl (Seg.right 27 1 (by simp [htg]) rfl (AH (Seg.head)))))) rfl ?_
   refine AM 10 13 false _ (I64 nhb) rfl rfl hb2 (DA CP rfl) rfl ?_
   refine AM 10 13 false _ (.bool (decide ((300:Int) < ((nhb:Int))))) rfl rfl hb2 (AT rfl rfl fun _ => DJ _ _) rfl ?_
   refine AM 10 13 false _ _ rfl rfl hb2 (AG rfl) rfl ?_
   rcases Bool.eq_false_or_eq_true (decide ((300:Int) < ((nhb:Int)))) with hb3 | hb3
   ·
    have hp3 : (300:Int) < ((nhb:Int)) := of_decide_eq_true hb3
    refine AM 15 18 true _ (Ptr nb1 28) rfl rfl hb3 (AB 28 65 1 AK rfl CI rfl rfl) rfl ?_
    refine AM 15 18 true _ _ rfl rfl hb3 (AL rfl (AX D3 (AR 0 rfl (Seg.right 27 1 (by simp [htg]) rfl (AH (Seg.head)))))) rfl ?_
    refine AM 15 18 true _ (I64 nhb) rfl rfl hb3 (DA CP rfl) rfl ?_
    refine AM 15 18 true _ (.bool (decide (((nhb:Int)) ≤ (8192:Int)))) rfl rfl hb3 (AT rfl rfl fun _ => bin_leq_i _ _) rfl ?_
    refine AM 10 13 false _ _ rfl rfl hb2 (BA _ rfl hb3 rfl) rfl (AA _ (A5 _ rfl hb2 rfl) rfl ?_)
    refine AA _ (AG rfl) rfl ?_
    rcases Bool.eq_false_or_eq_true (decide (((nhb:Int)) ≤ (8192:Int))) with hb4 | hb4
    ·
     have hp4 : ((nhb:Int)) ≤ (8192:Int) := of_decide_eq_true hb4
     refine A9 4 22 25 false _ rfl rfl hb4 rfl (AA _ (BA _ rfl hb4 rfl) rfl ?_)
     refine AA _ (AG rfl) rfl ?_
     refine A9 4 28 31 false _ rfl rfl rfl rfl (AA _ (BA _ rfl rfl rfl) rfl ?_)
     refine AA _ (AE rfl) rfl ?_
     refine AJ (AD (BK (CD [false] ?_)))
     show JQ _ _ _ _ []
     refine BJ (.bool true) (res1 Tryd.results31 (BF rfl)) fun w1 hw1 => ?_
     refine ⟨_, [], rfl, ⟨congrArg Value.bool ?_, rfl⟩, hw1.no⟩
     first | exact (decide_eq_true (by unfold LargeQ LargeP; omega)).symm | exact (decide_eq_false (by unfold LargeQ LargeP; omega)).symm | exact decide_eq_decide.2 (by unfold LargeQ LargeP; omega)
    ·
     have hp4 : ¬ (((nhb:Int)) ≤ (8192:Int)) := of_decide_eq_false hb4
     refine AM 22 25 false _ (Ptr nb1 28) rfl rfl hb4 (AB 28 65 1 AK rfl CI rfl rfl) rfl ?_
     refine AM 22 25 false _ _ rfl rfl hb4 (AL rfl (AX D3 (AR 0 rfl (Seg.right 27 1 (by simp [htg]) rfl (AH (Seg.head)))))) rfl ?_
     refine AM 22 25 false _ (I64 nhb) rfl rfl hb4 (DA CP rfl) rfl ?_
     refine AM 22 25 false _ (.bool (decide ((9000:Int) < ((nhb:Int))))) rfl rfl hb4 (AT rfl rfl fun _ => DJ _ _) rfl ?_
     refine AA _ (A5 _ rfl hb4 rfl) rfl (AA _ (AG rfl) rfl ?_)
     rcases Bool.eq_false_or_eq_true (decide ((9000:Int) < ((nhb:Int)))) with hb5 | hb5
     ·
      have hp5 : (9000:Int) < ((nhb:Int)) := of_decide_eq_true hb5
      refine A9 4 28 31 false _ rfl rfl hb5 rfl (AA _ (BA _ rfl hb5 rfl) rfl ?_)
      refine AA _ (AE rfl) rfl ?_
      refine AJ (AD (BK (CD [false] ?_)))
      show JQ _ _ _ _ []
      refine BJ (.bool true) (res1 Tryd.results31 (BF rfl)) fun w1 hw1 => ?_
      refine ⟨_, [], rfl, ⟨congrArg Value.bool ?_, rfl⟩, hw1.no⟩
      first | exact (decide_eq_true (by unfold LargeQ LargeP; omega)).symm | exact (decide_eq_false (by unfold LargeQ LargeP; omega)).symm | exact decide_eq_decide.2 (by unfold LargeQ LargeP; omega)
     ·
      have hp5 : ¬ ((9000:Int) < ((nhb:Int))) := of_decide_eq_false hb5
      refine AM 28 31 false _ (Ptr nb1 5) rfl rfl hb5 (AB 5 29 22 AK rfl BB rfl rfl) rfl ?_
      refine AM 28 31 false _ (Ptr nb1 7) rfl rfl hb5 (AB 2 26 4 AQ rfl BE rfl rfl) rfl ?_
      refine AM 28 31 false _ _ rfl rfl hb5 (AL rfl (BR D5 BE rfl (AR 0 rfl (DL (p := [U64 rq, I64 (rk), I64 (er), SL aj nj cj, .bool th, U64 pv, U64 ep]) (q := cu8 tg ++ [SL aha nha cha, SL ahb nhb chb]) (vs := (V4 (kd) ai ni ci sa ns sc bl)) (by first | rfl | (simp only [List.append_assoc, List.nil_append, List.append_nil, List.cons_append]; done)) rfl)))) rfl ?_
      refine DC 28 31 false _ rfl rfl hb5 (A3 18 _ (.bool (decide (LargeP ni ns))) (AV _ Tryd.call18 rfl) (fun w1 hw1 => large_c (kd) ai ni ci l sa ns sc ls bl w1 )) rfl ?_
      rintro v1 L1 ⟨rfl, rfl⟩
      show JL _ _ _ _ ((35, .bool (decide (LargeP ni ns))) :: _) [_]
      refine AA _ (A5 _ rfl hb5 rfl) rfl (AA _ (AE rfl) rfl ?_)
      refine AJ (AD (BK (CD [false] ?_)))
      show JQ _ _ _ _ []
      refine BJ (.bool (decide (LargeP ni ns))) (res1 Tryd.results31 (BF rfl)) fun w1 hw1 => ?_
      refine ⟨_, [], rfl, ⟨congrArg Value.bool ?_, rfl⟩, hw1.no⟩
      first | exact (decide_eq_true (by unfold LargeQ LargeP; omega)).symm | exact (decide_eq_false (by unfold LargeQ LargeP; omega)).symm | exact decide_eq_decide.2 (by unfold LargeQ LargeP; omega)
   ·
    have hp3 : ¬ ((300:Int) < ((nhb:Int))) := of_decide_eq_false hb3
    refine A9 4 15 18 true _ rfl rfl hb3 rfl ?_
    refine AM 10 13 false _ _ rfl rfl hb2 (A5 _ rfl hb3 rfl) rfl (AA _ (A5 _ rfl hb2 rfl) rfl ?_)
    refine AA _ (AG rfl) rfl ?_
    refine AM 22 25 false _ (Ptr nb1 28) rfl rfl rfl (AB 28 65 1 AK rfl CI rfl rfl) rfl ?_
    refine AM 22 25 false _ _ rfl rfl rfl (AL rfl (AX D3 (AR 0 rfl (Seg.right 27 1 (by simp [htg]) rfl (AH (Seg.head)))))) rfl ?_
    refine AM 22 25 false _ (I64 nhb) rfl rfl rfl (DA CP rfl) rfl ?_
    refine AM 22 25 false _ (.bool (decide ((9000:Int) < ((nhb:Int))))) rfl rfl rfl (AT rfl rfl fun _ => DJ _ _) rfl ?_
    refine AA _ (A5 _ rfl rfl rfl) rfl (AA _ (AG rfl) rfl ?_)
    rcases Bool.eq_false_or_eq_true (decide ((9000:Int) < ((nhb:Int)))) with hb6 | hb6
    ·
     have hp6 : (9000:Int) < ((nhb:Int)) := of_decide_eq_true hb6
     refine A9 4 28 31 false _ rfl rfl hb6 rfl (AA _ (BA _ rfl hb6 rfl) rfl ?_)
     refine AA _ (AE rfl) rfl ?_
     refine AJ (AD (BK (CD [false] ?_)))
     show JQ _ _ _ _ []
     refine BJ (.bool true) (res1 Tryd.results31 (BF rfl)) fun w1 hw1 => ?_
     refine ⟨_, [], rfl, ⟨congrArg Value.bool ?_, rfl⟩, hw1.no⟩
     first | exact (decide_eq_true (by unfold LargeQ LargeP; omega)).symm | exact (decide_eq_false (by unfold LargeQ LargeP; omega)).symm | exact decide_eq_decide.2 (by unfold LargeQ LargeP; omega)
    ·
     have hp6 : ¬ ((9000:Int) < ((nhb:Int))) := of_decide_eq_false hb6
     refine AM 28 31 false _ (Ptr nb1 5) rfl rfl hb6 (AB 5 29 22 AK rfl BB rfl rfl) rfl ?_
     refine AM 28 31 false _ (Ptr nb1 7) rfl rfl hb6 (AB 2 26 4 AQ rfl BE rfl rfl) rfl ?_
     refine AM 28 31 false _ _ rfl rfl hb6 (AL rfl (BR D5 BE rfl (AR 0 rfl (DL (p := [U64 rq, I64 (rk), I64 (er), SL aj nj cj, .bool th, U64 pv, U64 ep]) (q := cu8 tg ++ [SL aha nha cha, SL ahb nhb chb]) (vs := (V4 (kd) ai ni ci sa ns sc bl)) (by first | rfl | (simp only [List.append_assoc, List.nil_append, List.append_nil, List.cons_append]; done)) rfl)))) rfl ?_
     refine DC 28 31 false _ rfl rfl hb6 (A3 18 _ (.bool (decide (LargeP ni ns))) (AV _ Tryd.call18 rfl) (fun w1 hw1 => large_c (kd) ai ni ci l sa ns sc ls bl w1 )) rfl ?_
     rintro v1 L1 ⟨rfl, rfl⟩
     show JL _ _ _ _ ((35, .bool (decide (LargeP ni ns))) :: _) [_]
     refine AA _ (A5 _ rfl hb6 rfl) rfl (AA _ (AE rfl) rfl ?_)
     refine AJ (AD (BK (CD [false] ?_)))
     show JQ _ _ _ _ []
     refine BJ (.bool (decide (LargeP ni ns))) (res1 Tryd.results31 (BF rfl)) fun w1 hw1 => ?_
     refine ⟨_, [], rfl, ⟨congrArg Value.bool ?_, rfl⟩, hw1.no⟩
     first | exact (decide_eq_true (by unfold LargeQ LargeP; omega)).symm | exact (decide_eq_false (by unfold LargeQ LargeP; omega)).symm | exact decide_eq_decide.2 (by unfold LargeQ LargeP; omega)
end Go.Proofs.YtkdpdgpphpngeaaDoor
namespace Go.Proofs.YtkdpdgpphpngeaaDoor
open Go Go.Sx
open Go.Value renaming slice → SL
theorem valK_lt (z : List UInt8) : ∀ k, k ≤ 8 → (valK z k).toNat < 256 ^ k ∧ (k + 1 ≤ 8 → (valK z (k + 1)).toNat = (valK z k).toNat * 256 + (g8 z k).toNat)
 | 0, _ => ⟨Nat.zero_lt_one, fun _ => by
  have hb := UInt8.toNat_lt (g8 z 0)
  have h0 : (valK z 0).toNat = 0 := rfl
  have h1 : valK z (0 + 1) = (valK z 0 <<< 8) ||| (g8 z 0).toUInt64 := rfl
  rw [h1, shl_or, UInt64.toNat_add, UInt64.toNat_mul, UInt8.toNat_toUInt64, h0]
  show (0 * 256 % 2 ^ 64 + (g8 z 0).toNat) % 2 ^ 64 = _
  omega⟩
 | k + 1, h => by
  obtain ⟨h1, h2⟩ := valK_lt z k (by omega)
  have h3 := h2 h
  have hb := UInt8.toNat_lt (g8 z k)
  have hb' := UInt8.toNat_lt (g8 z (k + 1))
  have hp : 256 ^ (k + 1) = 256 ^ k * 256 := Nat.pow_succ ..
  have h4 : (valK z (k + 1)).toNat < 256 ^ (k + 1) := by omega
  refine ⟨h4, fun h5 => ?_⟩
  have hq : 256 ^ (k + 1) ≤ 256 ^ 7 := Nat.pow_le_pow_right (by omega) (by omega)
  rw [valK, shl_or, UInt64.toNat_add, UInt64.toNat_mul, UInt8.toNat_toUInt64]
  show ((valK z (k + 1)).toNat * 256 % 2 ^ 64 + (g8 z (k + 1)).toNat) % 2 ^ 64 = _
  omega
theorem valK_pre (z : List UInt8) (i : Nat) : ∀ d, i + d ≤ 8 → (valK z (i + d)).toNat / 256 ^ d = (valK z i).toNat
 | 0, _ => by simp
 | d + 1, h => by
  have h1 := (valK_lt z (i + d) (by omega)).2 (by omega)
  have hb := UInt8.toNat_lt (g8 z (i + d))
  have ih := valK_pre z i d (by omega)
  rw [show i + (d + 1) = i + d + 1 from rfl, h1, Nat.pow_succ, Nat.mul_comm (256 ^ d) 256, ← Nat.div_div_eq_div_mul]
  rw [show ((valK z (i + d)).toNat * 256 + (g8 z (i + d)).toNat) / 256 = (valK z (i + d)).toNat by omega]
  exact ih
theorem g8_mid {z : List UInt8} {o n i : Nat} (h : i < n) : g8 (mid z o n) i = g8 z (o + i) := by
 simp [g8, mid, List.getD_eq_getElem?_getD, List.getElem?_take, h]
theorem numK_val {z : List UInt8} {k : Nat} (hk : k ≤ 8) (hz : k ≤ z.length) : numK k (valK z k) k = mid z 0 k := by
 refine ext8n (by rw [AZ, mid_len (by omega)]) (fun i hi => ?_)
 rw [AZ] at hi
 rw [g8_mid hi, Nat.zero_add, numK, g8_mr hi]
 apply UInt8.toNat_inj.1
 rw [UInt64.toNat_toUInt8, show 8*k - 8*i - 8 = 8*(k - 1 - i) by omega, shr_divK _ _ (by omega)]
 have h1 := valK_pre z (i + 1) (k - 1 - i) (by omega)
 rw [show i + 1 + (k - 1 - i) = k by omega] at h1
 rw [h1, (valK_lt z i (by omega)).2 (by omega)]
 have hb := UInt8.toNat_lt (g8 z i)
 omega
theorem take_mid (z : List UInt8) (p s : Nat) : z.take (p + s) = z.take p ++ mid (z.drop p) 0 s := by
 rw [List.take_add]; rfl
theorem GB {z0 : List UInt8} {p s : Nat} (hs : s ≤ 8) (h : p + s ≤ z0.length) : z0.take p ++ numK s (vQ z0 p s) s = z0.take (p + s) := by
 rw [vQ, if_pos h, numK_val hs (by rw [List.length_drop]; omega), take_mid]
theorem bQ_q {z0 : List UInt8} {p s : Nat} (h : p + s ≤ z0.length) : z0.take p ++ bQ z0 p s = z0.take (p + s) := by rw [bQ, if_pos h, take_mid]
theorem g64_app {a b : List UInt64} {i : Nat} (h : i < a.length) : g64 (a ++ b) i = g64 a i := by simp [g64, List.getD_eq_getElem?_getD, List.getElem?_append_left h]
theorem g64_end {a : List UInt64} {x : UInt64} : g64 (a ++ [x]) a.length = x := by simp [g64, List.getD_eq_getElem?_getD]
theorem ixQ_get {z0 : List UInt8} {p : Nat} : ∀ {m i : Nat}, i < m → g64 (ixQ z0 p m) i = vQ z0 (p + 4*i) 4
  | m + 1, i, h => by
    rw [ixQ_succ]
    by_cases hi : i < m
    · rw [g64_app (by rw [F7]; exact hi), ixQ_get hi]
    · obtain rfl : i = m := by omega
      have e : g64 (ixQ z0 p i ++ [vQ z0 (p + 4*i) 4]) (ixQ z0 p i).length = vQ z0 (p + 4*i) 4 := g64_end
      rwa [F7] at e
theorem idxT_q {z0 : List UInt8} {p m : Nat} (h : p + 4*m ≤ z0.length) : ∀ i, i ≤ m → z0.take p ++ idxT (ixQ z0 p m) i = z0.take (p + 4*i)
 | 0, _ => by rw [idxT_zero, List.append_nil]; rfl
 | i + 1, hi => by
  rw [idxT_succ, ← List.append_assoc, idxT_q h i (by omega), ixQ_get (by omega), GB (by omega) (by omega)]; rfl
theorem selT_q {z0 : List UInt8} {p : Nat} : ∀ m, p + 56*m ≤ z0.length → z0.take p ++ selT (seQ z0 p m) = z0.take (p + 56*m)
 | 0, _ => by rw [seQ, selT_nil, List.append_nil]; rfl
 | m + 1, h => by
  rw [seQ_succ, selT_app, ← List.append_assoc, selT_q m (by omega)]
  show z0.take (p + 56*m) ++ ((numK 8 (vQ z0 (p + 56*m) 8) 8 ++ bQ z0 (p + 56*m + 8) 32) ++ bQ z0 (p + 56*m + 40) 16) = _
  rw [← List.append_assoc, ← List.append_assoc, GB (by omega) (by omega), bQ_q (by omega), show p + 56*m + 8 + 32 = p + 56*m + 40 by omega, bQ_q (by omega)]
  congr 1
def mQ (z0 : List UInt8) : Nat := (vQ z0 17 1).toNat + 1
def Ok1 (z0 : List UInt8) : Prop := vQ z0 16 1 = 1 ∧ 60*mQ z0 + 34 ≤ z0.length ∧ mayN (vQ z0 0 8) (vQ z0 8 8) (((vQ z0 16 1).toNat:Int)) (ixQ z0 18 (mQ z0)) (seQ z0 (4*mQ z0 + 18) (mQ z0)) (0:UInt64) = 0
def Ok2 (z0 : List UInt8) : Prop := vQ z0 16 1 = 2 ∧ 4*mQ z0 + 34 ≤ z0.length ∧ mayN (vQ z0 0 8) (vQ z0 8 8) (((vQ z0 16 1).toNat:Int)) (ixQ z0 18 (mQ z0)) ([] : List SealR) (0:UInt64) = 0
def Ok3 (z0 : List UInt8) : Prop := vQ z0 16 1 = 3 ∧ 41 ≤ z0.length ∧ mayN (vQ z0 0 8) (vQ z0 8 8) (((vQ z0 16 1).toNat:Int)) ([] : List UInt64) ([] : List SealR) (vQ z0 17 8) = 0
theorem FE {e k : Nat} (hk : k ≠ 0) : erN e k ≠ 0 := by unfold erN; split <;> omega
def BadQ (z0 : List UInt8) : Prop := ¬ Ok1 z0 ∧ ¬ Ok2 z0 ∧ ¬ Ok3 z0
theorem mQ_eq (z0 : List UInt8) : mQ z0 = (vQ z0 17 1).toNat + 1 := rfl
theorem kdn {x : UInt64} {k : Nat} (hk : k < 18446744073709551616) (h : ((x.toNat:Int)) = (k:Int)) : x = UInt64.ofNat k := UInt64.toNat_inj.1 (by rw [UInt64.toNat_ofNat']; omega)
theorem kd12 {x : UInt64} (h : (decide (((x.toNat:Int)) = (1:Int)) || decide (((x.toNat:Int)) = (2:Int))) = true) : x = 1 ∨ x = 2 := by
  rcases Bool.or_eq_true .. ▸ h with h | h
  · exact .inl (kdn (k := 1) (by decide) (of_decide_eq_true h))
  · exact .inr (kdn (k := 2) (by decide) (of_decide_eq_true h))
theorem kd3 {x : UInt64} (h : decide (((x.toNat:Int)) = (3:Int)) = true) : x = 3 := kdn (k := 3) (by decide) (of_decide_eq_true h)
theorem minQ {z0 z : List UInt8} (hq : Lq z0 z 18) : ∃ m : Nat, min (((vQ z0 17 1).toNat:Int) + 1) ((leftN (eQ z0 18) z.length : Nat) : Int) = (m:Int) ∧ m ≤ 256 ∧ (m = mQ z0 ∨ (m < mQ z0 ∧ z0.length ≤ m + 18)) := by
  have h9 := vQ_lt1 z0 17
  have hm := mQ_eq z0
  refine ⟨min (mQ z0) (leftN (eQ z0 18) z.length), by omega, by omega, ?_⟩
  by_cases h : 18 ≤ z0.length
  · have hl := hq.len h
    rw [eQ_ok h, leftN, if_pos rfl]
    omega
  · rw [FF h, leftN, if_neg (by decide)]
    omega
theorem bad1 {z0 : List UInt8} (hk : vQ z0 16 1 = 1) (h : ¬ (60*mQ z0 + 34 ≤ z0.length ∧ mayN (vQ z0 0 8) (vQ z0 8 8) (((vQ z0 16 1).toNat:Int)) (ixQ z0 18 (mQ z0)) (seQ z0 (4*mQ z0 + 18) (mQ z0)) (0:UInt64) = 0)) : BadQ z0 :=
 ⟨fun e => h e.2, fun e => absurd (hk.symm.trans e.1) (by decide), fun e => absurd (hk.symm.trans e.1) (by decide)⟩
theorem bad2 {z0 : List UInt8} (hk : vQ z0 16 1 = 2) (h : ¬ (4*mQ z0 + 34 ≤ z0.length ∧ mayN (vQ z0 0 8) (vQ z0 8 8) (((vQ z0 16 1).toNat:Int)) (ixQ z0 18 (mQ z0)) ([] : List SealR) (0:UInt64) = 0)) : BadQ z0 :=
 ⟨fun e => absurd (hk.symm.trans e.1) (by decide), fun e => h e.2, fun e => absurd (hk.symm.trans e.1) (by decide)⟩
theorem bad3 {z0 : List UInt8} (hk : vQ z0 16 1 = 3) (h : ¬ (41 ≤ z0.length ∧ mayN (vQ z0 0 8) (vQ z0 8 8) (((vQ z0 16 1).toNat:Int)) ([] : List UInt64) ([] : List SealR) (vQ z0 17 8) = 0)) : BadQ z0 :=
 ⟨fun e => absurd (hk.symm.trans e.1) (by decide), fun e => absurd (hk.symm.trans e.1) (by decide), fun e => h e.2⟩
theorem bad_nil : BadQ [] := ⟨fun e => by have := e.2.1; simp at this, fun e => by have := e.2.1; simp at this, fun e => by have := e.2.1; simp at this⟩
theorem may_nil {pv ep : UInt64} {kd : Int} {bl : UInt64} (h : kd ≠ 3) : mayN pv ep kd ([] : List UInt64) ([] : List SealR) bl ≠ 0 := fun e => by
  have hR := FZ e
  by_cases h1 : kd = 1 ∨ kd = 2
  · have := (RightO_idx hR h1).1
    simp at this
  · rw [mayN_kd ⟨fun e => h1 (.inl e), fun e => h1 (.inr e), h⟩] at e
    omega
theorem bad0 {z0 : List UInt8} {bl : UInt64} (h3 : decide ((((vQ z0 16 1).toNat:Int)) = (3:Int)) = false) (h : (decide ((((vQ z0 16 1).toNat:Int)) = (1:Int)) || decide ((((vQ z0 16 1).toNat:Int)) = (2:Int))) = false) :
  BadQ z0 ∧ mayN (vQ z0 0 8) (vQ z0 8 8) (((vQ z0 16 1).toNat:Int)) ([] : List UInt64) ([] : List SealR) bl ≠ 0 := by
 obtain ⟨h1, h2⟩ := Bool.or_eq_false_iff.1 h
 have h1 := of_decide_eq_false h1
 have h2 := of_decide_eq_false h2
 have h3 := of_decide_eq_false h3
 exact ⟨⟨fun e => h1 (by rw [e.1]; rfl), fun e => h2 (by rw [e.1]; rfl), fun e => h3 (by rw [e.1]; rfl)⟩, may_nil h3⟩
theorem bad12 {z0 : List UInt8} {bl : UInt64} (hk : vQ z0 16 1 = 1 ∨ vQ z0 16 1 = 2) (h : z0.length < mQ z0 + 18) :
    BadQ z0 ∧ mayN (vQ z0 0 8) (vQ z0 8 8) (((vQ z0 16 1).toNat:Int)) ([] : List UInt64) ([] : List SealR) bl ≠ 0 := by
  rcases hk with hk | hk
  · exact ⟨bad1 hk (fun e => by omega), may_nil (by rw [hk]; decide)⟩
  · exact ⟨bad2 hk (fun e => by omega), may_nil (by rw [hk]; decide)⟩
theorem head_q {z0 : List UInt8} (h : 17 ≤ z0.length) : (numK 8 (vQ z0 0 8) 8 ++ numK 8 (vQ z0 8 8) 8) ++ numK 1 (UInt64.ofNat (vQ z0 16 1).toNat) 1 = z0.take 17 := by
 have e0 : numK 8 (vQ z0 0 8) 8 = z0.take 8 := by
  have := GB (z0 := z0) (p := 0) (s := 8) (by omega) (by omega)
  rwa [List.take_zero, List.nil_append] at this
 rw [UInt64.ofNat_toNat, e0, GB (by omega) (by omega), GB (by omega) (by omega)]
theorem text3_q {z0 : List UInt8} (h : 25 ≤ z0.length) (hk : vQ z0 16 1 = 3) : tktT (vQ z0 0 8) (vQ z0 8 8) (vQ z0 16 1).toNat [] [] (vQ z0 17 8) = z0.take 25 := by
 unfold tktT
 rw [if_pos (by rw [hk]; rfl), head_q (by omega), GB (by omega) (by omega)]
theorem head2_q {z0 : List UInt8} {m : Nat} (hm : m = mQ z0) (h : 4*m + 18 ≤ z0.length) : ((((numK 8 (vQ z0 0 8) 8 ++ numK 8 (vQ z0 8 8) 8) ++ numK 1 (UInt64.ofNat (vQ z0 16 1).toNat) 1) ++ numK 1 (UInt64.ofNat ((ixQ z0 18 m).length - 1)) 1) ++ idxT (ixQ z0 18 m) (ixQ z0 18 m).length) = z0.take (4*m + 18) := by
 rw [head_q (by omega), F7, show m - 1 = (vQ z0 17 1).toNat by rw [hm]; unfold mQ; omega, UInt64.ofNat_toNat, GB (by omega) (by omega), idxT_q (by omega) m (Nat.le_refl _), Nat.add_comm 18]
theorem text2_q {z0 : List UInt8} (h : 4*mQ z0 + 18 ≤ z0.length) (hk : vQ z0 16 1 = 2) : tktT (vQ z0 0 8) (vQ z0 8 8) (vQ z0 16 1).toNat (ixQ z0 18 (mQ z0)) [] 0 = z0.take (4*mQ z0 + 18) := by
 unfold tktT
 rw [if_neg (by rw [hk]; decide), head2_q rfl h, selT_nil, List.append_nil]
theorem text1_q {z0 : List UInt8} (h : 60*mQ z0 + 18 ≤ z0.length) (hk : vQ z0 16 1 = 1) : tktT (vQ z0 0 8) (vQ z0 8 8) (vQ z0 16 1).toNat (ixQ z0 18 (mQ z0)) (seQ z0 (4*mQ z0 + 18) (mQ z0)) 0 = z0.take (60*mQ z0 + 18) := by
 unfold tktT
 rw [if_neg (by rw [hk]; decide), head2_q rfl (by omega), selT_q (mQ z0) (by omega)]
 congr 1
 omega
theorem F3 {z0 a b : List UInt8} {p s : Nat} {x : UInt64} (hz : z0 = a ++ (numK s x s ++ b)) (ha : a.length = p) (hs : s ≤ 8) (hx : x.toNat / 256 ^ s = 0) : vQ z0 p s = x := by
 subst hz; subst ha
 have hl : a.length + s ≤ (a ++ (numK s x s ++ b)).length := by rw [List.length_append, List.length_append, AZ]; omega
 rw [vQ, if_pos hl, List.drop_left, ← valK_back s x hs hx]
 refine valK_congr s (fun i hi => ?_)
 rw [valK_back s x hs hx]
 simp only [g8, List.getD_eq_getElem?_getD]
 rw [List.getElem?_append_left (by rw [AZ]; exact hi)]
theorem bQ_at {z0 a t b : List UInt8} {p s : Nat} (hz : z0 = a ++ (t ++ b)) (ha : a.length = p) (ht : t.length = s) : bQ z0 p s = t := by
 subst hz; subst ha; subst ht
 rw [bQ, if_pos (by rw [List.length_append, List.length_append]; omega), List.drop_left]
 simp [mid]
end Go.Proofs.YtkdpdgpphpngeaaDoor
namespace Go.Proofs.YtkdpdgpphpngeaaDoor
open Go Go.Sx Go.RowKit
open Go.Value renaming slice → SL
open Go.ChangeShapes Go.WideShapes
theorem lay_splice {cs a b c vs r : List Value} {o : Nat} (h : cs = a ++ b ++ c) (ha : a.length = o) (hb : b.length = vs.length) (hr : a ++ vs ++ c = r) : lay cs o vs = r := by
 subst h
 subst hr
 rw [List.append_assoc, List.append_assoc]
 exact E6 o 0 ha (by omega) (lay_left (by omega) (BW hb.symm))
theorem vQ_neg {z0 : List UInt8} {p s : Nat} (h : ¬ p + s ≤ z0.length) : vQ z0 p s = 0 := if_neg h
theorem eQ_drop {z0 : List UInt8} {p t : Nat} (h : p ≤ z0.length) : eQ (z0.drop p) t = eQ z0 (p + t) := by
  unfold eQ; rw [List.length_drop]
  by_cases hc : t ≤ z0.length - p
  · rw [if_pos hc, if_pos (by omega)]
  · rw [if_neg hc, if_neg (by omega)]
theorem Lq.drop {z0 z : List UInt8} {p t : Nat} (hp : p ≤ z0.length) (h : Lq (z0.drop p) z t) : Lq z0 z (p + t) := fun hl => by
 rw [h (by rw [List.length_drop]; omega), List.drop_drop]
def TkR (z : List UInt8) (pv ep : UInt64) (kd : Int) (l : List UInt64) (ls : List SealR) (bl : UInt64) (tg : List UInt8) (tot : Nat) : Prop :=
 (Ok3 z ∧ pv = vQ z 0 8 ∧ ep = vQ z 8 8 ∧ kd = ((vQ z 16 1).toNat:Int) ∧ l = [] ∧ ls = [] ∧ bl = vQ z 17 8 ∧ tg = bQ z 25 16 ∧ tot = 41) ∨
 (Ok2 z ∧ pv = vQ z 0 8 ∧ ep = vQ z 8 8 ∧ kd = ((vQ z 16 1).toNat:Int) ∧ l = ixQ z 18 (mQ z) ∧ ls = [] ∧ bl = 0 ∧ tg = bQ z (4*mQ z + 18) 16 ∧ tot = 4*mQ z + 34) ∨
 (Ok1 z ∧ pv = vQ z 0 8 ∧ ep = vQ z 8 8 ∧ kd = ((vQ z 16 1).toNat:Int) ∧ l = ixQ z 18 (mQ z) ∧ ls = seQ z (4*mQ z + 18) (mQ z) ∧ bl = 0 ∧ tg = bQ z (60*mQ z + 18) 16 ∧ tot = 60*mQ z + 34) ∨
 (BadQ z ∧ pv = 0 ∧ ep = 0 ∧ kd = 0 ∧ l = [] ∧ ls = [] ∧ bl = 0 ∧ tg = zr8 16 ∧ tot = z.length + 1)
theorem TkR.bad (z : List UInt8) (h : BadQ z) : TkR z 0 0 0 [] [] 0 (zr8 16) (z.length + 1) := .inr (.inr (.inr ⟨h, rfl, rfl, rfl, rfl, rfl, rfl, rfl, rfl⟩))
theorem mQ_le (z : List UInt8) : mQ z ≤ 256 := by have := vQ_lt1 z 17; unfold mQ; omega
theorem Ok12 {z : List UInt8} (h : Ok1 z) (h2 : Ok2 z) : False := absurd (h.1.symm.trans h2.1) (by decide)
theorem Ok13 {z : List UInt8} (h : Ok1 z) (h2 : Ok3 z) : False := absurd (h.1.symm.trans h2.1) (by decide)
theorem Ok23 {z : List UInt8} (h : Ok2 z) (h2 : Ok3 z) : False := absurd (h.1.symm.trans h2.1) (by decide)
theorem TkR.one {z : List UInt8} {pv ep : UInt64} {kd : Int} {l : List UInt64} {ls : List SealR} {bl : UInt64} {tg : List UInt8} {tot : Nat} {pv' ep' : UInt64} {kd' : Int} {l' : List UInt64} {ls' : List SealR} {bl' : UInt64} {tg' : List UInt8} {tot' : Nat}
  (h : TkR z pv ep kd l ls bl tg tot) (h' : TkR z pv' ep' kd' l' ls' bl' tg' tot') : pv = pv' ∧ ep = ep' ∧ kd = kd' ∧ l = l' ∧ ls = ls' ∧ bl = bl' ∧ tg = tg' ∧ tot = tot' := by
 rcases h with ⟨h0, rfl, rfl, rfl, rfl, rfl, rfl, rfl, rfl⟩ | ⟨h0, rfl, rfl, rfl, rfl, rfl, rfl, rfl, rfl⟩ | ⟨h0, rfl, rfl, rfl, rfl, rfl, rfl, rfl, rfl⟩ | ⟨h0, rfl, rfl, rfl, rfl, rfl, rfl, rfl, rfl⟩ <;>
 rcases h' with ⟨h1, rfl, rfl, rfl, rfl, rfl, rfl, rfl, rfl⟩ | ⟨h1, rfl, rfl, rfl, rfl, rfl, rfl, rfl, rfl⟩ | ⟨h1, rfl, rfl, rfl, rfl, rfl, rfl, rfl, rfl⟩ | ⟨h1, rfl, rfl, rfl, rfl, rfl, rfl, rfl, rfl⟩ <;>
 first
 | exact ⟨rfl, rfl, rfl, rfl, rfl, rfl, rfl, rfl⟩
 | exact (Ok12 h0 h1).elim
 | exact (Ok13 h0 h1).elim
 | exact (Ok23 h0 h1).elim
 | exact (Ok12 h1 h0).elim
 | exact (Ok13 h1 h0).elim
 | exact (Ok23 h1 h0).elim
 | exact (h0.1 h1).elim
 | exact (h0.2.1 h1).elim
 | exact (h0.2.2 h1).elim
 | exact (h1.1 h0).elim
 | exact (h1.2.1 h0).elim
 | exact (h1.2.2 h0).elim
theorem TkR.good {z : List UInt8} {pv ep : UInt64} {kd : Int} {l : List UInt64} {ls : List SealR} {bl : UInt64} {tg : List UInt8} {tot : Nat} (h : TkR z pv ep kd l ls bl tg tot) (ht : tot ≤ z.length) :
    mayN pv ep kd l ls bl = 0 ∧ tktT pv ep kd.toNat l ls bl ++ tg = z.take tot := by
  rcases h with ⟨h0, rfl, rfl, rfl, rfl, rfl, rfl, rfl, rfl⟩ | ⟨h0, rfl, rfl, rfl, rfl, rfl, rfl, rfl, rfl⟩ | ⟨h0, rfl, rfl, rfl, rfl, rfl, rfl, rfl, rfl⟩ | ⟨h0, rfl, rfl, rfl, rfl, rfl, rfl, rfl, rfl⟩
  · exact ⟨h0.2.2, by rw [Int.toNat_natCast, text3_q (by omega) h0.1, bQ_q (by omega)]⟩
  · exact ⟨h0.2.2, by rw [Int.toNat_natCast, text2_q (by omega) h0.1, bQ_q (by omega)]⟩
  · exact ⟨h0.2.2, by rw [Int.toNat_natCast, text1_q (by omega) h0.1, bQ_q (by omega)]⟩
  · omega
theorem FC {w0 w : World} {M : List Nat} {L : List Ent} (h : Hp w0 M L w) (i j k : Nat) {e f g : Ent} (hi : L[i]? = some e) (hj : L[j]? = some f) (hk : L[k]? = some g) (hij : i ≠ j) (hik : i ≠ k) (hjk : j ≠ k) : Hp w0 M [e, f, g] w := by
  have h1 := Hp.two h i j hi hj hij
  have h2 := Hp.two h i k hi hk hik
  have h3 := Hp.two h j k hj hk hjk
  refine h.sub (fun x hx => ?_) ?_
  · rcases List.mem_cons.1 hx with rfl | hx
    · exact List.mem_of_getElem? hi
    · rcases List.mem_cons.1 hx with rfl | hx
      · exact List.mem_of_getElem? hj
      · rcases List.mem_cons.1 hx with rfl | hx
        · exact List.mem_of_getElem? hk
        · cases hx
  · have n1 := h1.nd
    have n2 := h2.nd
    have n3 := h3.nd
    simp at n1 n2 n3 ⊢
    exact ⟨⟨n1, n2⟩, n3⟩
theorem Gh.u64 {l : List UInt64} {g : Nat} {cs : List Value} {a : Option Addr} (h : l = []) : Gh (cu64 l) g cs a := by subst h; exact .inl rfl
def fQ (z0 : List UInt8) (p : Nat) : Bool := decide (p + 1 ≤ z0.length ∧ g8 (z0.drop p) 0 = 1)
def fN (z0 : List UInt8) (p : Nat) : Nat := if p + 1 ≤ z0.length ∧ g8 (z0.drop p) 0 ≤ 1 then 1 else z0.length + 1
theorem fN_ok {z0 : List UInt8} {p : Nat} : p + fN z0 p ≤ z0.length ↔ (p + 1 ≤ z0.length ∧ g8 (z0.drop p) 0 ≤ 1) := by
  unfold fN; split
  · rename_i h; exact ⟨fun _ => h, fun _ => h.1⟩
  · rename_i h; exact ⟨fun e => by omega, fun e => absurd e h⟩
theorem fN_one {z0 : List UInt8} {p : Nat} (h : p + fN z0 p ≤ z0.length) : fN z0 p = 1 := if_pos (fN_ok.1 h)
theorem FgOk_q {z0 z : List UInt8} {p : Nat} (h : Lq z0 z p) : FgOk z (eQ z0 p) ↔ p + fN z0 p ≤ z0.length := by
  rw [fN_ok]
  unfold FgOk
  rw [eQ_zero]
  refine ⟨fun ⟨h1, h2, h3⟩ => ?_, fun ⟨h1, h2⟩ => ?_⟩
  · rw [h h1] at h2 h3; rw [List.length_drop] at h2; exact ⟨by omega, h3⟩
  · have hp : p ≤ z0.length := by omega
    rw [h hp, List.length_drop]; exact ⟨hp, by omega, h2⟩
theorem fgV_q {z0 z : List UInt8} {p : Nat} (h : Lq z0 z p) : fgV z (eQ z0 p) = fQ z0 p := by
  unfold fgV fQ
  refine decide_eq_decide.2 ⟨fun ⟨h1, h2⟩ => ?_, fun ⟨h1, h2⟩ => ?_⟩
  · have h3 := (fN_ok.1 ((FgOk_q h).1 h1)).1
    rw [h (by omega)] at h2; exact ⟨h3, h2⟩
  · have hp : p ≤ z0.length := by omega
    exact ⟨(FgOk_q h).2 (fN_ok.2 ⟨h1, by rw [h2]; decide⟩), by rw [h hp]; exact h2⟩
theorem fgZ_q {z0 z : List UInt8} {p : Nat} (h : Lq z0 z p) : Lq z0 (fgZ z (eQ z0 p)) (p + fN z0 p) := fun hp => by
 have h1 := fN_one hp
 rw [fgZ, if_pos ((FgOk_q h).2 hp), h (by omega), List.drop_drop, h1]
theorem HsOk_q {z0 z : List UInt8} {p : Nat} (h : Lq z0 z p) : HsOk z (eQ z0 p) ↔ p + 32 ≤ z0.length := by
  unfold HsOk
  rw [eQ_zero]
  refine ⟨fun ⟨h1, h2⟩ => ?_, fun h1 => ?_⟩
  · rw [h h1, List.length_drop] at h2; omega
  · rw [h (by omega), List.length_drop]; exact ⟨by omega, by omega⟩
theorem hsV_q {z0 z : List UInt8} {p : Nat} (h : Lq z0 z p) : hsV z (eQ z0 p) = bQ z0 p 32 := by
  unfold hsV bQ
  by_cases hc : p + 32 ≤ z0.length
  · rw [if_pos ((HsOk_q h).2 hc), if_pos hc, h (by omega)]
  · rw [if_neg (fun e => hc ((HsOk_q h).1 e)), if_neg hc]
theorem hsZ_q {z0 z : List UInt8} {p : Nat} (h : Lq z0 z p) : Lq z0 (hsZ z (eQ z0 p)) (p + 32) := fun hp => by
 rw [hsZ, if_pos ((HsOk_q h).2 hp), h (by omega), List.drop_drop]
theorem flag_q {z0 : List UInt8} {p : Nat} (h : p + fN z0 p ≤ z0.length) : z0.take p ++ numK 1 (bitU (fQ z0 p)) 1 = z0.take (p + 1) := by
  have h1 := fN_ok.1 h
  have e : numK 1 (bitU (fQ z0 p)) 1 = mid (z0.drop p) 0 1 := by
    have hl : 1 ≤ (z0.drop p).length := by rw [List.length_drop]; omega
    rw [← numK_val (k := 1) (by omega) hl]
    have hv : valK (z0.drop p) 1 = bitU (fQ z0 p) := by
      have hg : g8 (z0.drop p) 0 = 0 ∨ g8 (z0.drop p) 0 = 1 := by
        have := UInt8.le_iff_toNat_le.1 h1.2
        rcases Nat.lt_or_ge (g8 (z0.drop p) 0).toNat 1 with h | h
        · exact .inl (UInt8.toNat_inj.1 (by show _ = 0; omega))
        · exact .inr (UInt8.toNat_inj.1 (by show _ = 1; have h9 : (1:UInt8).toNat = 1 := rfl; omega))
      rcases hg with hg | hg
      · have : fQ z0 p = false := decide_eq_false (fun e => by rw [hg] at e; exact absurd e.2 (by decide))
        rw [this]; show _ = _; simp only [valK, hg]; decide +kernel
      · have : fQ z0 p = true := decide_eq_true ⟨h1.1, hg⟩
        rw [this]; show _ = _; simp only [valK, hg]; decide +kernel
    rw [hv]
  rw [e, ← take_mid]
theorem GA {z0 z : List UInt8} {p : Nat} (h : Lq z0 z p) : endN (eQ z0 p) z.length = 0 ↔ p = z0.length := by
  unfold endN
  by_cases hp : p ≤ z0.length
  · rw [if_pos (eQ_ok hp), h.len hp]
    split
    · exact ⟨fun _ => by omega, fun _ => rfl⟩
    · exact ⟨fun e => absurd e (by decide), fun e => by omega⟩
  · rw [if_neg (by rw [FF hp]; decide), FF hp]
    exact ⟨fun e => absurd e (by decide), fun e => absurd (Nat.le_of_eq e) hp⟩
def RqR (z : List UInt8) (sq : UInt64) (qk : Int) (lq : List UInt64) (fs : UInt64) (mn : Int) (pv ep : UInt64) (kd : Int) (l : List UInt64) (ls : List SealR) (bl : UInt64) (tg : List UInt8) (eq : UInt64) (tot : Nat) : Prop :=
  sq = vQ z 0 8 ∧ qk = ((vQ z 8 1).toNat:Int) ∧
  ((vQ z 8 1 = 3 ∧ lq = [] ∧ fs = 0 ∧ mn = 0 ∧ eq = 0 ∧ ∃ t, TkR (z.drop 9) pv ep kd l ls bl tg t ∧ tot = 9 + t) ∨
   (vQ z 8 1 ≠ 3 ∧ pv = 0 ∧ ep = 0 ∧ kd = 0 ∧ l = [] ∧ ls = [] ∧ bl = 0 ∧ tg = zr8 16 ∧ eq = vQ z 9 8 ∧
    ((vQ z 8 1 = 1 ∧ lq = ixQ z 18 (mQ z) ∧ fs = 0 ∧ mn = 0 ∧ tot = 4*mQ z + 18) ∨
     (vQ z 8 1 = 2 ∧ lq = [] ∧ fs = vQ z 17 4 ∧ mn = ((vQ z 21 1).toNat:Int) + 1 ∧ tot = 22) ∨
     (vQ z 8 1 ≠ 1 ∧ vQ z 8 1 ≠ 2 ∧ lq = [] ∧ fs = 0 ∧ mn = 0 ∧ tot = 17))))
def GRq (z : List UInt8) (sq : UInt64) (qk : Int) (lq : List UInt64) (fs : UInt64) (mn : Int) (pv ep : UInt64) (kd : Int) (l : List UInt64) (ls : List SealR) (bl : UInt64) (tg : List UInt8) (eq : UInt64) : Prop :=
 RqR z sq qk lq fs mn pv ep kd l ls bl tg eq z.length ∧ reqR qk lq fs mn eq (blankB pv ep kd l ls bl tg) (decide (mayN pv ep kd l ls bl = 0)) = true
def BadRq (z : List UInt8) : Prop := ∀ sq qk lq fs mn pv ep kd l ls bl tg eq, ¬ GRq z sq qk lq fs mn pv ep kd l ls bl tg eq
theorem RqR.one {z : List UInt8} {sq : UInt64} {qk : Int} {lq : List UInt64} {fs : UInt64} {mn : Int} {pv ep : UInt64} {kd : Int} {l : List UInt64} {ls : List SealR} {bl : UInt64} {tg : List UInt8} {eq : UInt64} {tot : Nat}
    {sq' : UInt64} {qk' : Int} {lq' : List UInt64} {fs' : UInt64} {mn' : Int} {pv' ep' : UInt64} {kd' : Int} {l' : List UInt64} {ls' : List SealR} {bl' : UInt64} {tg' : List UInt8} {eq' : UInt64} {tot' : Nat}
    (h : RqR z sq qk lq fs mn pv ep kd l ls bl tg eq tot) (h' : RqR z sq' qk' lq' fs' mn' pv' ep' kd' l' ls' bl' tg' eq' tot') :
    sq = sq' ∧ qk = qk' ∧ lq = lq' ∧ fs = fs' ∧ mn = mn' ∧ pv = pv' ∧ ep = ep' ∧ kd = kd' ∧ l = l' ∧ ls = ls' ∧ bl = bl' ∧ tg = tg' ∧ eq = eq' ∧ tot = tot' := by
  obtain ⟨rfl, rfl, h⟩ := h
  obtain ⟨rfl, rfl, h'⟩ := h'
  rcases h with ⟨h3, rfl, rfl, rfl, rfl, t, hT, rfl⟩ | ⟨h3, rfl, rfl, rfl, rfl, rfl, rfl, rfl, rfl, h⟩ <;>
  rcases h' with ⟨h3', rfl, rfl, rfl, rfl, t', hT', rfl⟩ | ⟨h3', rfl, rfl, rfl, rfl, rfl, rfl, rfl, rfl, h'⟩
  · obtain ⟨rfl, rfl, rfl, rfl, rfl, rfl, rfl, rfl⟩ := hT.one hT'
    exact ⟨rfl, rfl, rfl, rfl, rfl, rfl, rfl, rfl, rfl, rfl, rfl, rfl, rfl, rfl⟩
  · exact absurd h3 h3'
  · exact absurd h3' h3
  · rcases h with ⟨h1, rfl, rfl, rfl, rfl⟩ | ⟨h1, rfl, rfl, rfl, rfl⟩ | ⟨h1, h2, rfl, rfl, rfl, rfl⟩ <;>
    rcases h' with ⟨h1', rfl, rfl, rfl, rfl⟩ | ⟨h1', rfl, rfl, rfl, rfl⟩ | ⟨h1', h2', rfl, rfl, rfl, rfl⟩ <;>
    first
    | exact ⟨rfl, rfl, rfl, rfl, rfl, rfl, rfl, rfl, rfl, rfl, rfl, rfl, rfl, rfl⟩
    | exact absurd (h1.symm.trans h1') (by decide)
    | exact absurd h1 h1'
    | exact absurd h1 h2'
    | exact absurd h1' h1
    | exact absurd h1' h2
theorem BadRq.of {z : List UInt8} {sq : UInt64} {qk : Int} {lq : List UInt64} {fs : UInt64} {mn : Int} {pv ep : UInt64} {kd : Int} {l : List UInt64} {ls : List SealR} {bl : UInt64} {tg : List UInt8} {eq : UInt64} {tot : Nat}
  (h : RqR z sq qk lq fs mn pv ep kd l ls bl tg eq tot) (hb : tot = z.length → reqR qk lq fs mn eq (blankB pv ep kd l ls bl tg) (decide (mayN pv ep kd l ls bl = 0)) = false) : BadRq z := by
 intro sq' qk' lq' fs' mn' pv' ep' kd' l' ls' bl' tg' eq' ⟨h', hr⟩
 obtain ⟨rfl, rfl, rfl, rfl, rfl, rfl, rfl, rfl, rfl, rfl, rfl, rfl, rfl, ht⟩ := h.one h'
 rw [hb ht] at hr
 exact absurd hr (by decide)
theorem RqR.k3 {z : List UInt8} {pv ep : UInt64} {kd : Int} {l : List UInt64} {ls : List SealR} {bl : UInt64} {tg : List UInt8} {t : Nat} (h3 : vQ z 8 1 = 3) (hT : TkR (z.drop 9) pv ep kd l ls bl tg t) :
  RqR z (vQ z 0 8) ((vQ z 8 1).toNat:Int) [] 0 0 pv ep kd l ls bl tg 0 (9 + t) := ⟨rfl, rfl, .inl ⟨h3, rfl, rfl, rfl, rfl, t, hT, rfl⟩⟩
theorem RqR.k1 {z : List UInt8} (h : vQ z 8 1 = 1) : RqR z (vQ z 0 8) ((vQ z 8 1).toNat:Int) (ixQ z 18 (mQ z)) 0 0 0 0 0 [] [] 0 (zr8 16) (vQ z 9 8) (4*mQ z + 18) :=
 ⟨rfl, rfl, .inr ⟨(by rw [h]; decide), rfl, rfl, rfl, rfl, rfl, rfl, rfl, rfl, .inl ⟨h, rfl, rfl, rfl, rfl⟩⟩⟩
theorem RqR.k2 {z : List UInt8} (h : vQ z 8 1 = 2) : RqR z (vQ z 0 8) ((vQ z 8 1).toNat:Int) [] (vQ z 17 4) (((vQ z 21 1).toNat:Int) + 1) 0 0 0 [] [] 0 (zr8 16) (vQ z 9 8) 22 :=
 ⟨rfl, rfl, .inr ⟨(by rw [h]; decide), rfl, rfl, rfl, rfl, rfl, rfl, rfl, rfl, .inr (.inl ⟨h, rfl, rfl, rfl, rfl⟩)⟩⟩
theorem RqR.k0 {z : List UInt8} (h3 : vQ z 8 1 ≠ 3) (h1 : vQ z 8 1 ≠ 1) (h2 : vQ z 8 1 ≠ 2) : RqR z (vQ z 0 8) ((vQ z 8 1).toNat:Int) [] 0 0 0 0 0 [] [] 0 (zr8 16) (vQ z 9 8) 17 :=
 ⟨rfl, rfl, .inr ⟨h3, rfl, rfl, rfl, rfl, rfl, rfl, rfl, rfl, .inr (.inr ⟨h1, h2, rfl, rfl, rfl, rfl⟩)⟩⟩
theorem kQT {x : UInt64} {k : Nat} (hk : k < 256) (h : decide ((x.toNat:Int) = (k:Int)) = true) : x = UInt64.ofNat k := kdn (by omega) (of_decide_eq_true h)
theorem kQF {x : UInt64} {k : Nat} (hk : k < 256) (h : decide ((x.toNat:Int) = (k:Int)) = false) : x ≠ UInt64.ofNat k := fun e => (of_decide_eq_false h) (by rw [e, UInt64.toNat_ofNat']; omega)
theorem reqR_nil {fs : UInt64} {mn : Int} {eq : UInt64} {b m : Bool} : reqR 1 [] fs mn eq b m = false := by
  cases h : reqR 1 [] fs mn eq b m
  · rfl
  · exact absurd (RightI_pos (reqR_one h)) (by simp)
theorem vQ_lt2 (z0 : List UInt8) (p : Nat) : (vQ z0 p 2).toNat < 65536 := by
  unfold vQ
  split
  · exact (valK_lt (z0.drop p) 2 (by omega)).1
  · decide
theorem u64_lt {i : Nat} {x : UInt64} (hi : i < 18446744073709551616) (h : UInt64.ofNat i < x) : i < x.toNat := by
 have h2 := UInt64.lt_iff_toNat_lt.1 h
 rwa [UInt64.toNat_ofNat', Nat.mod_eq_of_lt (by omega)] at h2
theorem u64_ge {i : Nat} {x : UInt64} (hi : i < 18446744073709551616) (h : ¬ UInt64.ofNat i < x) : x.toNat ≤ i := by
 have h2 := UInt64.le_iff_toNat_le.1 (UInt64.not_lt.1 h)
 rwa [UInt64.toNat_ofNat', Nat.mod_eq_of_lt (by omega)] at h2
theorem u64_suc (i : Nat) : UInt64.ofNat i + 1 = UInt64.ofNat (i + 1) := (UInt64.ofNat_add i 1).symm
theorem brk_lt {z0 z : List UInt8} {P q : Nat} (h : Lq z0 z P) (hl : leftN (eQ z0 P) z.length = 0) (hq : P < q) : z0.length < q := by
  by_cases hp : P ≤ z0.length
  · rw [leftN, if_pos (eQ_ok hp), h.len hp] at hl; omega
  · omega
theorem brk_q {z0 z : List UInt8} {P q : Nat} (h : Lq z0 z P) (hl : leftN (eQ z0 P) z.length = 0) (hq : P < q) : erN (eQ z0 P) 2 = eQ z0 q := by
  rw [FF (p := q) (by have := brk_lt h hl hq; omega)]
  by_cases hp : P ≤ z0.length
  · rw [eQ_ok hp]; rfl
  · rw [FF hp]; rfl
theorem erQ_q {z0 : List UInt8} {P q : Nat} (hq : z0.length < q) : erN (eQ z0 P) 2 = eQ z0 q := by
  rw [FF (p := q) (by omega)]
  by_cases hp : P ≤ z0.length
  · rw [eQ_ok hp]; rfl
  · rw [FF hp]; rfl
def hQ (z0 : List UInt8) (p : Nat) : Nat → List UInt8
 | 0 => []
 | i + 1 => hQ z0 p i ++ bQ z0 (p + 32*i) 32
theorem hQ_succ (z0 : List UInt8) (p i : Nat) : hQ z0 p (i + 1) = hQ z0 p i ++ bQ z0 (p + 32*i) 32 := rfl
theorem hQ_len (z0 : List UInt8) (p : Nat) : ∀ i, (hQ z0 p i).length = i*32
 | 0 => rfl
 | i + 1 => by rw [hQ_succ, List.length_append, hQ_len z0 p i, CG]; omega
theorem hQ_zero (z0 : List UInt8) (p : Nat) : hQ z0 p 0 = [] := rfl
theorem hQ_one (z0 : List UInt8) (p : Nat) : [] ++ bQ z0 p 32 = hQ z0 p 1 := rfl
theorem hQ_q {z0 : List UInt8} {p : Nat} : ∀ m, p + 32*m ≤ z0.length → z0.take p ++ hQ z0 p m = z0.take (p + 32*m)
 | 0, h => by show z0.take p ++ [] = _; rw [List.append_nil]; rfl
 | m + 1, h => by rw [hQ_succ, ← List.append_assoc, hQ_q m (by omega), bQ_q (by omega)]; congr 1 <;> omega
def qI (z0 : List UInt8) (p : Nat) : Nat → Nat
 | 0 => p
 | i + 1 => qI z0 p i + fN z0 (qI z0 p i) + (if fQ z0 (qI z0 p i) then 56 else 0)
def zS : SealR := ⟨0, zr8 32, zr8 16, AO 32, AO 16⟩
def iQ (z0 : List UInt8) (q : Nat) : ItemR := if fQ z0 q then ⟨true, sQ z0 (q + fN z0 q)⟩ else ⟨false, zS⟩
def itQ (z0 : List UInt8) (p : Nat) : Nat → List ItemR
 | 0 => []
 | i + 1 => itQ z0 p i ++ [iQ z0 (qI z0 p i)]
theorem itQ_len (z0 : List UInt8) (p : Nat) : ∀ i, (itQ z0 p i).length = i
 | 0 => rfl
 | i + 1 => by show (itQ z0 p i ++ [_]).length = _; rw [List.length_append, itQ_len z0 p i]; rfl
theorem itQ_suc (z0 : List UInt8) (p i : Nat) : itQ z0 p (i + 1) = itQ z0 p i ++ [iQ z0 (qI z0 p i)] := rfl
theorem iQ_t {z0 : List UInt8} {q r : Nat} (h : fQ z0 q = true) (hr : r = q + fN z0 q) (h1 : (bQ z0 (r + 8) 32).length = 32) (h2 : (bQ z0 (r + 40) 16).length = 16) : ItemR.mk (fQ z0 q) (SealR.mk (vQ z0 r 8) (bQ z0 (r + 8) 32) (bQ z0 (r + 40) 16) h1 h2) = iQ z0 q := by
 subst hr; unfold iQ; rw [if_pos h, h]; rfl
theorem iQ_f {z0 : List UInt8} {q : Nat} (h : fQ z0 q = false) (h1 : (zr8 32).length = 32) (h2 : (zr8 16).length = 16) : ItemR.mk (fQ z0 q) (SealR.mk 0 (zr8 32) (zr8 16) h1 h2) = iQ z0 q := by
 unfold iQ; rw [if_neg (by rw [h]; decide), h]; rfl
theorem qI_t {z0 : List UInt8} {p i q r : Nat} (hq : q = qI z0 p i) (h : fQ z0 q = true) (hr : r = q + fN z0 q) : r + 56 = qI z0 p (i + 1) := by
 subst hr; subst hq
 show _ = qI z0 p i + fN z0 (qI z0 p i) + (if fQ z0 (qI z0 p i) then 56 else 0)
 rw [if_pos h]
theorem qI_f {z0 : List UInt8} {p i q r : Nat} (hq : q = qI z0 p i) (h : fQ z0 q = false) (hr : r = q + fN z0 q) : r = qI z0 p (i + 1) := by
 subst hr; subst hq
 show _ = qI z0 p i + fN z0 (qI z0 p i) + (if fQ z0 (qI z0 p i) then 56 else 0)
 rw [if_neg (by rw [h]; decide)]; rfl
theorem fN_pos (z0 : List UInt8) (p : Nat) : 1 ≤ fN z0 p := by unfold fN; split <;> omega
theorem qI_ge (z0 : List UInt8) (p : Nat) : ∀ i, p + i ≤ qI z0 p i
 | 0 => Nat.le_refl _
 | i + 1 => by
  have := qI_ge z0 p i
  have := fN_pos z0 (qI z0 p i)
  show _ ≤ qI z0 p i + fN z0 (qI z0 p i) + _
  omega
theorem qI_mono (z0 : List UInt8) (p : Nat) : ∀ i, qI z0 p i ≤ qI z0 p (i + 1) := fun i => by
 show _ ≤ qI z0 p i + fN z0 (qI z0 p i) + _
 omega
theorem itQ_q {z0 : List UInt8} {p : Nat} : ∀ m, qI z0 p m ≤ z0.length → z0.take p ++ itmsT (itQ z0 p m) = z0.take (qI z0 p m)
 | 0, h => by show z0.take p ++ [] = _; rw [List.append_nil]; rfl
 | m + 1, h => by
  have h1 : qI z0 p m ≤ z0.length := Nat.le_trans (qI_mono z0 p m) h
  have e : qI z0 p (m + 1) = qI z0 p m + fN z0 (qI z0 p m) + (if fQ z0 (qI z0 p m) then 56 else 0) := rfl
  have h2 : qI z0 p m + fN z0 (qI z0 p m) ≤ z0.length := by rw [e] at h; omega
  have h3 := fN_one h2
  rw [itQ_suc]
  unfold itmsT
  rw [List.flatMap_append, ← List.append_assoc]
  have h4 := itQ_q m h1
  unfold itmsT at h4
  rw [h4, List.flatMap_cons, List.flatMap_nil, List.append_nil]
  unfold iQ
  cases hf : fQ z0 (qI z0 p m) with
  | false =>
   rw [if_neg (by decide), itm_f rfl, e, hf, if_neg (by decide), h3]
   have h5 := flag_q h2
   rw [hf] at h5
   exact h5
  | true =>
   rw [if_pos rfl, itm_t rfl, e, hf, if_pos rfl, h3, ← List.append_assoc]
   have h5 := flag_q h2
   rw [hf] at h5
   rw [h5]
   have h6 := selT_q (z0 := z0) (p := qI z0 p m + 1) 1 (by rw [e, hf, if_pos rfl, h3] at h; omega)
   rw [seQ_one] at h6
   rw [← h6]
   simp [selT]
theorem minI {z0 z : List UInt8} (hq : Lq z0 z 11) : ∃ m : Nat, min (((vQ z0 10 1).toNat:Int) + 1) ((leftN (eQ z0 11) z.length : Nat) : Int) = (m:Int) ∧ m ≤ 256 ∧ (m = (vQ z0 10 1).toNat + 1 ∨ (m < (vQ z0 10 1).toNat + 1 ∧ z0.length ≤ m + 11)) := by
  have h1 := vQ_lt1 z0 10
  by_cases hp : 11 ≤ z0.length
  · rw [eQ_ok hp, leftN, if_pos rfl, hq.len hp]
    by_cases hc : (vQ z0 10 1).toNat + 1 ≤ z0.length - 11
    · exact ⟨(vQ z0 10 1).toNat + 1, by omega, by omega, .inl rfl⟩
    · exact ⟨z0.length - 11, by omega, by omega, .inr ⟨by omega, by omega⟩⟩
  · rw [FF hp, leftN, if_neg (by decide)]
    exact ⟨0, by omega, by omega, .inr ⟨by omega, by omega⟩⟩
def rkZ (z : List UInt8) : Int := ((vQ z 8 1).toNat:Int)
def erZ (z : List UInt8) : Int := ((vQ z 9 1).toNat:Int)
def nI (z : List UInt8) : Nat := (vQ z 10 1).toNat + 1
def itZ (z : List UInt8) : Bool := itB (erZ z) (rkZ z)
def F4 (z : List UInt8) : Bool := decide (erZ z = 0) && decide (rkZ z = 4)
def P1 (z : List UInt8) : Nat := if itZ z then qI z 11 (nI z) else 10
def ljZ (z : List UInt8) : List ItemR := if itZ z then itQ z 11 (nI z) else []
def thZ (z : List UInt8) : Bool := F4 z && fQ z (P1 z)
def P2 (z : List UInt8) : Nat := if F4 z then P1 z + fN z (P1 z) else P1 z
def chZ (z : List UInt8) : Bool := chB (erZ z) (rkZ z) (thZ z)
def aZ (z : List UInt8) : Bool := aB (erZ z) (rkZ z) (thZ z)
def bZ (z : List UInt8) : Bool := bB (erZ z) (rkZ z) (thZ z)
noncomputable def tkN (z : List UInt8) : Nat := @ite _ (Ok3 z) (Classical.propDecidable _) 41 (@ite _ (Ok2 z) (Classical.propDecidable _) (4*mQ z + 34) (@ite _ (Ok1 z) (Classical.propDecidable _) (60*mQ z + 34) (z.length + 1)))
theorem TkR.tot {z : List UInt8} {pv ep : UInt64} {kd : Int} {l : List UInt64} {ls : List SealR} {bl : UInt64} {tg : List UInt8} {tot : Nat} (h : TkR z pv ep kd l ls bl tg tot) : tot = tkN z := by
  unfold tkN
  rcases h with ⟨h0, _, _, _, _, _, _, _, rfl⟩ | ⟨h0, _, _, _, _, _, _, _, rfl⟩ | ⟨h0, _, _, _, _, _, _, _, rfl⟩ | ⟨h0, _, _, _, _, _, _, _, rfl⟩
  · rw [if_pos h0]
  · rw [if_neg (fun e => Ok23 h0 e), if_pos h0]
  · rw [if_neg (fun e => Ok13 h0 e), if_neg (fun e => Ok12 h0 e), if_pos h0]
  · rw [if_neg h0.2.2, if_neg h0.2.1, if_neg h0.1]
noncomputable def P3 (z : List UInt8) : Nat := if chZ z then P2 z + tkN (z.drop (P2 z)) else P2 z
def hN (z : List UInt8) (p : Nat) : Nat := (vQ z p 2).toNat
noncomputable def P4 (z : List UInt8) : Nat := if aZ z then P3 z + 2 + 32*hN z (P3 z) else P3 z
noncomputable def P5 (z : List UInt8) : Nat := if bZ z then P4 z + 2 + 32*hN z (P4 z) else P4 z
noncomputable def naZ (z : List UInt8) : Nat := if aZ z then hN z (P3 z) else 0
noncomputable def xaZ (z : List UInt8) : List UInt8 := if aZ z then hQ z (P3 z + 2) (hN z (P3 z)) else []
noncomputable def nbZ (z : List UInt8) : Nat := if bZ z then hN z (P4 z) else 0
noncomputable def xbZ (z : List UInt8) : List UInt8 := if bZ z then hQ z (P4 z + 2) (hN z (P4 z)) else []
def TkZ (z : List UInt8) (pv ep : UInt64) (kd : Int) (l : List UInt64) (ls : List SealR) (bl : UInt64) (tg : List UInt8) : Prop :=
 (chZ z = true ∧ TkR (z.drop (P2 z)) pv ep kd l ls bl tg (tkN (z.drop (P2 z)))) ∨ (chZ z = false ∧ pv = 0 ∧ ep = 0 ∧ kd = 0 ∧ l = [] ∧ ls = [] ∧ bl = 0 ∧ tg = zr8 16)
def CRp (z : List UInt8) (rq : UInt64) (rk er : Int) (lj : List ItemR) (th : Bool) (pv ep : UInt64) (kd : Int) (l : List UInt64) (ls : List SealR) (bl : UInt64) (tg : List UInt8) (na : Nat) (xa : List UInt8) (nb : Nat) (xb : List UInt8) : Prop :=
 P5 z = z.length ∧ rq = vQ z 0 8 ∧ rk = rkZ z ∧ er = erZ z ∧ lj = ljZ z ∧ th = thZ z ∧ TkZ z pv ep kd l ls bl tg ∧ na = naZ z ∧ xa = xaZ z ∧ nb = nbZ z ∧ xb = xbZ z
def GRp (z : List UInt8) (rq : UInt64) (rk er : Int) (lj : List ItemR) (th : Bool) (pv ep : UInt64) (kd : Int) (l : List UInt64) (ls : List SealR) (bl : UInt64) (tg : List UInt8) (na : Nat) (xa : List UInt8) (nb : Nat) (xb : List UInt8) : Prop :=
 CRp z rq rk er lj th pv ep kd l ls bl tg na xa nb xb ∧ repR rk er th lj (blankB pv ep kd l ls bl tg) (decide (mayN pv ep kd l ls bl = 0)) na nb = true
def BadRp (z : List UInt8) : Prop := ∀ rq rk er lj th pv ep kd l ls bl tg na xa nb xb, ¬ GRp z rq rk er lj th pv ep kd l ls bl tg na xa nb xb
theorem TkZ.one {z : List UInt8} {pv ep : UInt64} {kd : Int} {l : List UInt64} {ls : List SealR} {bl : UInt64} {tg : List UInt8} {pv' ep' : UInt64} {kd' : Int} {l' : List UInt64} {ls' : List SealR} {bl' : UInt64} {tg' : List UInt8}
    (h : TkZ z pv ep kd l ls bl tg) (h' : TkZ z pv' ep' kd' l' ls' bl' tg') : pv = pv' ∧ ep = ep' ∧ kd = kd' ∧ l = l' ∧ ls = ls' ∧ bl = bl' ∧ tg = tg' := by
  rcases h with ⟨h1, hT⟩ | ⟨h1, rfl, rfl, rfl, rfl, rfl, rfl, rfl⟩ <;> rcases h' with ⟨h2, hT'⟩ | ⟨h2, rfl, rfl, rfl, rfl, rfl, rfl, rfl⟩
  · obtain ⟨rfl, rfl, rfl, rfl, rfl, rfl, rfl, _⟩ := hT.one hT'
    exact ⟨rfl, rfl, rfl, rfl, rfl, rfl, rfl⟩
  · rw [h1] at h2; exact absurd h2 (by decide)
  · rw [h1] at h2; exact absurd h2 (by decide)
  · exact ⟨rfl, rfl, rfl, rfl, rfl, rfl, rfl⟩
theorem BadRp.far {z : List UInt8} (h : P5 z ≠ z.length) : BadRp z := by
 intro rq rk er lj th pv ep kd l ls bl tg na xa nb xb hg
 exact h hg.1.1
theorem BadRp.of {z : List UInt8} {rq : UInt64} {rk er : Int} {lj : List ItemR} {th : Bool} {pv ep : UInt64} {kd : Int} {l : List UInt64} {ls : List SealR} {bl : UInt64} {tg : List UInt8} {na : Nat} {xa : List UInt8} {nb : Nat} {xb : List UInt8}
  (h : CRp z rq rk er lj th pv ep kd l ls bl tg na xa nb xb) (hb : repR rk er th lj (blankB pv ep kd l ls bl tg) (decide (mayN pv ep kd l ls bl = 0)) na nb = false) : BadRp z := by
 intro rq' rk' er' lj' th' pv' ep' kd' l' ls' bl' tg' na' xa' nb' xb' ⟨h', hr⟩
 obtain ⟨_, rfl, rfl, rfl, rfl, rfl, hT, rfl, rfl, rfl, rfl⟩ := h
 obtain ⟨_, rfl, rfl, rfl, rfl, rfl, hT', rfl, rfl, rfl, rfl⟩ := h'
 obtain ⟨rfl, rfl, rfl, rfl, rfl, rfl, rfl⟩ := hT.one hT'
 rw [hb] at hr
 exact absurd hr (by decide)
theorem P1_t {z : List UInt8} (h : itZ z = true) : P1 z = qI z 11 (nI z) := by unfold P1; rw [if_pos h]
theorem P1_f {z : List UInt8} (h : itZ z = false) : P1 z = 10 := by unfold P1; rw [if_neg (by rw [h]; decide)]
theorem ljZ_t {z : List UInt8} (h : itZ z = true) : ljZ z = itQ z 11 (nI z) := by unfold ljZ; rw [if_pos h]
theorem ljZ_f {z : List UInt8} (h : itZ z = false) : ljZ z = [] := by unfold ljZ; rw [if_neg (by rw [h]; decide)]
theorem P2_t {z : List UInt8} (h : F4 z = true) : P2 z = P1 z + fN z (P1 z) := by unfold P2; rw [if_pos h]
theorem P2_f {z : List UInt8} (h : F4 z = false) : P2 z = P1 z := by unfold P2; rw [if_neg (by rw [h]; decide)]
theorem thZ_t {z : List UInt8} (h : F4 z = true) : thZ z = fQ z (P1 z) := by unfold thZ; rw [h]; rfl
theorem thZ_f {z : List UInt8} (h : F4 z = false) : thZ z = false := by unfold thZ; rw [h]; rfl
theorem F4_it {z : List UInt8} (h : itZ z = true) : F4 z = false := by
 unfold itZ itB at h
 unfold F4
 rw [Bool.and_eq_true, Bool.or_eq_true] at h
 have h2 : rkZ z ≠ 4 := by rcases h.2 with h | h <;> (have := of_decide_eq_true h; omega)
 rw [decide_eq_false h2, Bool.and_false]
theorem P3_t {z : List UInt8} (h : chZ z = true) : P3 z = P2 z + tkN (z.drop (P2 z)) := by unfold P3; rw [if_pos h]
theorem P3_f {z : List UInt8} (h : chZ z = false) : P3 z = P2 z := by unfold P3; rw [if_neg (by rw [h]; decide)]
theorem P4_t {z : List UInt8} (h : aZ z = true) : P4 z = P3 z + 2 + 32*hN z (P3 z) := by unfold P4; rw [if_pos h]
theorem P4_f {z : List UInt8} (h : aZ z = false) : P4 z = P3 z := by unfold P4; rw [if_neg (by rw [h]; decide)]
theorem P5_t {z : List UInt8} (h : bZ z = true) : P5 z = P4 z + 2 + 32*hN z (P4 z) := by unfold P5; rw [if_pos h]
theorem P5_f {z : List UInt8} (h : bZ z = false) : P5 z = P4 z := by unfold P5; rw [if_neg (by rw [h]; decide)]
theorem A_t {z : List UInt8} (h : aZ z = true) : naZ z = hN z (P3 z) ∧ xaZ z = hQ z (P3 z + 2) (hN z (P3 z)) := by unfold naZ xaZ; rw [if_pos h, if_pos h]; exact ⟨rfl, rfl⟩
theorem A_f {z : List UInt8} (h : aZ z = false) : naZ z = 0 ∧ xaZ z = [] := by unfold naZ xaZ; rw [if_neg (by rw [h]; decide), if_neg (by rw [h]; decide)]; exact ⟨rfl, rfl⟩
theorem B_t {z : List UInt8} (h : bZ z = true) : nbZ z = hN z (P4 z) ∧ xbZ z = hQ z (P4 z + 2) (hN z (P4 z)) := by unfold nbZ xbZ; rw [if_pos h, if_pos h]; exact ⟨rfl, rfl⟩
theorem B_f {z : List UInt8} (h : bZ z = false) : nbZ z = 0 ∧ xbZ z = [] := by unfold nbZ xbZ; rw [if_neg (by rw [h]; decide), if_neg (by rw [h]; decide)]; exact ⟨rfl, rfl⟩
theorem bB_ch {er rk : Int} {th : Bool} (h : chB er rk th = true) : bB er rk th = true := by
 unfold chB at h; unfold bB
 rw [Bool.and_eq_true] at h
 rw [h.1, h.2]; simp
theorem aB_ch {er rk : Int} {th : Bool} (h : chB er rk th = true) : aB er rk th = true := by
 unfold aB; rw [bB_ch h]
 unfold chB at h
 rw [Bool.and_eq_true, Bool.and_eq_true] at h
 have := of_decide_eq_true h.2.1
 rw [decide_eq_true (by omega)]; rfl
theorem chB_n0 {er rk : Int} {th : Bool} (h : decide (er = 0) = false) : chB er rk th = false := by unfold chB; rw [h]; rfl
theorem F4_t {z : List UInt8} (h0 : decide (erZ z = 0) = true) (h4 : decide (rkZ z = 4) = true) : F4 z = true := by unfold F4; rw [h0, h4]; rfl
theorem F4_n0 {z : List UInt8} (h0 : decide (erZ z = 0) = false) : F4 z = false := by unfold F4; rw [h0]; rfl
theorem F4_n4 {z : List UInt8} (h4 : decide (rkZ z = 4) = false) : F4 z = false := by unfold F4; rw [h4, Bool.and_false]
theorem Gh.rdB {C : Cx} {L : List Ent} {w : World} (hw : Hp C.w0 C.M L w) {x : List UInt8} {cs : List Value} {g T : Nat} {fz : Nat × Nat} {a : Option Addr} (i : Nat) (hi : L[i]? = some ⟨g, cs, T, fz⟩) (h : Gh (cu8 x) g cs a) : RdB w [] a x := by
  rcases h with h | ⟨rfl, sp, rfl⟩
  · have h2 := congrArg List.length h
    rw [cu8_length] at h2
    exact .inl (List.eq_nil_of_length_eq_zero h2)
  · exact RdB.of hw (AR i hi (AI (AN _))) (by simp)
theorem Gh.h0 {z0 : List UInt8} {p g : Nat} {cs : List Value} {a : Option Addr} : Gh (cu8 (hQ z0 p 0)) g cs a := .inl rfl
def Pick (L : List Ent) : List Nat → List Ent → Prop
 | [], [] => True
 | i :: is, e :: es => L[i]? = some e ∧ Pick L is es
 | _, _ => False
theorem Pick.mem {L : List Ent} : ∀ {is : List Nat} {es : List Ent}, Pick L is es → ∀ e ∈ es, ∃ i ∈ is, L[i]? = some e
  | [], [], _, e, he => by cases he
  | i :: is, x :: es, h, e, he => by
    rcases List.mem_cons.1 he with rfl | he
    · exact ⟨i, List.mem_cons_self, h.1⟩
    · obtain ⟨j, hj, hl⟩ := Pick.mem h.2 e he
      exact ⟨j, List.mem_cons_of_mem _ hj, hl⟩
  | [], _ :: _, h, _, _ => by cases h
  | _ :: _, [], h, e, he => by cases he
theorem Pick.nd {w0 w : World} {M : List Nat} {L : List Ent} (hp : Hp w0 M L w) : ∀ {is : List Nat} {es : List Ent}, Pick L is es → is.Nodup → (es.map Ent.b).Nodup
 | [], [], _, _ => List.nodup_nil
 | i :: is, x :: es, h, hn => by
  rw [List.map_cons, List.nodup_cons]
  obtain ⟨h1, h2⟩ := List.nodup_cons.1 hn
  refine ⟨fun hm => ?_, Pick.nd hp h.2 h2⟩
  obtain ⟨f, hf, hb⟩ := List.mem_map.1 hm
  obtain ⟨j, hj, hl⟩ := Pick.mem h.2 f hf
  obtain ⟨hlt, _⟩ := List.getElem?_eq_some_iff.1 hl
  have e : j = i := (List.getElem?_inj (by simpa using hlt) hp.nd).1 (by rw [List.getElem?_map, List.getElem?_map, hl, h.1]; simp [hb])
  subst e
  exact h1 hj
 | [], _ :: _, h, _ => by cases h
 | _ :: _, [], h, _ => by cases h
theorem Hp.pick {w0 w : World} {M : List Nat} {L : List Ent} (h : Hp w0 M L w) (is : List Nat) {es : List Ent} (hp : Pick L is es) (hn : is.Nodup) : Hp w0 M es w :=
 h.sub (fun e he => by obtain ⟨i, _, hi⟩ := Pick.mem hp e he; exact List.mem_of_getElem? hi) (Pick.nd h hp hn)
def reqT (sq : UInt64) (qk : Int) (niq : Nat) (lq : List UInt64) (fs : UInt64) (mn : Int) (pv ep : UInt64) (kd : Int) (l : List UInt64) (ls : List SealR) (bl : UInt64) (tg : List UInt8) (eq : UInt64) : List UInt8 :=
 if qk = 1 then (((numK 8 sq 8 ++ numK 1 (1:UInt64) 1) ++ numK 8 eq 8) ++ numK 1 (UInt64.ofNat (niq - 1)) 1) ++ idxT lq niq
 else if qk = 2 then (((numK 8 sq 8 ++ numK 1 (2:UInt64) 1) ++ numK 8 eq 8) ++ numK 4 fs 4) ++ numK 1 (UInt64.ofNat (mn.toNat - 1)) 1
 else if qk = 3 then (numK 8 sq 8 ++ numK 1 (3:UInt64) 1) ++ ((tktT pv ep kd.toNat l ls bl) ++ tg)
 else if qk = 4 then (numK 8 sq 8 ++ numK 1 (4:UInt64) 1) ++ numK 8 eq 8
 else (numK 8 sq 8 ++ numK 1 (5:UInt64) 1) ++ numK 8 eq 8
theorem q0 {z : List UInt8} {s : Nat} (hs : s ≤ 8) (h : s ≤ z.length) : numK s (vQ z 0 s) s = z.take s := by
 have := GB (z0 := z) (p := 0) (s := s) hs (by omega)
 rwa [List.take_zero, List.nil_append, Nat.zero_add] at this
theorem q9 {z : List UInt8} {k : UInt64} (h : 9 ≤ z.length) (hk : vQ z 8 1 = k) : numK 8 (vQ z 0 8) 8 ++ numK 1 k 1 = z.take 9 := by
 rw [q0 (by omega) (by omega), ← hk]
 exact GB (by omega) h
theorem iN {x : UInt64} {k : Nat} (h : (x.toNat:Int) = (k:Int)) : x = UInt64.ofNat k := by
 have : x.toNat = k := by omega
 rw [← this, UInt64.ofNat_toNat]
theorem take_all {z : List UInt8} {n : Nat} (h : n = z.length) : z.take n = z := by subst h; exact List.take_length
theorem GRq.text {z : List UInt8} {sq : UInt64} {qk : Int} {lq : List UInt64} {fs : UInt64} {mn : Int} {pv ep : UInt64} {kd : Int} {l : List UInt64} {ls : List SealR} {bl : UInt64} {tg : List UInt8} {eq : UInt64} {niq : Nat}
    (hg : GRq z sq qk lq fs mn pv ep kd l ls bl tg eq) (hl : lq.length = niq) : reqT sq qk niq lq fs mn pv ep kd l ls bl tg eq = z := by
  obtain ⟨⟨rfl, rfl, h⟩, hr⟩ := hg
  rcases h with ⟨h3, rfl, rfl, rfl, rfl, t, hT, ht⟩ | ⟨h3, rfl, rfl, rfl, rfl, rfl, rfl, rfl, rfl, h⟩
  · have e : ((vQ z 8 1).toNat:Int) = 3 := by rw [h3]; rfl
    unfold reqT
    rw [e, if_neg (by decide), if_neg (by decide), if_pos rfl, q9 (by omega) h3, (hT.good (by rw [List.length_drop]; omega)).2, ← List.take_add, ← ht]
    exact List.take_length
  · rcases h with ⟨h1, rfl, rfl, rfl, ht⟩ | ⟨h1, rfl, rfl, rfl, ht⟩ | ⟨h1, h2, rfl, rfl, rfl, ht⟩
    · have e : ((vQ z 8 1).toNat:Int) = 1 := by rw [h1]; rfl
      obtain rfl : niq = mQ z := by rw [← hl, F7]
      unfold reqT
      rw [e, if_pos rfl, q9 (by omega) h1, GB (by omega) (by omega), show mQ z - 1 = (vQ z 17 1).toNat from by rw [mQ_eq]; omega, UInt64.ofNat_toNat, GB (by omega) (by omega)]
      have h9 := idxT_q (z0 := z) (p := 18) (m := mQ z) (by omega) (mQ z) (Nat.le_refl _)
      exact h9.trans (take_all (by omega))
    · have e : ((vQ z 8 1).toNat:Int) = 2 := by rw [h1]; rfl
      unfold reqT
      rw [e, if_neg (by decide), if_pos rfl, q9 (by omega) h1, GB (by omega) (by omega), GB (by omega) (by omega), show (((vQ z 21 1).toNat:Int) + 1).toNat - 1 = (vQ z 21 1).toNat from by omega, UInt64.ofNat_toNat, GB (by omega) (by omega)]
      exact take_all (by omega)
    · have h4 : vQ z 8 1 = 4 ∨ vQ z 8 1 = 5 := by
        obtain ⟨_, hk⟩ := reqR_blank hr (fun e => h3 (iN (k := 3) e))
        rcases hk with hk | hk | hk | hk
        · exact absurd (iN (k := 1) hk) h1
        · exact absurd (iN (k := 2) hk) h2
        · exact .inl (iN (k := 4) hk)
        · exact .inr (iN (k := 5) hk)
      unfold reqT
      rcases h4 with h4 | h4
      · have e : ((vQ z 8 1).toNat:Int) = 4 := by rw [h4]; rfl
        rw [e, if_neg (by decide), if_neg (by decide), if_neg (by decide), if_pos rfl, q9 (by omega) h4, GB (by omega) (by omega)]
        exact take_all (by omega)
      · have e : ((vQ z 8 1).toNat:Int) = 5 := by rw [h4]; rfl
        rw [e, if_neg (by decide), if_neg (by decide), if_neg (by decide), if_neg (by decide), q9 (by omega) h4, GB (by omega) (by omega)]
        exact take_all (by omega)
theorem lst_q {z : List UInt8} {p : Nat} (h : p + 2 + 32*hN z p ≤ z.length) : (z.take p ++ numK 2 (UInt64.ofNat (hN z p)) 2) ++ hQ z (p + 2) (hN z p) = z.take (p + 2 + 32*hN z p) := by
 rw [hN, UInt64.ofNat_toNat, GB (by omega) (by omega)]
 exact hQ_q _ h
theorem q10 {z : List UInt8} {k e : UInt64} (h : 10 ≤ z.length) (hk : vQ z 8 1 = k) (he : vQ z 9 1 = e) : (numK 8 (vQ z 0 8) 8 ++ numK 1 k 1) ++ numK 1 e 1 = z.take 10 := by
 rw [q9 (by omega) hk, ← he]
 exact GB (by omega) h
theorem P1_ge (z : List UInt8) : 10 ≤ P1 z := by
  unfold P1; split
  · have := qI_ge z 11 (nI z); omega
  · omega
theorem P2_ge (z : List UInt8) : P1 z ≤ P2 z := by unfold P2; split <;> omega
theorem P3_ge (z : List UInt8) : P2 z ≤ P3 z := by unfold P3; split <;> omega
theorem P4_ge (z : List UInt8) : P3 z ≤ P4 z := by unfold P4; split <;> omega
theorem P5_ge (z : List UInt8) : P4 z ≤ P5 z := by unfold P5; split <;> omega
theorem BadRp.short {z : List UInt8} (h : z.length < 10) : BadRp z := BadRp.far (fun e => by
 have h1 := P1_ge z
 have h2 := P2_ge z
 have h3 := P3_ge z
 have h4 := P4_ge z
 have h5 := P5_ge z
 omega)
theorem BadRq.nil : BadRq [] := BadRq.of (RqR.k0 (z := []) (by rw [vQ_neg (by decide)]; decide) (by rw [vQ_neg (by decide)]; decide) (by rw [vQ_neg (by decide)]; decide)) (fun e => absurd e (by decide))
theorem GRp.text {z : List UInt8} {rq : UInt64} {rk er : Int} {lj : List ItemR} {th : Bool} {pv ep : UInt64} {kd : Int} {l : List UInt64} {ls : List SealR} {bl : UInt64} {tg : List UInt8} {na : Nat} {xa : List UInt8} {nb : Nat} {xb : List UInt8} {nj : Nat}
    (hg : GRp z rq rk er lj th pv ep kd l ls bl tg na xa nb xb) (hl : lj.length = nj) : repT rq rk er nj lj th pv ep kd l ls bl tg na xa nb xb = z := by
  obtain ⟨⟨h5, rfl, rfl, rfl, rfl, rfl, hT, rfl, rfl, rfl, rfl⟩, hr⟩ := hg
  obtain ⟨c1, c2, c3, c4⟩ := repR_f rfl hr
  have g1 := P1_ge z
  have g2 := P2_ge z
  have g3 := P3_ge z
  have g4 := P4_ge z
  have g5 := P5_ge z
  have hz : 10 ≤ z.length := by omega
  unfold repT
  by_cases hE : erZ z = 0
  · have he9 : vQ z 9 1 = 0 := iN (k := 0) hE
    rw [if_neg (by rw [hE]; decide)]
    have fin : z.take (P5 z) = z := take_all h5
    have hlB : bZ z = true → (z.take (P4 z) ++ numK 2 (UInt64.ofNat (nbZ z)) 2) ++ xbZ z = z := fun hb => by
      rw [(B_t hb).1, (B_t hb).2, lst_q (by rw [← P5_t hb]; omega), ← P5_t hb]; exact fin
    have hlA : aZ z = true → (z.take (P3 z) ++ numK 2 (UInt64.ofNat (naZ z)) 2) ++ xaZ z = z.take (P4 z) := fun ha => by
      rw [(A_t ha).1, (A_t ha).2, lst_q (by rw [← P4_t ha]; omega), ← P4_t ha]
    have hlI : itZ z = true → (z.take 10 ++ numK 1 (UInt64.ofNat (nj - 1)) 1) ++ itmsT (ljZ z) = z.take (P1 z) := fun hi => by
      rw [ljZ_t hi, itQ_len] at hl
      subst hl
      rw [ljZ_t hi, show nI z - 1 = (vQ z 10 1).toNat from rfl, UInt64.ofNat_toNat, GB (by omega) (by have := P1_t hi; have := qI_ge z 11 (nI z); have : 1 ≤ nI z := Nat.succ_le_succ (Nat.zero_le _); omega), P1_t hi]
      exact itQ_q _ (by rw [← P1_t hi]; omega)
    obtain h | h | h | h | h : rkZ z = 1 ∨ rkZ z = 2 ∨ rkZ z = 3 ∨ rkZ z = 4 ∨ rkZ z = 5 := by omega
    · have it : itZ z = true := by unfold itZ; rw [hE, h]; decide
      have f4 := F4_it it
      have th0 := thZ_f f4
      have ch : chZ z = false := by unfold chZ; rw [hE, h, th0]; decide
      have ab : aZ z = false := by unfold aZ; rw [hE, h, th0]; decide
      have bb : bZ z = true := by unfold bZ; rw [hE, h, th0]; decide
      rw [h, if_pos rfl, q10 (k := 1) hz (iN (k := 1) h) he9, hlI it, ← P2_f f4, ← P3_f ch, ← P4_f ab]
      exact hlB bb
    · have it : itZ z = true := by unfold itZ; rw [hE, h]; decide
      have f4 := F4_it it
      have th0 := thZ_f f4
      have ch : chZ z = false := by unfold chZ; rw [hE, h, th0]; decide
      have ab : aZ z = true := by unfold aZ; rw [hE, h, th0]; decide
      have bb : bZ z = true := by unfold bZ; rw [hE, h, th0]; decide
      rw [h, if_neg (by decide), if_pos rfl, q10 (k := 2) hz (iN (k := 2) h) he9, hlI it, ← P2_f f4, ← P3_f ch, hlA ab]
      exact hlB bb
    · have it : itZ z = false := by unfold itZ; rw [hE, h]; decide
      have f4 : F4 z = false := F4_n4 (by rw [h]; decide)
      have th0 := thZ_f f4
      have ch : chZ z = false := by unfold chZ; rw [hE, h, th0]; decide
      have ab : aZ z = true := by unfold aZ; rw [hE, h, th0]; decide
      have bb : bZ z = true := by unfold bZ; rw [hE, h, th0]; decide
      rw [h, if_neg (by decide), if_neg (by decide), if_pos rfl, q10 (k := 3) hz (iN (k := 3) h) he9, ← P1_f it, ← P2_f f4, ← P3_f ch, hlA ab]
      exact hlB bb
    · have it : itZ z = false := by unfold itZ; rw [hE, h]; decide
      have f4 : F4 z = true := F4_t (by rw [hE]; decide) (by rw [h]; decide)
      have p1 := P1_f it
      have p2 := P2_t f4
      have th1 := thZ_t f4
      have hfN : P1 z + fN z (P1 z) ≤ z.length := by rw [← p2]; omega
      have hfl : z.take 10 ++ numK 1 (bitU (thZ z)) 1 = z.take (P2 z) := by
        rw [th1, p2, fN_one hfN, ← p1]; exact flag_q hfN
      rw [h, if_neg (by decide), if_neg (by decide), if_neg (by decide), if_pos rfl]
      cases ht : thZ z with
      | true =>
        have ch : chZ z = true := by unfold chZ; rw [hE, h, ht]; decide
        have ab : aZ z = true := by unfold aZ; rw [hE, h, ht]; decide
        have bb : bZ z = true := by unfold bZ; rw [hE, h, ht]; decide
        have hk : z.take (P2 z) ++ (tktT pv ep kd.toNat l ls bl ++ tg) = z.take (P3 z) := by
          rcases hT with ⟨_, hT⟩ | ⟨e, _⟩
          · rw [(hT.good (by rw [List.length_drop]; have := P3_t ch; omega)).2, ← List.take_add, P3_t ch]
          · rw [ch] at e; exact absurd e (by decide)
        rw [ht] at hfl
        rw [if_pos rfl, q10 (k := 4) hz (iN (k := 4) h) he9, hfl, hk, hlA ab]
        exact hlB bb
      | false =>
        have ch : chZ z = false := by unfold chZ; rw [hE, h, ht]; decide
        have ab : aZ z = false := by unfold aZ; rw [hE, h, ht]; decide
        have bb : bZ z = false := by unfold bZ; rw [hE, h, ht]; decide
        rw [ht] at hfl
        rw [if_neg (by decide), q10 (k := 4) hz (iN (k := 4) h) he9, hfl, ← P3_f ch, ← P4_f ab, ← P5_f bb]
        exact fin
    · have it : itZ z = false := by unfold itZ; rw [hE, h]; decide
      have f4 : F4 z = false := F4_n4 (by rw [h]; decide)
      have th0 := thZ_f f4
      have ch : chZ z = false := by unfold chZ; rw [hE, h, th0]; decide
      have ab : aZ z = false := by unfold aZ; rw [hE, h, th0]; decide
      have bb : bZ z = false := by unfold bZ; rw [hE, h, th0]; decide
      rw [h, if_neg (by decide), if_neg (by decide), if_neg (by decide), if_neg (by decide), q10 (k := 5) hz (iN (k := 5) h) he9, ← P1_f it, ← P2_f f4, ← P3_f ch, ← P4_f ab, ← P5_f bb]
      exact fin
  · have hd := decide_eq_false hE
    have it : itZ z = false := by unfold itZ itB; rw [hd]; rfl
    have f4 : F4 z = false := F4_n0 hd
    have ch : chZ z = false := chB_n0 hd
    have bb : bZ z = false := bB_ne hE
    have ab : aZ z = false := aB_ne hE
    rw [if_pos hE, show (rkZ z).toNat = (vQ z 8 1).toNat from Int.toNat_natCast _, show (erZ z).toNat = (vQ z 9 1).toNat from Int.toNat_natCast _, UInt64.ofNat_toNat, UInt64.ofNat_toNat, q10 hz rfl rfl]
    refine take_all ?_
    rw [← h5, P5_f bb, P4_f ab, P3_f ch, P2_f f4, P1_f it]
theorem GRq.right {z : List UInt8} {sq : UInt64} {qk : Int} {lq : List UInt64} {fs : UInt64} {mn : Int} {pv ep : UInt64} {kd : Int} {l : List UInt64} {ls : List SealR} {bl : UInt64} {tg : List UInt8} {eq : UInt64}
  (hg : GRq z sq qk lq fs mn pv ep kd l ls bl tg eq) : reqR qk lq fs mn eq (blankB pv ep kd l ls bl tg) (decide (mayN pv ep kd l ls bl = 0)) = true := hg.2
theorem GRp.right {z : List UInt8} {rq : UInt64} {rk er : Int} {lj : List ItemR} {th : Bool} {pv ep : UInt64} {kd : Int} {l : List UInt64} {ls : List SealR} {bl : UInt64} {tg : List UInt8} {na : Nat} {xa : List UInt8} {nb : Nat} {xb : List UInt8}
  (hg : GRp z rq rk er lj th pv ep kd l ls bl tg na xa nb xb) : repR rk er th lj (blankB pv ep kd l ls bl tg) (decide (mayN pv ep kd l ls bl = 0)) na nb = true := hg.2
end Go.Proofs.YtkdpdgpphpngeaaDoor
namespace Go.Proofs.YtkdpdgpphpngeaaDoor
open Go Go.Sx
open Go.Value renaming slice → SL
theorem idx_split (l : List UInt64) {i : Nat} : ∀ n, i < n → ∃ r, idxT l n = idxT l i ++ (numK 4 (g64 l i) 4 ++ r)
  | n + 1, h => by
    by_cases hi : i < n
    · obtain ⟨r, hr⟩ := idx_split l n hi
      exact ⟨r ++ numK 4 (g64 l n) 4, by rw [idxT_succ, hr, List.append_assoc, List.append_assoc]⟩
    · obtain rfl : i = n := by omega
      exact ⟨[], by rw [idxT_succ, List.append_nil]⟩
theorem shr_fit {x : UInt64} {s : Nat} (hs : s ≤ 7) (h : x >>> UInt64.ofNat (8*s) = 0) : x.toNat / 256 ^ s = 0 := by
 rw [← shr_divK x s hs, h]; rfl
theorem fit8 (x : UInt64) : x.toNat / 256 ^ 8 = 0 := Nat.div_eq_of_lt (UInt64.toNat_lt x)
theorem fit1 {n : Nat} (h : n < 256) : (UInt64.ofNat n).toNat / 256 ^ 1 = 0 := by
 rw [UInt64.toNat_ofNat', Nat.mod_eq_of_lt (by omega)]
 exact Nat.div_eq_of_lt h
theorem ixQ_back {z0 : List UInt8} {l : List UInt64} {A B : List UInt8} (hz : z0 = A ++ (idxT l l.length ++ B)) {p : Nat} (hA : A.length = p) (hR : RightI l) : ∀ i, i ≤ l.length → ixQ z0 p i = l.take i
 | 0, _ => by simp [ixQ]
 | i + 1, h => by
  obtain ⟨r, hr⟩ := idx_split l l.length (i := i) (by omega)
  have e : vQ z0 (p + 4*i) 4 = g64 l i := by
   refine F3 (a := A ++ idxT l i) (b := r ++ B) ?_ (by rw [List.length_append, FQ, hA]) (by omega) (shr_fit (by omega) (idx_fit hR (by omega)))
   rw [hz, hr]; simp [List.append_assoc]
  rw [ixQ_succ, ixQ_back hz hA hR i (by omega), e]
  exact take_step (g64_at (by omega))
theorem seQ_back {z0 : List UInt8} {ls : List SealR} {A B : List UInt8} (hz : z0 = A ++ (selT ls ++ B)) {p : Nat} (hA : A.length = p) : ∀ j, j ≤ ls.length → seQ z0 p j = ls.take j
 | 0, _ => by simp [seQ]
 | j + 1, h => by
  obtain ⟨x, hx⟩ : ∃ x, ls[j]? = some x := ⟨_, List.getElem?_eq_getElem (by omega)⟩
  have hs : selT ls = selT (ls.take j) ++ ((numK 8 x.e 8 ++ (x.d ++ x.t)) ++ selT (ls.drop (j + 1))) := by
   have h0 : ls.drop j = x :: ls.drop (j + 1) := by
    obtain ⟨hj, he⟩ := List.getElem?_eq_some_iff.1 hx
    rw [List.drop_eq_getElem_cons hj, he]
   have h1 : ls = ls.take j ++ x :: ls.drop (j + 1) := by
    rw [← h0]; exact (List.take_append_drop j ls).symm
   have h2 : selT (ls.take j ++ x :: ls.drop (j + 1)) = selT (ls.take j) ++ (putL x.e x.d x.t ++ selT (ls.drop (j + 1))) := by
    unfold selT; rw [List.flatMap_append, List.flatMap_cons]
   rw [← h1] at h2
   rw [h2]; unfold putL; simp [List.append_assoc]
  have hl : (A ++ selT (ls.take j)).length = p + 56*j := by
   rw [List.length_append, selT_len, hA, List.length_take]; omega
  have e1 : vQ z0 (p + 56*j) 8 = x.e := by
   refine F3 (a := A ++ selT (ls.take j)) (b := x.d ++ (x.t ++ (selT (ls.drop (j + 1)) ++ B))) ?_ hl (by omega) (fit8 _)
   rw [hz, hs]; simp [List.append_assoc]
  have e2 : bQ z0 (p + 56*j + 8) 32 = x.d := by
   refine bQ_at (a := (A ++ selT (ls.take j)) ++ numK 8 x.e 8) (b := x.t ++ (selT (ls.drop (j + 1)) ++ B)) ?_ (by rw [List.length_append, hl, AZ]) x.hd
   rw [hz, hs]; simp [List.append_assoc]
  have e3 : bQ z0 (p + 56*j + 40) 16 = x.t := by
   refine bQ_at (a := ((A ++ selT (ls.take j)) ++ numK 8 x.e 8) ++ x.d) (b := selT (ls.drop (j + 1)) ++ B) ?_ (by rw [List.length_append, List.length_append, hl, AZ, x.hd]) x.ht
   rw [hz, hs]; simp [List.append_assoc]
  have e : sQ z0 (p + 56*j) = x := (SealR.eq_iff _ _).2 ⟨e1, e2, e3⟩
  rw [seQ_succ, seQ_back hz hA j (by omega), e]
  exact take_step hx
theorem back3 {z0 tg : List UInt8} {pv ep bl : UInt64} (hz : z0 = tktT pv ep 3 [] [] bl ++ tg) (ht : tg.length = 16) (hm : mayN pv ep 3 [] [] bl = 0) :
  Ok3 z0 ∧ vQ z0 0 8 = pv ∧ vQ z0 8 8 = ep ∧ (vQ z0 16 1).toNat = 3 ∧ vQ z0 17 8 = bl ∧ bQ z0 25 16 = tg ∧ z0.length = 41 := by
 have hT : tktT pv ep 3 [] [] bl = ((numK 8 pv 8 ++ numK 8 ep 8) ++ numK 1 (UInt64.ofNat 3) 1) ++ numK 8 bl 8 := if_pos rfl
 rw [hT] at hz
 have e0 : vQ z0 0 8 = pv := F3 (a := []) (b := numK 8 ep 8 ++ (numK 1 (UInt64.ofNat 3) 1 ++ (numK 8 bl 8 ++ tg))) (by rw [hz]; simp [List.append_assoc]) rfl (by omega) (fit8 _)
 have e1 : vQ z0 8 8 = ep := F3 (a := numK 8 pv 8) (b := numK 1 (UInt64.ofNat 3) 1 ++ (numK 8 bl 8 ++ tg)) (by rw [hz]; simp [List.append_assoc]) (by rw [AZ]) (by omega) (fit8 _)
 have e2 : vQ z0 16 1 = UInt64.ofNat 3 := F3 (a := numK 8 pv 8 ++ numK 8 ep 8) (b := numK 8 bl 8 ++ tg) (by rw [hz]; simp [List.append_assoc]) (by simp [AZ]) (by omega) (fit1 (by omega))
 have e3 : vQ z0 17 8 = bl := F3 (a := (numK 8 pv 8 ++ numK 8 ep 8) ++ numK 1 (UInt64.ofNat 3) 1) (b := tg) (by rw [hz]; simp [List.append_assoc]) (by simp [AZ]) (by omega) (fit8 _)
 have e4 : bQ z0 25 16 = tg := bQ_at (a := ((numK 8 pv 8 ++ numK 8 ep 8) ++ numK 1 (UInt64.ofNat 3) 1) ++ numK 8 bl 8) (b := []) (by rw [hz, List.append_nil]) (by simp [AZ]) ht
 have hl : z0.length = 41 := by rw [hz]; simp [AZ, ht]
 exact ⟨⟨by rw [e2]; rfl, by omega, by rw [e0, e1, e2, e3]; exact hm⟩, e0, e1, by rw [e2]; rfl, e3, e4, hl⟩
theorem back12 {z0 tg : List UInt8} {pv ep bl : UInt64} {k : Nat} {l : List UInt64} {ls : List SealR} (hz : z0 = tktT pv ep k l ls bl ++ tg) (ht : tg.length = 16) (hk : k = 1 ∨ k = 2) (hm : mayN pv ep (k:Int) l ls bl = 0) {ni ns : Nat} (hl : l.length = ni) (hls : ls.length = ns) :
  vQ z0 0 8 = pv ∧ vQ z0 8 8 = ep ∧ vQ z0 16 1 = UInt64.ofNat k ∧ mQ z0 = ni ∧ ixQ z0 18 ni = l ∧ seQ z0 (4*ni + 18) ns = ls ∧ bQ z0 (56*ns + 4*ni + 18) 16 = tg ∧ z0.length = 56*ns + 4*ni + 34 := by
 have hR := RightO_idx (FZ hm) (by omega)
 have hp := RightI_pos hR
 have hT : tktT pv ep k l ls bl = ((((numK 8 pv 8 ++ numK 8 ep 8) ++ numK 1 (UInt64.ofNat k) 1) ++ numK 1 (UInt64.ofNat (l.length - 1)) 1) ++ idxT l l.length) ++ selT ls := if_neg (by omega)
 rw [hT] at hz
 have hA : ((((numK 8 pv 8 ++ numK 8 ep 8) ++ numK 1 (UInt64.ofNat k) 1) ++ numK 1 (UInt64.ofNat (l.length - 1)) 1)).length = 18 := by simp [AZ]
 have e0 : vQ z0 0 8 = pv := F3 (a := []) (b := numK 8 ep 8 ++ (numK 1 (UInt64.ofNat k) 1 ++ (numK 1 (UInt64.ofNat (l.length - 1)) 1 ++ (idxT l l.length ++ (selT ls ++ tg))))) (by rw [hz]; simp [List.append_assoc]) rfl (by omega) (fit8 _)
 have e1 : vQ z0 8 8 = ep := F3 (a := numK 8 pv 8) (b := numK 1 (UInt64.ofNat k) 1 ++ (numK 1 (UInt64.ofNat (l.length - 1)) 1 ++ (idxT l l.length ++ (selT ls ++ tg)))) (by rw [hz]; simp [List.append_assoc]) (by rw [AZ]) (by omega) (fit8 _)
 have e2 : vQ z0 16 1 = UInt64.ofNat k := F3 (a := numK 8 pv 8 ++ numK 8 ep 8) (b := numK 1 (UInt64.ofNat (l.length - 1)) 1 ++ (idxT l l.length ++ (selT ls ++ tg))) (by rw [hz]; simp [List.append_assoc]) (by simp [AZ]) (by omega) (fit1 (by omega))
 have e3 : vQ z0 17 1 = UInt64.ofNat (l.length - 1) := F3 (a := (numK 8 pv 8 ++ numK 8 ep 8) ++ numK 1 (UInt64.ofNat k) 1) (b := idxT l l.length ++ (selT ls ++ tg)) (by rw [hz]; simp [List.append_assoc]) (by simp [AZ]) (by omega) (fit1 (by omega))
 have e4 : mQ z0 = ni := by
  rw [mQ_eq, e3, UInt64.toNat_ofNat', Nat.mod_eq_of_lt (by omega)]; omega
 have e5 : ixQ z0 18 ni = l := by
  have := ixQ_back (z0 := z0) (l := l) (B := selT ls ++ tg) (by rw [hz, List.append_assoc, List.append_assoc]) hA hR ni (by omega)
  rw [this, List.take_of_length_le (by omega)]
 have e6 : seQ z0 (4*ni + 18) ns = ls := by
  have := seQ_back (z0 := z0) (ls := ls) (A := (((((numK 8 pv 8 ++ numK 8 ep 8) ++ numK 1 (UInt64.ofNat k) 1) ++ numK 1 (UInt64.ofNat (l.length - 1)) 1)) ++ idxT l l.length)) (B := tg) (p := 4*ni + 18) (by rw [hz, List.append_assoc]) (by rw [List.length_append, hA, FQ]; omega) ns (by omega)
  rw [this, List.take_of_length_le (by omega)]
 have e7 : bQ z0 (56*ns + 4*ni + 18) 16 = tg := bQ_at (a := _) (b := []) (by rw [hz, List.append_nil]) (by rw [List.length_append, List.length_append, hA, FQ, selT_len]; omega) ht
 have hl2 : z0.length = 56*ns + 4*ni + 34 := by rw [hz, List.length_append, List.length_append, List.length_append, hA, FQ, selT_len, ht]; omega
 exact ⟨e0, e1, e2, e4, e5, e6, e7, hl2⟩
theorem RightO_bl {kd : Int} {l : List UInt64} {ls : List SealR} {bl : UInt64} (h : RightO kd l ls bl = true) (hk : kd = 1 ∨ kd = 2) : bl = 0 := by
  unfold RightO at h
  rcases hk with rfl | rfl
  · rw [if_pos rfl] at h
    simp only [Bool.and_eq_true, decide_eq_true_eq] at h
    exact h.1
  · rw [if_neg (by decide), if_pos rfl] at h
    simp only [Bool.and_eq_true, decide_eq_true_eq] at h
    exact h.1
theorem back2 {z0 tg : List UInt8} {pv ep bl : UInt64} {l : List UInt64} {ni : Nat} (hz : z0 = tktT pv ep 2 l [] bl ++ tg) (ht : tg.length = 16) (hm : mayN pv ep 2 l [] bl = 0) (hl : l.length = ni) :
  Ok2 z0 ∧ vQ z0 0 8 = pv ∧ vQ z0 8 8 = ep ∧ (vQ z0 16 1).toNat = 2 ∧ mQ z0 = ni ∧ ixQ z0 18 ni = l ∧ bQ z0 (4*ni + 18) 16 = tg ∧ z0.length = 4*ni + 34 ∧ bl = 0 := by
 obtain ⟨e0, e1, e2, e3, e4, _, e6, e7⟩ := back12 hz ht (.inr rfl) hm hl (ls := []) (ns := 0) rfl
 have hb : bl = 0 := RightO_bl (FZ hm) (.inr rfl)
 rw [show 56*0 + 4*ni + 18 = 4*ni + 18 by omega] at e6
 exact ⟨⟨by rw [e2]; rfl, by omega, by rw [e0, e1, e2, e3, e4, ← hb]; exact hm⟩, e0, e1, by rw [e2]; rfl, e3, e4, e6, by omega, hb⟩
theorem back1 {z0 tg : List UInt8} {pv ep bl : UInt64} {l : List UInt64} {ls : List SealR} {ni : Nat} (hz : z0 = tktT pv ep 1 l ls bl ++ tg) (ht : tg.length = 16) (hm : mayN pv ep 1 l ls bl = 0) (hl : l.length = ni) (hls : ls.length = ni) :
  Ok1 z0 ∧ vQ z0 0 8 = pv ∧ vQ z0 8 8 = ep ∧ (vQ z0 16 1).toNat = 1 ∧ mQ z0 = ni ∧ ixQ z0 18 ni = l ∧ seQ z0 (4*ni + 18) ni = ls ∧ bQ z0 (60*ni + 18) 16 = tg ∧ z0.length = 60*ni + 34 ∧ bl = 0 := by
 obtain ⟨e0, e1, e2, e3, e4, e5, e6, e7⟩ := back12 hz ht (.inl rfl) hm hl hls
 have hb : bl = 0 := RightO_bl (FZ hm) (.inl rfl)
 rw [show 56*ni + 4*ni + 18 = 60*ni + 18 by omega] at e6
 exact ⟨⟨by rw [e2]; rfl, by omega, by rw [e0, e1, e2, e3, e4, e5, ← hb]; exact hm⟩, e0, e1, by rw [e2]; rfl, e3, e4, e5, e6, by omega, hb⟩
end Go.Proofs.YtkdpdgpphpngeaaDoor
namespace Go.Proofs.YtkdpdgpphpngeaaDoor
open Go Go.Sx Go.RowKit
open Go.Value renaming slice → SL
open Go.ChangeShapes Go.WideShapes
theorem valK_app (x b : List UInt8) : ∀ k, k ≤ x.length → valK (x ++ b) k = valK x k
 | 0, _ => rfl
 | k + 1, h => by
  show (valK (x ++ b) k <<< 8) ||| (g8 (x ++ b) k).toUInt64 = (valK x k <<< 8) ||| (g8 x k).toUInt64
  rw [valK_app x b k (by omega), g8_app, if_pos (by omega)]
theorem FO {a b : List UInt8} {p s : Nat} (h : p + s ≤ a.length) : vQ (a ++ b) p s = vQ a p s := by
 unfold vQ
 rw [if_pos (by rw [List.length_append]; omega), if_pos h, List.drop_append_of_le_length (by omega), valK_app _ _ _ (by rw [List.length_drop]; omega)]
theorem bQ_pre {a b : List UInt8} {p s : Nat} (h : p + s ≤ a.length) : bQ (a ++ b) p s = bQ a p s := by
 unfold bQ
 rw [if_pos (by rw [List.length_append]; omega), if_pos h, List.drop_append_of_le_length (by omega)]
 unfold mid
 rw [List.drop_zero, List.drop_zero, List.take_append_of_le_length (by rw [List.length_drop]; omega)]
theorem ixQ_pre {a b : List UInt8} {p : Nat} : ∀ n, p + 4*n ≤ a.length → ixQ (a ++ b) p n = ixQ a p n
 | 0, _ => rfl
 | n + 1, h => by rw [ixQ_succ, ixQ_succ, ixQ_pre n (by omega), FO (by omega)]
theorem sQ_pre {a b : List UInt8} {p : Nat} (h : p + 56 ≤ a.length) : sQ (a ++ b) p = sQ a p := by
  unfold sQ
  congr 1
  · exact FO (by omega)
  · exact bQ_pre (by omega)
  · exact bQ_pre (by omega)
theorem seQ_pre {a b : List UInt8} {p : Nat} : ∀ n, p + 56*n ≤ a.length → seQ (a ++ b) p n = seQ a p n
 | 0, _ => rfl
 | n + 1, h => by rw [seQ_succ, seQ_succ, seQ_pre n (by omega), sQ_pre (by omega)]
theorem TkR.app {a : List UInt8} (b : List UInt8) {pv ep : UInt64} {kd : Int} {l : List UInt64} {ls : List SealR} {bl : UInt64} {tg : List UInt8} {tot : Nat} (h : TkR a pv ep kd l ls bl tg tot) (ht : tot ≤ a.length) :
    TkR (a ++ b) pv ep kd l ls bl tg tot := by
  have hl : (a ++ b).length = a.length + b.length := List.length_append
  rcases h with ⟨h0, rfl, rfl, rfl, rfl, rfl, rfl, rfl, rfl⟩ | ⟨h0, rfl, rfl, rfl, rfl, rfl, rfl, rfl, rfl⟩ | ⟨h0, rfl, rfl, rfl, rfl, rfl, rfl, rfl, rfl⟩ | ⟨h0, rfl, rfl, rfl, rfl, rfl, rfl, rfl, rfl⟩
  · obtain ⟨h1, h2, h3⟩ := h0
    refine .inl ⟨⟨by rw [FO (by omega)]; exact h1, by omega, ?_⟩, ?_, ?_, ?_, rfl, rfl, ?_, ?_, rfl⟩
    · rw [FO (by omega), FO (by omega), FO (by omega), FO (by omega)]; exact h3
    · rw [FO (by omega)]
    · rw [FO (by omega)]
    · rw [FO (by omega)]
    · rw [FO (by omega)]
    · rw [bQ_pre (by omega)]
  · have hm : mQ (a ++ b) = mQ a := by unfold mQ; rw [FO (by omega)]
    obtain ⟨h1, h2, h3⟩ := h0
    refine .inr (.inl ⟨⟨by rw [FO (by omega)]; exact h1, by omega, ?_⟩, ?_, ?_, ?_, ?_, rfl, rfl, ?_, by rw [hm]⟩)
    · rw [hm, FO (by omega), FO (by omega), FO (by omega), ixQ_pre _ (by omega)]; exact h3
    · rw [FO (by omega)]
    · rw [FO (by omega)]
    · rw [FO (by omega)]
    · rw [hm, ixQ_pre _ (by omega)]
    · rw [hm, bQ_pre (by omega)]
  · have hm : mQ (a ++ b) = mQ a := by unfold mQ; rw [FO (by omega)]
    obtain ⟨h1, h2, h3⟩ := h0
    refine .inr (.inr (.inl ⟨⟨by rw [FO (by omega)]; exact h1, by omega, ?_⟩, ?_, ?_, ?_, ?_, ?_, rfl, ?_, by rw [hm]⟩))
    · rw [hm, FO (by omega), FO (by omega), FO (by omega), ixQ_pre _ (by omega), seQ_pre _ (by omega)]; exact h3
    · rw [FO (by omega)]
    · rw [FO (by omega)]
    · rw [FO (by omega)]
    · rw [hm, ixQ_pre _ (by omega)]
    · rw [hm, seQ_pre _ (by omega)]
    · rw [hm, bQ_pre (by omega)]
  · omega
theorem intN {x : UInt64} {k : Nat} (h : x.toNat = k) : (k:Int) = ((x.toNat:Int)) := by rw [h]
theorem tkt_R {pv ep : UInt64} {kd : Int} {l : List UInt64} {ls : List SealR} {bl : UInt64} {tg : List UInt8} (hm : mayN pv ep kd l ls bl = 0) (ht : tg.length = 16) :
    TkR (tktT pv ep kd.toNat l ls bl ++ tg) pv ep kd l ls bl tg (tktT pv ep kd.toNat l ls bl ++ tg).length := by
  rcases RightO_cases (FZ hm) with ⟨rfl, h1, h2⟩ | ⟨rfl, h1, h2⟩ | ⟨rfl, h1, h2⟩
  · show TkR (tktT pv ep 1 l ls bl ++ tg) _ _ _ _ _ _ _ (tktT pv ep 1 l ls bl ++ tg).length
    obtain ⟨h0, e0, e1, e2, e3, e4, e5, e6, e7, e8⟩ := back1 (z0 := tktT pv ep 1 l ls bl ++ tg) rfl ht hm rfl h2
    subst e8
    refine .inr (.inr (.inl ⟨h0, e0.symm, e1.symm, intN e2, ?_, ?_, rfl, ?_, ?_⟩))
    · rw [e3]; exact e4.symm
    · rw [e3]; exact e5.symm
    · rw [e3]; exact e6.symm
    · rw [e3]; exact e7
  · obtain rfl : ls = [] := List.eq_nil_of_length_eq_zero h2
    show TkR (tktT pv ep 2 l [] bl ++ tg) _ _ _ _ _ _ _ (tktT pv ep 2 l [] bl ++ tg).length
    obtain ⟨h0, e0, e1, e2, e3, e4, e5, e6, e7⟩ := back2 (z0 := tktT pv ep 2 l [] bl ++ tg) rfl ht hm rfl
    subst e7
    refine .inr (.inl ⟨h0, e0.symm, e1.symm, intN e2, ?_, rfl, rfl, ?_, ?_⟩)
    · rw [e3]; exact e4.symm
    · rw [e3]; exact e5.symm
    · rw [e3]; exact e6
  · obtain rfl : l = [] := List.eq_nil_of_length_eq_zero h1
    obtain rfl : ls = [] := List.eq_nil_of_length_eq_zero h2
    show TkR (tktT pv ep 3 [] [] bl ++ tg) _ _ _ _ _ _ _ (tktT pv ep 3 [] [] bl ++ tg).length
    obtain ⟨h0, e0, e1, e2, e3, e4, e5⟩ := back3 (z0 := tktT pv ep 3 [] [] bl ++ tg) rfl ht hm
    exact .inl ⟨h0, e0.symm, e1.symm, intN e2, rfl, rfl, e3.symm, e4.symm, e5⟩
theorem drop_at {z A B : List UInt8} {p : Nat} (hz : z = A ++ B) (hA : A.length = p) : z.drop p = B := by subst hz; exact List.drop_left' hA
theorem blank_all {pv ep : UInt64} {kd : Int} {l : List UInt64} {ls : List SealR} {bl : UInt64} {tg : List UInt8} (h : blankB pv ep kd l ls bl tg = true) : pv = 0 ∧ ep = 0 ∧ tg = zr8 16 ∧ kd = 0 ∧ bl = 0 ∧ l = [] ∧ ls = [] := of_decide_eq_true h
theorem fit4 {x : UInt64} (h : x >>> UInt64.ofNat (8 * 4) = 0) : x.toNat / 256 ^ 4 = 0 := shr_fit (s := 4) (by omega) h
theorem GRq.put {sq : UInt64} {qk : Int} {niq : Nat} {lq : List UInt64} {fs : UInt64} {mn : Int} {pv ep : UInt64} {kd : Int} {l : List UInt64} {ls : List SealR} {bl : UInt64} {tg : List UInt8} {eq : UInt64}
    (hR : reqR qk lq fs mn eq (blankB pv ep kd l ls bl tg) (decide (mayN pv ep kd l ls bl = 0)) = true) (hl : lq.length = niq) (ht : tg.length = 16) :
    GRq (reqT sq qk niq lq fs mn pv ep kd l ls bl tg eq) sq qk lq fs mn pv ep kd l ls bl tg eq := by
  refine ⟨?_, hR⟩
  by_cases h3 : qk = 3
  · subst h3
    have hm := of_decide_eq_true (reqR_three hR)
    have hz : ∀ z, z = reqT sq 3 niq lq fs mn pv ep kd l ls bl tg eq → z = (numK 8 sq 8 ++ numK 1 (3:UInt64) 1) ++ (tktT pv ep kd.toNat l ls bl ++ tg) := fun z h => by
      rw [h]; unfold reqT; rw [if_neg (by decide), if_neg (by decide), if_pos rfl]
    generalize reqT sq 3 niq lq fs mn pv ep kd l ls bl tg eq = z at hz
    replace hz := hz z rfl
    have e0 : vQ z 0 8 = sq := F3 (a := []) (b := numK 1 (3:UInt64) 1 ++ (tktT pv ep kd.toNat l ls bl ++ tg)) (by rw [hz, List.append_assoc]; rfl) rfl (by omega) (fit8 _)
    have e8 : vQ z 8 1 = 3 := F3 (a := numK 8 sq 8) (b := tktT pv ep kd.toNat l ls bl ++ tg) (by rw [hz, List.append_assoc]) (AZ _ _ _) (by omega) (by decide)
    have ed : z.drop 9 = tktT pv ep kd.toNat l ls bl ++ tg := drop_at hz (by simp [AZ])
    have el : z.length = 9 + (tktT pv ep kd.toNat l ls bl ++ tg).length := by rw [hz, List.length_append]; simp only [List.length_append, AZ]
    unfold reqR at hR
    rw [if_neg (by decide), if_neg (by decide), if_pos rfl] at hR
    simp only [Bool.and_eq_true, decide_eq_true_eq] at hR
    obtain ⟨a1, ⟨a2, a3⟩, a4, _⟩ := hR
    exact ⟨e0.symm, by rw [e8]; rfl, .inl ⟨e8, List.eq_nil_of_length_eq_zero a1, a2, a3, a4, _, by rw [ed]; exact tkt_R hm ht, el⟩⟩
  · obtain ⟨hb, hk⟩ := reqR_blank hR h3
    obtain ⟨rfl, rfl, rfl, rfl, rfl, rfl, rfl⟩ := blank_all hb
    rcases hk with rfl | rfl | rfl | rfl
    · have hI := reqR_one hR
      have hp := RightI_pos hI
      have hz : ∀ z, z = reqT sq 1 niq lq fs mn 0 0 0 [] [] 0 (zr8 16) eq → z = numK 8 sq 8 ++ (numK 1 (1:UInt64) 1 ++ (numK 8 eq 8 ++ (numK 1 (UInt64.ofNat (niq - 1)) 1 ++ idxT lq niq))) := fun z h => by
        rw [h]; unfold reqT; rw [if_pos rfl]; simp only [List.append_assoc]
      generalize reqT sq 1 niq lq fs mn 0 0 0 [] [] 0 (zr8 16) eq = z at hz
      replace hz := hz z rfl
      have e0 : vQ z 0 8 = sq := F3 (a := []) (b := _) hz rfl (by omega) (fit8 _)
      have e8 : vQ z 8 1 = 1 := F3 (a := numK 8 sq 8) (b := _) hz (AZ _ _ _) (by omega) (by decide)
      have e9 : vQ z 9 8 = eq := F3 (a := numK 8 sq 8 ++ numK 1 (1:UInt64) 1) (b := (numK 1 (UInt64.ofNat (niq - 1)) 1 ++ idxT lq niq)) (by rw [hz]; simp only [List.append_assoc]) (by simp [AZ]) (by omega) (fit8 _)
      have e17 : vQ z 17 1 = UInt64.ofNat (niq - 1) := F3 (a := (numK 8 sq 8 ++ numK 1 (1:UInt64) 1) ++ numK 8 eq 8) (b := idxT lq niq) (by rw [hz]; simp only [List.append_assoc]) (by simp [AZ]) (by omega) (fit1 (by omega))
      have em : mQ z = niq := by rw [mQ_eq, e17, UInt64.toNat_ofNat', Nat.mod_eq_of_lt (by omega)]; omega
      have ei : ixQ z 18 niq = lq := by
        have h := ixQ_back (z0 := z) (l := lq) (A := ((numK 8 sq 8 ++ numK 1 (1:UInt64) 1) ++ numK 8 eq 8) ++ numK 1 (UInt64.ofNat (niq - 1)) 1) (B := []) (p := 18) (by rw [hz, hl, List.append_nil]; simp only [List.append_assoc]) (by simp [AZ]) hI niq (by omega)
        rw [h, List.take_of_length_le (by omega)]
      have el : z.length = 4*niq + 18 := by rw [hz]; simp [AZ, FQ]; omega
      unfold reqR at hR
      rw [if_pos rfl] at hR
      simp only [Bool.and_eq_true, decide_eq_true_eq] at hR
      obtain ⟨⟨a1, a2⟩, _⟩ := hR
      exact ⟨e0.symm, by rw [e8]; rfl, .inr ⟨by rw [e8]; decide, rfl, rfl, rfl, rfl, rfl, rfl, rfl, e9.symm, .inl ⟨e8, by rw [em]; exact ei.symm, a1, a2, by rw [em]; exact el⟩⟩⟩
    · have hs := reqR_two hR
      have hn := span_nn hs
      obtain ⟨m, rfl⟩ : ∃ m : Nat, mn = m := ⟨mn.toNat, by omega⟩
      have hz : ∀ z, z = reqT sq 2 niq lq fs (m:Int) 0 0 0 [] [] 0 (zr8 16) eq → z = numK 8 sq 8 ++ (numK 1 (2:UInt64) 1 ++ (numK 8 eq 8 ++ (numK 4 fs 4 ++ numK 1 (UInt64.ofNat (m - 1)) 1))) := fun z h => by
        rw [h]; unfold reqT; rw [if_neg (by decide), if_pos rfl]; simp only [List.append_assoc, Int.toNat_natCast]
      generalize reqT sq 2 niq lq fs (m:Int) 0 0 0 [] [] 0 (zr8 16) eq = z at hz
      replace hz := hz z rfl
      have e0 : vQ z 0 8 = sq := F3 (a := []) (b := _) hz rfl (by omega) (fit8 _)
      have e8 : vQ z 8 1 = 2 := F3 (a := numK 8 sq 8) (b := _) hz (AZ _ _ _) (by omega) (by decide)
      have e9 : vQ z 9 8 = eq := F3 (a := numK 8 sq 8 ++ numK 1 (2:UInt64) 1) (b := numK 4 fs 4 ++ numK 1 (UInt64.ofNat (m - 1)) 1) (by rw [hz]; simp only [List.append_assoc]) (by simp [AZ]) (by omega) (fit8 _)
      have e17 : vQ z 17 4 = fs := F3 (a := (numK 8 sq 8 ++ numK 1 (2:UInt64) 1) ++ numK 8 eq 8) (b := numK 1 (UInt64.ofNat (m - 1)) 1) (by rw [hz]; simp only [List.append_assoc]) (by simp [AZ]) (by omega) (fit4 (span_fit hs))
      have e21 : vQ z 21 1 = UInt64.ofNat (m - 1) := F3 (a := ((numK 8 sq 8 ++ numK 1 (2:UInt64) 1) ++ numK 8 eq 8) ++ numK 4 fs 4) (b := []) (by rw [hz, List.append_nil]; simp only [List.append_assoc]) (by simp [AZ]) (by omega) (fit1 (by omega))
      have el : z.length = 22 := by rw [hz]; simp [AZ]
      unfold reqR at hR
      rw [if_neg (by decide), if_pos rfl] at hR
      simp only [Bool.and_eq_true, decide_eq_true_eq] at hR
      exact ⟨e0.symm, by rw [e8]; rfl, .inr ⟨by rw [e8]; decide, rfl, rfl, rfl, rfl, rfl, rfl, rfl, e9.symm, .inr (.inl ⟨e8, List.eq_nil_of_length_eq_zero hR.1, e17.symm, by rw [e21, UInt64.toNat_ofNat', Nat.mod_eq_of_lt (by omega)]; omega, el⟩)⟩⟩
    · have hz : ∀ z, z = reqT sq 4 niq lq fs mn 0 0 0 [] [] 0 (zr8 16) eq → z = numK 8 sq 8 ++ (numK 1 (4:UInt64) 1 ++ (numK 8 eq 8 ++ [])) := fun z h => by
        rw [h]; unfold reqT; rw [if_neg (by decide), if_neg (by decide), if_neg (by decide), if_pos rfl]; simp only [List.append_assoc, List.append_nil]
      generalize reqT sq 4 niq lq fs mn 0 0 0 [] [] 0 (zr8 16) eq = z at hz
      replace hz := hz z rfl
      have e0 : vQ z 0 8 = sq := F3 (a := []) (b := _) hz rfl (by omega) (fit8 _)
      have e8 : vQ z 8 1 = 4 := F3 (a := numK 8 sq 8) (b := _) hz (AZ _ _ _) (by omega) (by decide)
      have e9 : vQ z 9 8 = eq := F3 (a := numK 8 sq 8 ++ numK 1 (4:UInt64) 1) (b := []) (by rw [hz]; simp only [List.append_assoc]) (by simp [AZ]) (by omega) (fit8 _)
      have el : z.length = 17 := by rw [hz]; simp [AZ]
      unfold reqR at hR
      rw [if_neg (by decide), if_neg (by decide), if_neg (by decide), if_pos (.inl rfl)] at hR
      simp only [Bool.and_eq_true, decide_eq_true_eq] at hR
      obtain ⟨a1, ⟨a2, a3⟩, _⟩ := hR
      exact ⟨e0.symm, by rw [e8]; rfl, .inr ⟨by rw [e8]; decide, rfl, rfl, rfl, rfl, rfl, rfl, rfl, e9.symm, .inr (.inr ⟨by rw [e8]; decide, by rw [e8]; decide, List.eq_nil_of_length_eq_zero a1, a2, a3, el⟩)⟩⟩
    · have hz : ∀ z, z = reqT sq 5 niq lq fs mn 0 0 0 [] [] 0 (zr8 16) eq → z = numK 8 sq 8 ++ (numK 1 (5:UInt64) 1 ++ (numK 8 eq 8 ++ [])) := fun z h => by
        rw [h]; unfold reqT; rw [if_neg (by decide), if_neg (by decide), if_neg (by decide), if_neg (by decide)]; simp only [List.append_assoc, List.append_nil]
      generalize reqT sq 5 niq lq fs mn 0 0 0 [] [] 0 (zr8 16) eq = z at hz
      replace hz := hz z rfl
      have e0 : vQ z 0 8 = sq := F3 (a := []) (b := _) hz rfl (by omega) (fit8 _)
      have e8 : vQ z 8 1 = 5 := F3 (a := numK 8 sq 8) (b := _) hz (AZ _ _ _) (by omega) (by decide)
      have e9 : vQ z 9 8 = eq := F3 (a := numK 8 sq 8 ++ numK 1 (5:UInt64) 1) (b := []) (by rw [hz]; simp only [List.append_assoc]) (by simp [AZ]) (by omega) (fit8 _)
      have el : z.length = 17 := by rw [hz]; simp [AZ]
      unfold reqR at hR
      rw [if_neg (by decide), if_neg (by decide), if_neg (by decide), if_pos (.inr rfl)] at hR
      simp only [Bool.and_eq_true, decide_eq_true_eq] at hR
      obtain ⟨a1, ⟨a2, a3⟩, _⟩ := hR
      exact ⟨e0.symm, by rw [e8]; rfl, .inr ⟨by rw [e8]; decide, rfl, rfl, rfl, rfl, rfl, rfl, rfl, e9.symm, .inr (.inr ⟨by rw [e8]; decide, by rw [e8]; decide, List.eq_nil_of_length_eq_zero a1, a2, a3, el⟩)⟩⟩
theorem hQ_back {z x A B : List UInt8} {p : Nat} (hz : z = A ++ (x ++ B)) (hA : A.length = p) : ∀ n, 32*n ≤ x.length → hQ z p n = x.take (32*n)
 | 0, _ => by rw [hQ_zero, Nat.mul_zero, List.take_zero]
 | n + 1, h => by
  rw [hQ_succ, hQ_back hz hA n (by omega)]
  have e : bQ z (p + 32*n) 32 = mid x (32*n) 32 := bQ_at (a := A ++ x.take (32*n)) (b := x.drop (32*n + 32) ++ B) (by
   rw [hz, List.append_assoc]
   congr 1
   rw [← List.append_assoc, ← List.append_assoc]
   congr 1
   unfold mid
   rw [List.append_assoc, ← List.drop_drop, List.take_append_drop, List.take_append_drop]) (by rw [List.length_append, hA, List.length_take]; omega) (mid_len (by omega))
  rw [e]
  unfold mid
  rw [show 32*(n + 1) = 32*n + 32 by omega, List.take_add]
theorem lst_at {z x A B : List UInt8} {p n : Nat} (hz : z = A ++ (numK 2 (UInt64.ofNat n) 2 ++ (x ++ B))) (hA : A.length = p) (hn : n < 65536) (hx : x.length = n*32) : hN z p = n ∧ hQ z (p + 2) n = x := by
  refine ⟨?_, ?_⟩
  · have e : vQ z p 2 = UInt64.ofNat n := F3 hz hA (by omega) (by rw [UInt64.toNat_ofNat', Nat.mod_eq_of_lt (by omega)]; exact Nat.div_eq_of_lt (by omega))
    rw [hN, e, UInt64.toNat_ofNat', Nat.mod_eq_of_lt (by omega)]
  · have e := hQ_back (z := z) (x := x) (A := A ++ numK 2 (UInt64.ofNat n) 2) (B := B) (p := p + 2) (by rw [hz, List.append_assoc]) (by rw [List.length_append, hA, AZ]) n (by omega)
    rw [e, List.take_of_length_le (by omega)]
theorem fl_at {z A B : List UInt8} {p : Nat} {b : Bool} (hz : z = A ++ (numK 1 (bitU b) 1 ++ B)) (hA : A.length = p) : fQ z p = b ∧ fN z p = 1 := by
  have hd : z.drop p = numK 1 (bitU b) 1 ++ B := drop_at hz hA
  have hl : z.length = p + (1 + B.length) := by rw [hz, List.length_append, List.length_append, AZ, hA]
  have hg : g8 (z.drop p) 0 = (if b then 1 else 0) := by rw [hd, g8_app, if_pos (by rw [AZ]; omega)]; cases b <;> decide +kernel
  unfold fQ fN
  rw [hg]
  cases b
  · exact ⟨decide_eq_false (fun e => absurd e.2 (by decide)), if_pos ⟨by omega, by decide⟩⟩
  · exact ⟨decide_eq_true ⟨by omega, rfl⟩, if_pos ⟨by omega, by decide⟩⟩
theorem plain_no {x : ItemR} (h : plainB x = true) (hb : x.b = false) : x = ⟨false, zS⟩ := by
 obtain ⟨b, ⟨e, d, t, h1, h2⟩⟩ := x
 simp only at hb
 subst hb
 unfold plainB plainV at h
 simp only [Bool.false_or, decide_eq_true_eq] at h
 obtain ⟨rfl, rfl, rfl⟩ := h
 rfl
theorem plain_all {l : List ItemR} (h : c2B true l = true) : ∀ x ∈ l, plainB x = true := fun x hx => by
 unfold c2B at h
 rw [if_pos rfl, Bool.and_eq_true, Bool.not_eq_true'] at h
 have := List.any_eq_false.1 h.2 x hx
 simpa using this
theorem itms_back {z : List UInt8} {lj : List ItemR} {A B : List UInt8} (hz : z = A ++ (itmsT lj ++ B)) {p : Nat} (hA : A.length = p) (hp : ∀ x ∈ lj, plainB x = true) :
  ∀ i, i ≤ lj.length → itQ z p i = lj.take i ∧ qI z p i = p + (itmsT (lj.take i)).length
 | 0, _ => ⟨rfl, rfl⟩
 | i + 1, h => by
  obtain ⟨h1, h2⟩ := itms_back hz hA hp i (by omega)
  obtain ⟨x, hx⟩ : ∃ x, lj[i]? = some x := ⟨_, List.getElem?_eq_getElem (by omega)⟩
  have hst := itms_step hx
  obtain ⟨R, hR⟩ : ∃ R, itmsT lj = itmsT (lj.take (i + 1)) ++ R := ⟨itmsT (lj.drop (i + 1)), by unfold itmsT; rw [← List.flatMap_append]; exact congrArg (fun q => List.flatMap itmT q) (List.take_append_drop (i + 1) lj).symm⟩
  have hA2 : (A ++ itmsT (lj.take i)).length = qI z p i := by rw [List.length_append, hA, h2]
  have hz2 : z = (A ++ itmsT (lj.take i)) ++ (itmT x ++ (R ++ B)) := by rw [hz, hR, ← hst]; simp only [List.append_assoc]
  have hlen : (itmsT (lj.take (i + 1))).length = (itmsT (lj.take i)).length + (itmT x).length := by rw [← hst, List.length_append]
  rw [itQ_suc, h1]
  have hq : qI z p (i + 1) = qI z p i + fN z (qI z p i) + (if fQ z (qI z p i) then 56 else 0) := rfl
  cases hb : x.b with
  | true =>
   have hT : itmT x = numK 1 (bitU true) 1 ++ putL x.s.e x.s.d x.s.t := by unfold itmT; rw [hb, if_pos rfl]
   have hf := fl_at (z := z) (b := true) (B := putL x.s.e x.s.d x.s.t ++ (R ++ B)) (by rw [hz2, hT]; simp only [List.append_assoc]) hA2
   have hs : sQ z (qI z p i + 1) = x.s := by
    have e := seQ_back (z0 := z) (ls := [x.s]) (A := (A ++ itmsT (lj.take i)) ++ numK 1 (bitU true) 1) (B := R ++ B) (p := qI z p i + 1) (by rw [hz2, hT, show selT [x.s] = putL x.s.e x.s.d x.s.t from List.append_nil _]; simp only [List.append_assoc]) (by rw [List.length_append, hA2, AZ]) 1 (Nat.le_refl _)
    rw [seQ_one] at e
    exact (List.cons.inj e).1
   have hi : iQ z (qI z p i) = x := by
    unfold iQ
    rw [hf.1, if_pos rfl, hf.2, hs]
    obtain ⟨b, s⟩ := x
    simp only at hb
    rw [hb]
   refine ⟨by rw [hi]; exact take_step hx, ?_⟩
   rw [hq, hf.1, hf.2, if_pos rfl, hlen, h2, hT, List.length_append, AZ, show (putL x.s.e x.s.d x.s.t).length = 56 from putL_len x.s.hd x.s.ht]
   omega
  | false =>
   have hT : itmT x = numK 1 (bitU false) 1 := by unfold itmT; rw [hb, if_neg (by decide)]
   have hf := fl_at (z := z) (b := false) (B := R ++ B) (by rw [hz2, hT]) hA2
   have hi : iQ z (qI z p i) = x := by
    unfold iQ
    rw [hf.1, if_neg (by decide)]
    exact (plain_no (hp x (List.mem_of_getElem? hx)) hb).symm
   refine ⟨by rw [hi]; exact take_step hx, ?_⟩
   rw [hq, hf.1, hf.2, if_neg (by decide), hlen, h2, hT, AZ]
   omega
def sgH (rq : UInt64) (rk er : Int) : List UInt8 := numK 8 rq 8 ++ (numK 1 (UInt64.ofNat rk.toNat) 1 ++ numK 1 (UInt64.ofNat er.toNat) 1)
def sgI (rk er : Int) (nj : Nat) (lj : List ItemR) : List UInt8 := if itB er rk then numK 1 (UInt64.ofNat (nj - 1)) 1 ++ itmsT lj else []
def sgF (rk er : Int) (th : Bool) : List UInt8 := if decide (er = 0) && decide (rk = 4) then numK 1 (bitU th) 1 else []
def sgT (rk er : Int) (th : Bool) (t : List UInt8) : List UInt8 := if chB er rk th then t else []
def sgL (b : Bool) (n : Nat) (x : List UInt8) : List UInt8 := if b then numK 2 (UInt64.ofNat n) 2 ++ x else []
theorem repT_seg {rq : UInt64} {rk er : Int} {nj : Nat} {lj : List ItemR} {th : Bool} {pv ep : UInt64} {kd : Int} {l : List UInt64} {ls : List SealR} {bl : UInt64} {tg : List UInt8} {na : Nat} {xa : List UInt8} {nb : Nat} {xb : List UInt8} (h1 : 1 ≤ rk ∧ rk ≤ 5) :
    repT rq rk er nj lj th pv ep kd l ls bl tg na xa nb xb = sgH rq rk er ++ (sgI rk er nj lj ++ (sgF rk er th ++ (sgT rk er th (tktT pv ep kd.toNat l ls bl ++ tg) ++ (sgL (aB er rk th) na xa ++ sgL (bB er rk th) nb xb)))) := by
  unfold repT
  by_cases hE : er = 0
  · subst hE
    rw [if_neg (by decide)]
    obtain rfl | rfl | rfl | rfl | rfl : rk = 1 ∨ rk = 2 ∨ rk = 3 ∨ rk = 4 ∨ rk = 5 := by omega
    · rw [if_pos rfl, show sgF 1 0 th = [] from rfl, show sgI 1 0 nj lj = numK 1 (UInt64.ofNat (nj - 1)) 1 ++ itmsT lj from rfl, show sgT 1 0 th (tktT pv ep kd.toNat l ls bl ++ tg) = [] from by cases th <;> rfl, show sgL (aB 0 1 th) na xa = [] from by cases th <;> rfl, show sgL (bB 0 1 th) nb xb = numK 2 (UInt64.ofNat nb) 2 ++ xb from by cases th <;> rfl]
      unfold sgH; simp only [List.append_assoc, List.nil_append]; rfl
    · rw [if_neg (by decide), if_pos rfl, show sgF 2 0 th = [] from rfl, show sgI 2 0 nj lj = numK 1 (UInt64.ofNat (nj - 1)) 1 ++ itmsT lj from rfl, show sgT 2 0 th (tktT pv ep kd.toNat l ls bl ++ tg) = [] from by cases th <;> rfl, show sgL (aB 0 2 th) na xa = numK 2 (UInt64.ofNat na) 2 ++ xa from by cases th <;> rfl, show sgL (bB 0 2 th) nb xb = numK 2 (UInt64.ofNat nb) 2 ++ xb from by cases th <;> rfl]
      unfold sgH; simp only [List.append_assoc, List.nil_append]; rfl
    · rw [if_neg (by decide), if_neg (by decide), if_pos rfl, show sgF 3 0 th = [] from rfl, show sgI 3 0 nj lj = [] from rfl, show sgT 3 0 th (tktT pv ep kd.toNat l ls bl ++ tg) = [] from by cases th <;> rfl, show sgL (aB 0 3 th) na xa = numK 2 (UInt64.ofNat na) 2 ++ xa from by cases th <;> rfl, show sgL (bB 0 3 th) nb xb = numK 2 (UInt64.ofNat nb) 2 ++ xb from by cases th <;> rfl]
      unfold sgH; simp only [List.append_assoc, List.nil_append]; rfl
    · rw [if_neg (by decide), if_neg (by decide), if_neg (by decide), if_pos rfl, show sgF 4 0 th = numK 1 (bitU th) 1 from rfl, show sgI 4 0 nj lj = [] from rfl]
      cases th with
      | true =>
        rw [if_pos rfl, show sgT 4 0 true (tktT pv ep kd.toNat l ls bl ++ tg) = tktT pv ep kd.toNat l ls bl ++ tg from rfl, show sgL (aB 0 4 true) na xa = numK 2 (UInt64.ofNat na) 2 ++ xa from rfl, show sgL (bB 0 4 true) nb xb = numK 2 (UInt64.ofNat nb) 2 ++ xb from rfl]
        unfold sgH; simp only [List.append_assoc, List.nil_append]; rfl
      | false =>
        rw [if_neg (by decide), show sgT 4 0 false (tktT pv ep kd.toNat l ls bl ++ tg) = [] from rfl, show sgL (aB 0 4 false) na xa = [] from rfl, show sgL (bB 0 4 false) nb xb = [] from rfl]
        unfold sgH; simp only [List.append_assoc, List.nil_append, List.append_nil]; rfl
    · rw [if_neg (by decide), if_neg (by decide), if_neg (by decide), if_neg (by decide), show sgF 5 0 th = [] from rfl, show sgI 5 0 nj lj = [] from rfl, show sgT 5 0 th (tktT pv ep kd.toNat l ls bl ++ tg) = [] from by cases th <;> rfl, show sgL (aB 0 5 th) na xa = [] from by cases th <;> rfl, show sgL (bB 0 5 th) nb xb = [] from by cases th <;> rfl]
      unfold sgH; simp only [List.append_assoc, List.nil_append, List.append_nil]; rfl
  · rw [if_pos hE]
    have hd := decide_eq_false hE
    unfold sgI sgF sgT sgL
    rw [itB_ne hE, chB_ne hE, aB_ne hE, bB_ne hE, hd]
    unfold sgH
    simp
theorem ofI {n : Int} (h0 : 0 ≤ n) (h : n < 256) : ((UInt64.ofNat n.toNat).toNat : Int) = n := by rw [UInt64.toNat_ofNat', Nat.mod_eq_of_lt (by omega)]; omega
theorem GRp.put {rq : UInt64} {rk er : Int} {nj : Nat} {lj : List ItemR} {th : Bool} {pv ep : UInt64} {kd : Int} {l : List UInt64} {ls : List SealR} {bl : UInt64} {tg : List UInt8} {na : Nat} {xa : List UInt8} {nb : Nat} {xb : List UInt8}
    (hR : repR rk er th lj (blankB pv ep kd l ls bl tg) (decide (mayN pv ep kd l ls bl = 0)) na nb = true) (hl : lj.length = nj) (ht : tg.length = 16) (hxa : xa.length = na*32) (hxb : xb.length = nb*32) :
    GRp (repT rq rk er nj lj th pv ep kd l ls bl tg na xa nb xb) rq rk er lj th pv ep kd l ls bl tg na xa nb xb := by
  refine ⟨?_, hR⟩
  obtain ⟨c1, c2, c3, c4⟩ := repR_all hR
  have c1 : 1 ≤ rk ∧ rk ≤ 5 ∧ 0 ≤ er ∧ er ≤ 14 := of_decide_eq_true c1
  rw [repT_seg ⟨c1.1, c1.2.1⟩]
  obtain ⟨z, hz⟩ : ∃ z, z = sgH rq rk er ++ (sgI rk er nj lj ++ (sgF rk er th ++ (sgT rk er th (tktT pv ep kd.toNat l ls bl ++ tg) ++ (sgL (aB er rk th) na xa ++ sgL (bB er rk th) nb xb)))) := ⟨_, rfl⟩
  rw [← hz]
  have hH : (sgH rq rk er).length = 10 := by unfold sgH; simp [AZ]
  have e0 : vQ z 0 8 = rq := F3 (a := []) (b := (numK 1 (UInt64.ofNat rk.toNat) 1 ++ numK 1 (UInt64.ofNat er.toNat) 1) ++ (sgI rk er nj lj ++ (sgF rk er th ++ (sgT rk er th (tktT pv ep kd.toNat l ls bl ++ tg) ++ (sgL (aB er rk th) na xa ++ sgL (bB er rk th) nb xb))))) (by rw [hz]; unfold sgH; simp only [List.append_assoc, List.nil_append]) rfl (by omega) (fit8 _)
  have e8 : vQ z 8 1 = UInt64.ofNat rk.toNat := F3 (a := numK 8 rq 8) (b := numK 1 (UInt64.ofNat er.toNat) 1 ++ (sgI rk er nj lj ++ (sgF rk er th ++ (sgT rk er th (tktT pv ep kd.toNat l ls bl ++ tg) ++ (sgL (aB er rk th) na xa ++ sgL (bB er rk th) nb xb))))) (by rw [hz]; unfold sgH; simp only [List.append_assoc]) (AZ _ _ _) (by omega) (fit1 (by omega))
  have e9 : vQ z 9 1 = UInt64.ofNat er.toNat := F3 (a := numK 8 rq 8 ++ numK 1 (UInt64.ofNat rk.toNat) 1) (b := (sgI rk er nj lj ++ (sgF rk er th ++ (sgT rk er th (tktT pv ep kd.toNat l ls bl ++ tg) ++ (sgL (aB er rk th) na xa ++ sgL (bB er rk th) nb xb))))) (by rw [hz]; unfold sgH; simp only [List.append_assoc]) (by simp [AZ]) (by omega) (fit1 (by omega))
  have hk : rkZ z = rk := by unfold rkZ; rw [e8]; exact ofI (by omega) (by omega)
  have he : erZ z = er := by unfold erZ; rw [e9]; exact ofI (by omega) (by omega)
  have hit : itZ z = itB er rk := by unfold itZ; rw [hk, he]
  have hf4 : F4 z = (decide (er = 0) && decide (rk = 4)) := by unfold F4; rw [hk, he]
  -- the items
  have p1 : P1 z = (sgH rq rk er ++ sgI rk er nj lj).length ∧ lj = ljZ z := by
    cases hi : itB er rk with
    | true =>
      rw [hi] at c2 hit
      have hj := c2_len1 hl c2
      have hs : sgI rk er nj lj = numK 1 (UInt64.ofNat (nj - 1)) 1 ++ itmsT lj := by unfold sgI; rw [hi, if_pos rfl]
      have e10 : vQ z 10 1 = UInt64.ofNat (nj - 1) := F3 (a := sgH rq rk er) (b := itmsT lj ++ (sgF rk er th ++ (sgT rk er th (tktT pv ep kd.toNat l ls bl ++ tg) ++ (sgL (aB er rk th) na xa ++ sgL (bB er rk th) nb xb)))) (by rw [hz, hs]; simp only [List.append_assoc]) hH (by omega) (fit1 (by omega))
      have hn : nI z = nj := by unfold nI; rw [e10, UInt64.toNat_ofNat', Nat.mod_eq_of_lt (by omega)]; omega
      have hb := itms_back (z := z) (lj := lj) (A := sgH rq rk er ++ numK 1 (UInt64.ofNat (nj - 1)) 1) (B := sgF rk er th ++ (sgT rk er th (tktT pv ep kd.toNat l ls bl ++ tg) ++ (sgL (aB er rk th) na xa ++ sgL (bB er rk th) nb xb))) (by rw [hz, hs]; simp only [List.append_assoc]) (p := 11) (by rw [List.length_append, hH, AZ]) (plain_all c2) nj (by omega)
      rw [List.take_of_length_le (by omega)] at hb
      refine ⟨?_, ?_⟩
      · rw [P1_t hit, hn, hb.2, hs, List.length_append, List.length_append, hH, AZ]; omega
      · rw [ljZ_t hit, hn, hb.1]
    | false =>
      rw [hi] at c2 hit
      have hj := c2_len0 hl c2
      have hs : sgI rk er nj lj = [] := by unfold sgI; rw [hi, if_neg (by decide)]
      refine ⟨?_, ?_⟩
      · rw [P1_f hit, hs, List.append_nil, hH]
      · rw [ljZ_f hit]; exact List.eq_nil_of_length_eq_zero (by omega)
  -- the flag
  have p2 : P2 z = ((sgH rq rk er ++ sgI rk er nj lj) ++ sgF rk er th).length ∧ th = thZ z := by
    cases hi : decide (er = 0) && decide (rk = 4) with
    | true =>
      rw [hi] at hf4
      have hs : sgF rk er th = numK 1 (bitU th) 1 := by unfold sgF; rw [hi, if_pos rfl]
      have hb := fl_at (z := z) (A := sgH rq rk er ++ sgI rk er nj lj) (B := sgT rk er th (tktT pv ep kd.toNat l ls bl ++ tg) ++ (sgL (aB er rk th) na xa ++ sgL (bB er rk th) nb xb)) (b := th) (by rw [hz, hs]; simp only [List.append_assoc]) p1.1.symm
      exact ⟨by rw [P2_t hf4, hb.2, hs, List.length_append, ← p1.1, AZ], by rw [thZ_t hf4, hb.1]⟩
    | false =>
      rw [hi] at hf4
      have hs : sgF rk er th = [] := by unfold sgF; rw [hi, if_neg (by decide)]
      have hc : chB er rk th = false := by
        unfold chB
        rw [← Bool.and_assoc, hi]; rfl
      rw [hc] at c3
      unfold c3B at c3
      rw [if_neg (by decide), Bool.and_eq_true, Bool.not_eq_true'] at c3
      exact ⟨by rw [P2_f hf4, hs, List.append_nil, ← p1.1], by rw [thZ_f hf4]; exact c3.1⟩
  have hch : chZ z = chB er rk th := by unfold chZ; rw [hk, he, ← p2.2]
  have hab : aZ z = aB er rk th := by unfold aZ; rw [hk, he, ← p2.2]
  have hbb : bZ z = bB er rk th := by unfold bZ; rw [hk, he, ← p2.2]
  -- the ticket
  have p3 : P3 z = (((sgH rq rk er ++ sgI rk er nj lj) ++ sgF rk er th) ++ sgT rk er th (tktT pv ep kd.toNat l ls bl ++ tg)).length ∧ TkZ z pv ep kd l ls bl tg := by
    cases hc : chB er rk th with
    | true =>
      rw [hc] at c3 hch
      have hm : mayN pv ep kd l ls bl = 0 := of_decide_eq_true c3
      have hs : sgT rk er th (tktT pv ep kd.toNat l ls bl ++ tg) = tktT pv ep kd.toNat l ls bl ++ tg := by unfold sgT; rw [hc, if_pos rfl]
      have hd : z.drop (P2 z) = (tktT pv ep kd.toNat l ls bl ++ tg) ++ (sgL (aB er rk th) na xa ++ sgL (bB er rk th) nb xb) := drop_at (A := (sgH rq rk er ++ sgI rk er nj lj) ++ sgF rk er th) (by rw [hz, hs]; simp only [List.append_assoc]) p2.1.symm
      have hT := (tkt_R hm ht).app (sgL (aB er rk th) na xa ++ sgL (bB er rk th) nb xb) (Nat.le_refl _)
      rw [← hd] at hT
      have htot := TkR.tot hT
      refine ⟨?_, .inl ⟨hch, by rw [← htot]; exact hT⟩⟩
      rw [P3_t hch, ← htot, hs, p2.1]; simp only [List.length_append]
    | false =>
      rw [hc] at c3 hch
      have hs : sgT rk er th (tktT pv ep kd.toNat l ls bl ++ tg) = [] := by unfold sgT; rw [hc, if_neg (by decide)]
      unfold c3B at c3
      rw [if_neg (by decide), Bool.and_eq_true] at c3
      obtain ⟨rfl, rfl, rfl, rfl, rfl, rfl, rfl⟩ := blank_all c3.2
      exact ⟨by rw [P3_f hch, hs, List.append_nil, ← p2.1], .inr ⟨hch, rfl, rfl, rfl, rfl, rfl, rfl, rfl⟩⟩
  unfold c4B at c4
  simp only [Bool.and_eq_true, Bool.or_eq_true, decide_eq_true_eq] at c4
  obtain ⟨⟨n1, n2⟩, n3, n4⟩ := c4
  -- hashes
  have p4 : P4 z = ((((sgH rq rk er ++ sgI rk er nj lj) ++ sgF rk er th) ++ sgT rk er th (tktT pv ep kd.toNat l ls bl ++ tg)) ++ sgL (aB er rk th) na xa).length ∧ na = naZ z ∧ xa = xaZ z := by
    cases hc : aB er rk th with
    | true =>
      rw [hc] at hab
      have hs : sgL true na xa = numK 2 (UInt64.ofNat na) 2 ++ xa := rfl
      have hb := lst_at (z := z) (x := xa) (n := na) (A := ((sgH rq rk er ++ sgI rk er nj lj) ++ sgF rk er th) ++ sgT rk er th (tktT pv ep kd.toNat l ls bl ++ tg)) (B := sgL (bB er rk th) nb xb) (by rw [hz, hc, hs]; simp only [List.append_assoc]) p3.1.symm (by omega) hxa
      refine ⟨?_, ?_, ?_⟩
      · rw [P4_t hab, hb.1, hs, List.length_append, ← p3.1, List.length_append, AZ, hxa]; omega
      · rw [(A_t hab).1, hb.1]
      · rw [(A_t hab).2, hb.1, hb.2]
    | false =>
      rw [hc] at hab n3
      have h0 : na = 0 := by simpa using n3
      subst h0
      refine ⟨?_, (A_f hab).1.symm, ?_⟩
      · rw [P4_f hab, show sgL false 0 xa = [] from rfl, List.append_nil, ← p3.1]
      · rw [(A_f hab).2]; exact List.eq_nil_of_length_eq_zero (by omega)
  have p5 : P5 z = z.length ∧ nb = nbZ z ∧ xb = xbZ z := by
    cases hc : bB er rk th with
    | true =>
      rw [hc] at hbb
      have hs : sgL true nb xb = numK 2 (UInt64.ofNat nb) 2 ++ xb := rfl
      have hb := lst_at (z := z) (x := xb) (n := nb) (A := (((sgH rq rk er ++ sgI rk er nj lj) ++ sgF rk er th) ++ sgT rk er th (tktT pv ep kd.toNat l ls bl ++ tg)) ++ sgL (aB er rk th) na xa) (B := []) (by rw [hz, hc, hs, List.append_nil]; simp only [List.append_assoc]) p4.1.symm (by omega) hxb
      refine ⟨?_, ?_, ?_⟩
      · rw [P5_t hbb, hb.1, p4.1, hz, hc, hs]; simp only [List.length_append, AZ, hxb]; omega
      · rw [(B_t hbb).1, hb.1]
      · rw [(B_t hbb).2, hb.1, hb.2]
    | false =>
      rw [hc] at hbb n4
      have h0 : nb = 0 := by simpa using n4
      subst h0
      refine ⟨?_, (B_f hbb).1.symm, ?_⟩
      · rw [P5_f hbb, p4.1, hz, hc, show sgL false 0 xb = [] from rfl]; simp only [List.length_append, List.length_nil, Nat.add_zero]; omega
      · rw [(B_f hbb).2]; exact List.eq_nil_of_length_eq_zero (by omega)
  exact ⟨p5.1, e0.symm, hk.symm, he.symm, p1.2, p2.2, p3.2, p4.2.1, p4.2.2, p5.2.1, p5.2.2⟩
theorem GRp.one {z : List UInt8} {rq : UInt64} {rk er : Int} {lj : List ItemR} {th : Bool} {pv ep : UInt64} {kd : Int} {l : List UInt64} {ls : List SealR} {bl : UInt64} {tg : List UInt8} {na : Nat} {xa : List UInt8} {nb : Nat} {xb : List UInt8}
  {rq' : UInt64} {rk' er' : Int} {lj' : List ItemR} {th' : Bool} {pv' ep' : UInt64} {kd' : Int} {l' : List UInt64} {ls' : List SealR} {bl' : UInt64} {tg' : List UInt8} {na' : Nat} {xa' : List UInt8} {nb' : Nat} {xb' : List UInt8} (h : GRp z rq rk er lj th pv ep kd l ls bl tg na xa nb xb) (h' : GRp z rq' rk' er' lj' th' pv' ep' kd' l' ls' bl' tg' na' xa' nb' xb') : rq = rq' ∧ rk = rk' ∧ er = er' ∧ lj = lj' ∧ th = th' ∧ pv = pv' ∧ ep = ep' ∧ kd = kd' ∧ l = l' ∧ ls = ls' ∧ bl = bl' ∧ tg = tg' ∧ na = na' ∧ xa = xa' ∧ nb = nb' ∧ xb = xb' := by
 obtain ⟨⟨_, a1, a2, a3, a4, a5, hT, a6, a7, a8, a9⟩, _⟩ := h
 obtain ⟨⟨_, b1, b2, b3, b4, b5, hT', b6, b7, b8, b9⟩, _⟩ := h'
 obtain ⟨c1, c2, c3, c4, c5, c6, c7⟩ := hT.one hT'
 exact ⟨a1.trans b1.symm, a2.trans b2.symm, a3.trans b3.symm, a4.trans b4.symm, a5.trans b5.symm, c1, c2, c3, c4, c5, c6, c7, a6.trans b6.symm, a7.trans b7.symm, a8.trans b8.symm, a9.trans b9.symm⟩
theorem reqT_le {sq : UInt64} {qk : Int} {niq : Nat} {lq : List UInt64} {fs : UInt64} {mn : Int} {pv ep : UInt64} {kd : Int} {ni : Nat} {l : List UInt64} {ns : Nat} {ls : List SealR} {bl : UInt64} {tg : List UInt8} {eq : UInt64} (hl : l.length = ni) (hls : ls.length = ns) (htg : tg.length = 16) (h1 : niq ≤ 300) (h2 : ni ≤ 300) (h3 : ns ≤ 300) : (reqT sq qk niq lq fs mn pv ep kd l ls bl tg eq).length ≤ 100000 := by
 have h7 := FM (pv := pv) (ep := ep) (k := kd.toNat) (bl := bl) hl hls
 have h8 := tktN_le (k := kd.toNat) h2 h3
 unfold reqT
 repeat' split
 all_goals (simp only [List.length_append, AZ, FQ]; omega)
theorem repT_le2 {rq : UInt64} {rk er : Int} {nj : Nat} {lj : List ItemR} {th : Bool} {pv ep : UInt64} {kd : Int} {ni : Nat} {l : List UInt64} {ns : Nat} {ls : List SealR} {bl : UInt64} {tg : List UInt8} {nha : Nat} {xha : List UInt8} {nhb : Nat} {xhb : List UInt8} (hlj : lj.length = nj) (hl : l.length = ni) (hls : ls.length = ns) (htg : tg.length = 16) (ha : xha.length = nha*32) (hb : xhb.length = nhb*32) (h1 : nj ≤ 300) (h2 : ni ≤ 300) (h3 : ns ≤ 300) (h4 : nha ≤ 300) (h5 : nhb ≤ 300) : (repT rq rk er nj lj th pv ep kd l ls bl tg nha xha nhb xhb).length ≤ 100000 := by
 have h6 := itms_le lj
 have h7 := FM (pv := pv) (ep := ep) (k := kd.toNat) (bl := bl) hl hls
 have h8 := tktN_le (k := kd.toNat) h2 h3
 unfold repT
 repeat' split
 all_goals (simp only [List.length_append, AZ]; omega)
end Go.Proofs.YtkdpdgpphpngeaaDoor
