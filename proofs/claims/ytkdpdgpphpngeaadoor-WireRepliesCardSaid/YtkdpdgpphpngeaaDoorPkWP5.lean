import Derived.Test.YtkdpdgpphpngeaaDoorPkWP4
set_option linter.unusedVariables false
set_option linter.unusedSimpArgs false
set_option maxRecDepth 100000
namespace Go.Proofs.YtkdpdgpphpngeaaDoor
open Go Go.Sx
open Go.Value renaming slice → SL
attribute [local irreducible] mid zr8 numK rnK valK constL initL putL RightB tktT mayN idxT selT blankB plainV itB chB bB aB c1B c2B c3B c4B repR
set_option maxHeartbeats 2000000 in
theorem putRepE_c (rq : UInt64) (rk er : Nat) (aj : Option Addr) (nj cj : Nat) (lj : List ItemR) (th : Bool) (pv ep : UInt64) (kd : Int) (ai : Option Addr) (ni ci : Nat) (l : List UInt64) (sa : Option Addr) (ns sc : Nat) (ls : List SealR) (bl : UInt64) (tg : List UInt8) (aha : Option Addr) (nha cha : Nat) (xha : List UInt8) (ahb : Option Addr) (nhb chb : Nat) (xhb : List UInt8)  (w : World) (hlj : lj.length = nj) (hnj : nj ≤ 2000000) (hdj : nj ≤ cj) (hcj : cj ≤ maxLen) (hj : RdV w aj (lj.flatMap itemC)) (hl : l.length = ni) (hnm : ni ≤ 2000000) (hnc : ni ≤ ci) (hcm : ci ≤ maxLen) (hv : RdV w ai (cu64 l)) (hls : ls.length = ns) (hnn : ns ≤ 2000000) (hnd : ns ≤ sc) (hcn : sc ≤ maxLen) (hs : RdV w sa (ls.flatMap sealC)) (htg : tg.length = 16) (hlha : xha.length = nha * 32) (hnha : nha ≤ 9000) (hdha : nha ≤ cha) (hcha : cha ≤ maxLen) (hrha : RdB w [] aha xha) (hlhb : xhb.length = nhb * 32) (hnhb : nhb ≤ 9000) (hdhb : nhb ≤ chb) (hchb : chb ≤ maxLen) (hrhb : RdB w [] ahb xhb) (hbi : ni ≤ 300) (hbs : ns ≤ 300) (hA : nha ≤ 300) (hB : nhb ≤ 300) (hR : repR ((rk:Int)) ((er:Int)) th lj (blankB pv ep kd l ls bl tg) (decide (mayN pv ep kd l ls bl = 0)) nha nhb = true) (hE : (er:Int) ≠ 0)  : Calls Tryd.prog 34 #[.agg ([U64 rq, I64 rk, I64 er, SL aj nj cj, .bool th, U64 pv, U64 ep, I64 (kd), SL ai ni ci, SL sa ns sc, U64 bl] ++ cu8 tg ++ [SL aha nha cha, SL ahb nhb chb]).toArray] w (Post w [] (fun v L => ∃ g sp cap, v = .tuple #[Slc g 0 (10) cap, .nilIface] ∧ L = [⟨g, cu8 ((numK 8 rq 8 ++ numK 1 (UInt64.ofNat rk) 1) ++ numK 1 (UInt64.ofNat er) 1) ++ sp, 5, (0, 0)⟩] ∧ sp.length = cap - 10 ∧ 10 ≤ cap ∧ cap ≤ maxLen)) := by
 have hmx : maxLen = 9223372036854775807 := rfl
 have hf := repR_f hlj hR
 have hn0 := repR_E hlj hE hR
 refine enter (P := Tryd.prog) (f := 34) (fn := Tryd.f34) w [] 103 [] [.agg ([U64 rq, I64 rk, I64 er, SL aj nj cj, .bool th, U64 pv, U64 ep, I64 (kd), SL ai ni ci, SL sa ns sc, U64 bl] ++ cu8 tg ++ [SL aha nha cha, SL ahb nhb chb]).toArray] Tryd.func34 rfl rfl (by simp) (CC (by simp) (by simp) (by simp)) ?_
 show JC _ _ _ [(0, .agg ([U64 rq, I64 rk, I64 er, SL aj nj cj, .bool th, U64 pv, U64 ep, I64 (kd), SL ai ni ci, SL sa ns sc, U64 bl] ++ cu8 tg ++ [SL aha nha cha, SL ahb nhb chb]).toArray)] _
 refine AK (AD (A9 (CL (.agg ([U64 rq, I64 rk, I64 er, SL aj nj cj, .bool th, U64 pv, U64 ep, I64 (kd), SL ai ni ci, SL sa ns sc, U64 bl] ++ cu8 tg ++ [SL aha nha cha, SL ahb nhb chb]).toArray) ([U64 rq, I64 rk, I64 er, SL aj nj cj, .bool th, U64 pv, U64 ep, I64 (kd), SL ai ni ci, SL sa ns sc, U64 bl] ++ cu8 tg ++ [SL aha nha cha, SL ahb nhb chb]) rfl (by first | rfl | simp)) rfl ?_))
 rintro v1 L1 ⟨nb1, hnb1, rfl, rfl⟩
 show JL _ _ _ _ ((1, Ptr nb1 0) :: _) [⟨nb1, [U64 rq, I64 rk, I64 er, SL aj nj cj, .bool th, U64 pv, U64 ep, I64 (kd), SL ai ni ci, SL sa ns sc, U64 bl] ++ cu8 tg ++ [SL aha nha cha, SL ahb nhb chb], 67, (0, 0)⟩]
 refine AA _ (AH rfl) rfl ?_
 refine AA _ (AH rfl) rfl ?_
 refine AN (AF (AK (AK (AD (AA (.agg ([U64 rq, I64 rk, I64 er, SL aj nj cj, .bool th, U64 pv, U64 ep, I64 (kd), SL ai ni ci, SL sa ns sc, U64 bl] ++ cu8 tg ++ [SL aha nha cha, SL ahb nhb chb]).toArray) (AI rfl (BV CV CH (by simp [htg]) (AS 0 rfl (AV _)))) rfl ?_)))))
 refine B1 (BG 35 [.agg ([U64 rq, I64 rk, I64 er, SL aj nj cj, .bool th, U64 pv, U64 ep, I64 (kd), SL ai ni ci, SL sa ns sc, U64 bl] ++ cu8 tg ++ [SL aha nha cha, SL ahb nhb chb]).toArray] (.bool (repR ((rk:Int)) ((er:Int)) th lj (blankB pv ep (kd) l ls bl tg) (decide (mayN pv ep (kd) l ls bl = 0)) nha nhb)) (A6 _ Tryd.call35 rfl) (fun w1 hw1 => FX rq ((rk:Int)) ((er:Int)) aj nj cj lj th pv ep (kd) ai ni ci l sa ns sc ls bl tg aha nha cha xha ahb nhb chb xhb w1 hlj (by omega) (by omega) (by omega) (CA hw1 rfl hj) hl (by omega) (by omega) (by omega) (CA hw1 rfl hv) hls (by omega) (by omega) (by omega) (CA hw1 rfl hs) htg hlha (by omega) (by omega) (by omega) (hrha.at (M' := []) hw1 (by simp)) hlhb (by omega) (by omega) (by omega) (hrhb.at (M' := []) hw1 (by simp)) (by omega) (by omega))) rfl ?_
 show JL _ _ _ _ ((14, .bool (repR ((rk:Int)) ((er:Int)) th lj (blankB pv ep (kd) l ls bl tg) (decide (mayN pv ep (kd) l ls bl = 0)) nha nhb)) :: _) [_]
 refine AA (.bool (!(repR ((rk:Int)) ((er:Int)) th lj (blankB pv ep (kd) l ls bl tg) (decide (mayN pv ep (kd) l ls bl = 0)) nha nhb))) (EP rfl) rfl ?_
 refine AN (AF (BN _ rfl (bnotT hR) ?_))
 refine BE (AF (AK (AD (AA (.agg ([U64 rq, I64 rk, I64 er, SL aj nj cj, .bool th, U64 pv, U64 ep, I64 (kd), SL ai ni ci, SL sa ns sc, U64 bl] ++ cu8 tg ++ [SL aha nha cha, SL ahb nhb chb]).toArray) (AI rfl (BV CV CH (by simp [htg]) (AS 0 rfl (AV _)))) rfl ?_))))
 refine B1 (BG 95 [.agg ([U64 rq, I64 rk, I64 er, SL aj nj cj, .bool th, U64 pv, U64 ep, I64 (kd), SL ai ni ci, SL sa ns sc, U64 bl] ++ cu8 tg ++ [SL aha nha cha, SL ahb nhb chb]).toArray] (.tuple #[.bool (itB ((er:Int)) ((rk:Int))), .bool (chB ((er:Int)) ((rk:Int)) th), .bool (aB ((er:Int)) ((rk:Int)) th), .bool (bB ((er:Int)) ((rk:Int)) th)]) (A6 _ Tryd.call95 rfl) (fun w1 hw1 => parts_c rq ((rk:Int)) ((er:Int)) aj nj cj lj th pv ep (kd) ai ni ci l sa ns sc ls bl tg aha nha cha xha ahb nhb chb xhb w1 htg)) rfl ?_
 show JL _ _ _ _ ((19, .tuple #[.bool (itB ((er:Int)) ((rk:Int))), .bool (chB ((er:Int)) ((rk:Int)) th), .bool (aB ((er:Int)) ((rk:Int)) th), .bool (bB ((er:Int)) ((rk:Int)) th)]) :: _) [_]
 refine AA _ (AL rfl) rfl ?_
 refine AA _ (B0 rfl rfl) rfl ?_
 refine AA _ (B0 rfl rfl) rfl ?_
 refine AA _ (B0 rfl rfl) rfl ?_
 refine AA _ (B0 rfl rfl) rfl ?_
 refine AA _ (AH rfl) rfl ?_
 refine AA _ (AH rfl) rfl ?_
 refine AA _ (AH rfl) rfl ?_
 refine AA _ (AH rfl) rfl ?_
 refine AN (AF (AK (AD (AA (.agg #[.nilIface, SL none 0 0]) (EB [] _ rfl (fun _ => by kernel_rfl)) rfl ?_))))
 refine A9 (CL (.agg #[.nilIface, SL none 0 0]) ([.nilIface, SL none 0 0]) rfl (by first | rfl | simp)) rfl ?_
 rintro v1 L1 ⟨nb2, hnb2, rfl, rfl⟩
 show JL _ _ _ _ ((25, Ptr nb2 0) :: _) [_, ⟨nb2, [.nilIface, SL none 0 0], 149, (0, 0)⟩]
 refine AA _ (AH rfl) rfl ?_
 refine AN (AF (AK (DH 103 4 [(0, Ptr nb2 0), (1, Ptr nb1 0), (2, U64 rq), (4, Ptr nb1 1), (5, I64 rk), (6, U64 (UInt64.ofNat rk)), (8, Ptr nb1 2), (9, I64 er), (10, U64 (UInt64.ofNat er))] B8 rfl (by decide +kernel) ?_)))
 refine CZ ⟨[], [0, 1, 2, 4, 5, 6, 8, 9, 10], [], [0, 1, 2, 4, 5, 6, 8, 9, 10], [3]⟩ 3 _ rfl rfl (by decide +kernel) rfl ⟨CD rfl rfl rfl, ⟨_, rfl, AJ rfl (AB 0 22 1 AM rfl AX rfl rfl)⟩, ⟨_, rfl, AJ rfl (AI rfl (AQ AY (AS 0 rfl (AG (AG (Seg.head))))))⟩, ⟨_, rfl, AJ rfl (AB 1 3 1 AM rfl AR rfl rfl)⟩, ⟨_, rfl, AJ rfl (AI rfl (AQ AT (AS 0 rfl (AG (AG (AE (Seg.head)))))))⟩, ⟨_, rfl, AJ rfl (CX _ _ rfl fun _ => EL (by rw [AZ]; rfl) A3 rk _ (by omega))⟩, ⟨_, rfl, AJ rfl (AB 2 3 1 AM rfl AR rfl rfl)⟩, ⟨_, rfl, AJ rfl (AI rfl (AQ AT (AS 0 rfl (AG (AG (AE (AE (Seg.head))))))))⟩, ⟨_, rfl, AJ rfl (CX _ _ rfl fun _ => EL (by rw [AZ]; rfl) A3 er _ (by omega))⟩, trivial⟩ rfl (BI rfl (CB 81 _ [false, true] [nb2] _ (A6 [Ptr nb2 0, U64 rq, I64 8] C4 rfl) rfl (fun w1 hw1 => numN_c nb2 8 .nilIface rq 8 w1 (hw1.ent _ (List.mem_of_getElem? (i := 1) rfl)) (by unfold Szd; omega) (fun h => absurd h (by omega)) (by omega)))) ?_
 rintro v1 L1 ⟨_, ⟨rfl, nb3, sp1, cp1, rfl, hc1, hc2, hc3⟩, rfl⟩
 refine ⟨[], ?_⟩
 show DP _ _ _ _ _ _ _ _ [_, ⟨nb2, [.nilIface, Slc nb3 0 8 cp1], 149, (0, 0)⟩, ⟨nb3, cu8 (numK 8 rq 8) ++ sp1, 5, (0, 0)⟩]
 refine CZ ⟨[3], [0, 1, 2, 4, 5, 6, 8, 9, 10], [0, 1, 2], [4, 5, 6, 8, 9, 10], [7]⟩ 7 _ rfl rfl (by decide +kernel) rfl ⟨⟨_, rfl, AJ rfl (AB 1 3 1 AM rfl AR rfl rfl)⟩, ⟨_, rfl, AJ rfl (AI rfl (AQ AT (AS 0 rfl (AG (AG (AE (Seg.head)))))))⟩, ⟨_, rfl, AJ rfl (CX _ _ rfl fun _ => EL (by rw [AZ]; rfl) A3 rk _ (by omega))⟩, ⟨_, rfl, AJ rfl (AB 2 3 1 AM rfl AR rfl rfl)⟩, ⟨_, rfl, AJ rfl (AI rfl (AQ AT (AS 0 rfl (AG (AG (AE (AE (Seg.head))))))))⟩, ⟨_, rfl, AJ rfl (CX _ _ rfl fun _ => EL (by rw [AZ]; rfl) A3 er _ (by omega))⟩, trivial⟩ rfl (BI rfl (CB 81 _ [false, true, true] [nb2, nb3] _ (A6 [Ptr nb2 0, U64 (UInt64.ofNat rk), I64 1] C4 rfl) rfl (fun w1 hw1 => FR nb2 nb3 8 cp1 9 .nilIface (numK 8 rq 8) sp1 (UInt64.ofNat rk) 1 w1 (hw1.ent _ (List.mem_of_getElem? (i := 1) rfl)) (hw1.ent _ (List.mem_of_getElem? (i := 2) rfl)) (hw1.ne (i := 1) (j := 2) rfl rfl (by decide)) (show (numK 8 rq 8).length = 8 from (A4 _ _ _)) hc1 hc2 hc3 (by omega) (by unfold Szd; omega) (fun _ => shr8n (by omega)) (by omega)))) ?_
 rintro v1 L1 ⟨_, ⟨rfl, nb4, sp2, cp2, rfl, hc4, hc5, hc6⟩, rfl⟩
 refine ⟨[], ?_⟩
 show DP _ _ _ _ _ _ _ _ [_, ⟨nb2, [.nilIface, Slc nb4 0 9 cp2], 149, (0, 0)⟩, ⟨nb4, cu8 ((numK 8 rq 8) ++ numK 1 (UInt64.ofNat rk) 1) ++ sp2, 5, (0, 0)⟩]
 refine CZ ⟨[3, 7], [0, 1, 2, 4, 5, 6, 8, 9, 10], [0, 1, 2, 4, 5, 6], [8, 9, 10], [11]⟩ 11 _ rfl rfl (by decide +kernel) rfl ⟨⟨_, rfl, AJ rfl (AB 2 3 1 AM rfl AR rfl rfl)⟩, ⟨_, rfl, AJ rfl (AI rfl (AQ AT (AS 0 rfl (AG (AG (AE (AE (Seg.head))))))))⟩, ⟨_, rfl, AJ rfl (CX _ _ rfl fun _ => EL (by rw [AZ]; rfl) A3 er _ (by omega))⟩, trivial⟩ rfl (BI rfl (CB 81 _ [false, true, true] [nb2, nb4] _ (A6 [Ptr nb2 0, U64 (UInt64.ofNat er), I64 1] C4 rfl) rfl (fun w1 hw1 => FR nb2 nb4 9 cp2 10 .nilIface ((numK 8 rq 8) ++ numK 1 (UInt64.ofNat rk) 1) sp2 (UInt64.ofNat er) 1 w1 (hw1.ent _ (List.mem_of_getElem? (i := 1) rfl)) (hw1.ent _ (List.mem_of_getElem? (i := 2) rfl)) (hw1.ne (i := 1) (j := 2) rfl rfl (by decide)) (show ((numK 8 rq 8) ++ numK 1 (UInt64.ofNat rk) 1).length = 9 from (by rw [List.length_append, (show (numK 8 rq 8).length = 8 from (A4 _ _ _)), A4] <;> omega)) hc4 hc5 hc6 (by omega) (by unfold Szd; omega) (fun _ => shr8n (by omega)) (by omega)))) ?_
 rintro v1 L1 ⟨_, ⟨rfl, nb5, sp3, cp3, rfl, hc7, hc8, hc9⟩, rfl⟩
 refine ⟨[], ?_⟩
 show DP _ _ _ _ _ _ _ _ [_, ⟨nb2, [.nilIface, Slc nb5 0 10 cp3], 149, (0, 0)⟩, ⟨nb5, cu8 (((numK 8 rq 8) ++ numK 1 (UInt64.ofNat rk) 1) ++ numK 1 (UInt64.ofNat er) 1) ++ sp3, 5, (0, 0)⟩]
 refine DN ⟨[3, 7, 11], [0, 1, 2, 4, 5, 6, 8, 9, 10], [0, 1, 2, 4, 5, 6, 8, 9, 10], [], []⟩ rfl rfl (by decide +kernel) rfl trivial ?_
 refine C7 (F' := [(1, Ptr nb1 0), (2, SL none 0 0), (3, .nilIface), (4, .bool (itB ((er:Int)) ((rk:Int)))), (5, .bool (chB ((er:Int)) ((rk:Int)) th)), (6, .bool (aB ((er:Int)) ((rk:Int)) th)), (7, .bool (bB ((er:Int)) ((rk:Int)) th)), (8, Ptr nb2 0)]) (by kernel_rfl) ?_
 refine AF (AK (AK (AD (AA _ (AL rfl) rfl ?_))))
 refine AN (AF (BN _ rfl (itB_ne hE) ?_))
 refine BE (AF (AK (AK (AD (AA (Ptr nb1 3) (AB 3 64 1 AM rfl D5 rfl rfl) rfl ?_)))))
 refine AA (SL aj nj cj) (AI rfl (AQ EE (AS 0 rfl (AG (AG (AE (AE (AE (Seg.head))))))))) rfl ?_
 refine AA (I64 nj) (CY CF rfl) rfl ?_
 refine AA _ (AL rfl) rfl ?_
 refine AN (AF (B2 (DV (ι := Unit) (fun _ => [(1, Ptr nb1 0), (2, SL none 0 0), (3, .nilIface), (5, .bool (chB ((er:Int)) ((rk:Int)) th)), (6, .bool (aB ((er:Int)) ((rk:Int)) th)), (7, .bool (bB ((er:Int)) ((rk:Int)) th)), (8, Ptr nb2 0), (47, SL aj nj cj), (48, I64 nj), (49, I64 0)]) (fun _ => [⟨nb1, [U64 rq, I64 rk, I64 er, SL aj nj cj, .bool th, U64 pv, U64 ep, I64 (kd), SL ai ni ci, SL sa ns sc, U64 bl] ++ cu8 tg ++ [SL aha nha cha, SL ahb nhb chb], 67, (0, 0)⟩, ⟨nb2, [.nilIface, Slc nb5 0 10 cp3], 149, (0, 0)⟩, ⟨nb5, cu8 (((numK 8 rq 8) ++ numK 1 (UInt64.ofNat rk) 1) ++ numK 1 (UInt64.ofNat er) 1) ++ sp3, 5, (0, 0)⟩]) (fun _ => True) (fun _ => 1) () trivial (Sub.all rfl) rfl ?_)))
 rintro _ _
 show JC _ _ _ [(1, Ptr nb1 0), (2, SL none 0 0), (3, .nilIface), (5, .bool (chB ((er:Int)) ((rk:Int)) th)), (6, .bool (aB ((er:Int)) ((rk:Int)) th)), (7, .bool (bB ((er:Int)) ((rk:Int)) th)), (8, Ptr nb2 0), (47, SL aj nj cj), (48, I64 nj), (49, I64 0)] [⟨nb1, [U64 rq, I64 rk, I64 er, SL aj nj cj, .bool th, U64 pv, U64 ep, I64 (kd), SL ai ni ci, SL sa ns sc, U64 bl] ++ cu8 tg ++ [SL aha nha cha, SL ahb nhb chb], 67, (0, 0)⟩, ⟨nb2, [.nilIface, Slc nb5 0 10 cp3], 149, (0, 0)⟩, ⟨nb5, cu8 (((numK 8 rq 8) ++ numK 1 (UInt64.ofNat rk) 1) ++ numK 1 (UInt64.ofNat er) 1) ++ sp3, 5, (0, 0)⟩]
 refine AK (AD (AA (.bool (decide ((0:Int) < ((nj:Int))))) (AU rfl rfl fun _ => CR _ _) rfl ?_))
 refine AN (AF (AK (BN _ rfl (decide_eq_false (by omega)) ?_)))
 refine DU (A5 (A5 (CQ (AF (AK (AK (AD (AA (Ptr nb1 2) (AB 2 3 1 AM rfl AR rfl rfl) rfl ?_))))))))
 refine AA (I64 er) (AI rfl (AQ AT (AS 0 rfl (AG (AG (AE (AE (Seg.head)))))))) rfl ?_
 refine AA (.bool (decide (((er:Int)) = (0:Int)))) (AU rfl rfl fun _ => BO _ _) rfl ?_
 refine AA _ (AL rfl) rfl ?_
 refine AC 3 68 true _ rfl rfl (decide_eq_false hE) rfl ?_
 refine AC 3 68 true _ rfl rfl (decide_eq_false hE) rfl ?_
 refine AC 3 68 true _ rfl rfl (decide_eq_false hE) rfl ?_
 refine AA _ (A0 _ rfl (decide_eq_false hE) rfl) rfl ?_
 refine AN (AF (BN _ rfl rfl ?_))
 refine BE (AF (AK (AK (AD (AA _ (AL rfl) rfl ?_)))))
 refine AN (AF (BN _ rfl (chB_ne hE) ?_))
 refine BE (AF (AK (AK (AD (AA _ (AL rfl) rfl ?_)))))
 refine AN (AF (BN _ rfl (aB_ne hE) ?_))
 refine BE (AF (AK (AK (AD (AA _ (AL rfl) rfl ?_)))))
 refine AN (AF (BN _ rfl (bB_ne hE) ?_))
 refine BE (AF (AK (AD (AA _ (AL rfl) rfl ?_))))
 refine A9 (CG 83 [Ptr nb2 0] _ (A6 _ Tryd.call83 rfl) (fun w1 hw1 => doneO_c nb2 0 nb5 10 cp3 (((numK 8 rq 8) ++ numK 1 (UInt64.ofNat rk) 1) ++ numK 1 (UInt64.ofNat er) 1) w1 (RdA.of hw1 (AS 1 rfl (AV _)) (by simp)) rfl (show (((numK 8 rq 8) ++ numK 1 (UInt64.ofNat rk) 1) ++ numK 1 (UInt64.ofNat er) 1).length = 10 from (by rw [List.length_append, (show ((numK 8 rq 8) ++ numK 1 (UInt64.ofNat rk) 1).length = 9 from (by rw [List.length_append, (show (numK 8 rq 8).length = 8 from (A4 _ _ _)), A4] <;> omega)), A4] <;> omega)) (by omega) (RdB.of hw1 (AS 2 rfl (AG (AV _))) (by simp)))) rfl ?_
 rintro v1 L1 ⟨_, ⟨nb6, sp4, cp4, rfl, rfl, hc10, hc11, hc12⟩, rfl⟩
 show JL _ _ _ _ ((100, .tuple #[Slc nb6 0 10 cp4, .nilIface]) :: _) [_, _, _, ⟨nb6, cu8 (((numK 8 rq 8) ++ numK 1 (UInt64.ofNat rk) 1) ++ numK 1 (UInt64.ofNat er) 1) ++ sp4, 5, (0, 0)⟩]
 refine AA _ (B0 rfl rfl) rfl ?_
 refine AA _ (B0 rfl rfl) rfl ?_
 refine AA _ (AH rfl) rfl ?_
 refine AA _ (AH rfl) rfl ?_
 refine AN (AF (BK (BP [false, false, false, true] ?_)))
 show JQ _ _ _ _ [_]
 refine BJ (.tuple #[Slc nb6 0 10 cp4, .nilIface]) (res2 Tryd.results34 (BH rfl) (BH rfl)) fun w1 hw1 => ?_
 skip
 exact ⟨_, _, rfl, ⟨nb6, sp4, cp4, rfl, rfl, hc10, hc11, hc12⟩, hw1.sub (by simp) (by simp)⟩
set_option maxHeartbeats 2000000 in
theorem putRep1_c (rq : UInt64) (aj : Option Addr) (nj cj : Nat) (lj : List ItemR) (th : Bool) (pv ep : UInt64) (kd : Int) (ai : Option Addr) (ni ci : Nat) (l : List UInt64) (sa : Option Addr) (ns sc : Nat) (ls : List SealR) (bl : UInt64) (tg : List UInt8) (aha : Option Addr) (nha cha : Nat) (xha : List UInt8) (ahb : Option Addr) (nhb chb : Nat) (xhb : List UInt8) (si : Nat)  (w : World) (hlj : lj.length = nj) (hnj : nj ≤ 2000000) (hdj : nj ≤ cj) (hcj : cj ≤ maxLen) (hj : RdV w aj (lj.flatMap itemC)) (hl : l.length = ni) (hnm : ni ≤ 2000000) (hnc : ni ≤ ci) (hcm : ci ≤ maxLen) (hv : RdV w ai (cu64 l)) (hls : ls.length = ns) (hnn : ns ≤ 2000000) (hnd : ns ≤ sc) (hcn : sc ≤ maxLen) (hs : RdV w sa (ls.flatMap sealC)) (htg : tg.length = 16) (hlha : xha.length = nha * 32) (hnha : nha ≤ 9000) (hdha : nha ≤ cha) (hcha : cha ≤ maxLen) (hrha : RdB w [] aha xha) (hlhb : xhb.length = nhb * 32) (hnhb : nhb ≤ 9000) (hdhb : nhb ≤ chb) (hchb : chb ≤ maxLen) (hrhb : RdB w [] ahb xhb) (hbi : ni ≤ 300) (hbs : ns ≤ 300) (hA : nha ≤ 300) (hB : nhb ≤ 300) (hR : repR (1:Int) (0:Int) th lj (blankB pv ep kd l ls bl tg) (decide (mayN pv ep kd l ls bl = 0)) nha nhb = true) (hsi : (itmsT lj).length = si)  : Calls Tryd.prog 34 #[.agg ([U64 rq, I64 1, I64 0, SL aj nj cj, .bool th, U64 pv, U64 ep, I64 (kd), SL ai ni ci, SL sa ns sc, U64 bl] ++ cu8 tg ++ [SL aha nha cha, SL ahb nhb chb]).toArray] w (Post w [] (fun v L => ∃ g sp cap, v = .tuple #[Slc g 0 ((32*nhb + si + 13)) cap, .nilIface] ∧ L = [⟨g, cu8 ((((((numK 8 rq 8 ++ numK 1 (1:UInt64) 1) ++ numK 1 (0:UInt64) 1) ++ numK 1 (UInt64.ofNat (nj - 1)) 1) ++ itmsT lj) ++ numK 2 (UInt64.ofNat nhb) 2) ++ xhb) ++ sp, 5, (0, 0)⟩] ∧ sp.length = cap - (32*nhb + si + 13) ∧ (32*nhb + si + 13) ≤ cap ∧ cap ≤ maxLen)) := by
 have hmx : maxLen = 9223372036854775807 := rfl
 have hf := repR_f hlj hR
 have hn0 := c2_len1 hlj (repR_2 hR (by decide +kernel))
 refine enter (P := Tryd.prog) (f := 34) (fn := Tryd.f34) w [] 103 [] [.agg ([U64 rq, I64 1, I64 0, SL aj nj cj, .bool th, U64 pv, U64 ep, I64 (kd), SL ai ni ci, SL sa ns sc, U64 bl] ++ cu8 tg ++ [SL aha nha cha, SL ahb nhb chb]).toArray] Tryd.func34 rfl rfl (by simp) (CC (by simp) (by simp) (by simp)) ?_
 show JC _ _ _ [(0, .agg ([U64 rq, I64 1, I64 0, SL aj nj cj, .bool th, U64 pv, U64 ep, I64 (kd), SL ai ni ci, SL sa ns sc, U64 bl] ++ cu8 tg ++ [SL aha nha cha, SL ahb nhb chb]).toArray)] _
 refine AK (AD (A9 (CL (.agg ([U64 rq, I64 1, I64 0, SL aj nj cj, .bool th, U64 pv, U64 ep, I64 (kd), SL ai ni ci, SL sa ns sc, U64 bl] ++ cu8 tg ++ [SL aha nha cha, SL ahb nhb chb]).toArray) ([U64 rq, I64 1, I64 0, SL aj nj cj, .bool th, U64 pv, U64 ep, I64 (kd), SL ai ni ci, SL sa ns sc, U64 bl] ++ cu8 tg ++ [SL aha nha cha, SL ahb nhb chb]) rfl (by first | rfl | simp)) rfl ?_))
 rintro v1 L1 ⟨nb1, hnb1, rfl, rfl⟩
 show JL _ _ _ _ ((1, Ptr nb1 0) :: _) [⟨nb1, [U64 rq, I64 1, I64 0, SL aj nj cj, .bool th, U64 pv, U64 ep, I64 (kd), SL ai ni ci, SL sa ns sc, U64 bl] ++ cu8 tg ++ [SL aha nha cha, SL ahb nhb chb], 67, (0, 0)⟩]
 refine AA _ (AH rfl) rfl ?_
 refine AA _ (AH rfl) rfl ?_
 refine AN (AF (AK (AK (AD (AA (.agg ([U64 rq, I64 1, I64 0, SL aj nj cj, .bool th, U64 pv, U64 ep, I64 (kd), SL ai ni ci, SL sa ns sc, U64 bl] ++ cu8 tg ++ [SL aha nha cha, SL ahb nhb chb]).toArray) (AI rfl (BV CV CH (by simp [htg]) (AS 0 rfl (AV _)))) rfl ?_)))))
 refine B1 (BG 35 [.agg ([U64 rq, I64 1, I64 0, SL aj nj cj, .bool th, U64 pv, U64 ep, I64 (kd), SL ai ni ci, SL sa ns sc, U64 bl] ++ cu8 tg ++ [SL aha nha cha, SL ahb nhb chb]).toArray] (.bool (repR (1:Int) (0:Int) th lj (blankB pv ep (kd) l ls bl tg) (decide (mayN pv ep (kd) l ls bl = 0)) nha nhb)) (A6 _ Tryd.call35 rfl) (fun w1 hw1 => FX rq (1:Int) (0:Int) aj nj cj lj th pv ep (kd) ai ni ci l sa ns sc ls bl tg aha nha cha xha ahb nhb chb xhb w1 hlj (by omega) (by omega) (by omega) (CA hw1 rfl hj) hl (by omega) (by omega) (by omega) (CA hw1 rfl hv) hls (by omega) (by omega) (by omega) (CA hw1 rfl hs) htg hlha (by omega) (by omega) (by omega) (hrha.at (M' := []) hw1 (by simp)) hlhb (by omega) (by omega) (by omega) (hrhb.at (M' := []) hw1 (by simp)) (by omega) (by omega))) rfl ?_
 show JL _ _ _ _ ((14, .bool (repR (1:Int) (0:Int) th lj (blankB pv ep (kd) l ls bl tg) (decide (mayN pv ep (kd) l ls bl = 0)) nha nhb)) :: _) [_]
 refine AA (.bool (!(repR (1:Int) (0:Int) th lj (blankB pv ep (kd) l ls bl tg) (decide (mayN pv ep (kd) l ls bl = 0)) nha nhb))) (EP rfl) rfl ?_
 refine AN (AF (BN _ rfl (bnotT hR) ?_))
 refine BE (AF (AK (AD (AA (.agg ([U64 rq, I64 1, I64 0, SL aj nj cj, .bool th, U64 pv, U64 ep, I64 (kd), SL ai ni ci, SL sa ns sc, U64 bl] ++ cu8 tg ++ [SL aha nha cha, SL ahb nhb chb]).toArray) (AI rfl (BV CV CH (by simp [htg]) (AS 0 rfl (AV _)))) rfl ?_))))
 refine B1 (BG 95 [.agg ([U64 rq, I64 1, I64 0, SL aj nj cj, .bool th, U64 pv, U64 ep, I64 (kd), SL ai ni ci, SL sa ns sc, U64 bl] ++ cu8 tg ++ [SL aha nha cha, SL ahb nhb chb]).toArray] (.tuple #[.bool (itB (0:Int) (1:Int)), .bool (chB (0:Int) (1:Int) th), .bool (aB (0:Int) (1:Int) th), .bool (bB (0:Int) (1:Int) th)]) (A6 _ Tryd.call95 rfl) (fun w1 hw1 => parts_c rq (1:Int) (0:Int) aj nj cj lj th pv ep (kd) ai ni ci l sa ns sc ls bl tg aha nha cha xha ahb nhb chb xhb w1 htg)) rfl ?_
 show JL _ _ _ _ ((19, .tuple #[.bool (itB (0:Int) (1:Int)), .bool (chB (0:Int) (1:Int) th), .bool (aB (0:Int) (1:Int) th), .bool (bB (0:Int) (1:Int) th)]) :: _) [_]
 refine AA _ (AL rfl) rfl ?_
 refine AA _ (B0 rfl rfl) rfl ?_
 refine AA _ (B0 rfl rfl) rfl ?_
 refine AA _ (B0 rfl rfl) rfl ?_
 refine AA _ (B0 rfl rfl) rfl ?_
 refine AA _ (AH rfl) rfl ?_
 refine AA _ (AH rfl) rfl ?_
 refine AA _ (AH rfl) rfl ?_
 refine AA _ (AH rfl) rfl ?_
 refine AN (AF (AK (AD (AA (.agg #[.nilIface, SL none 0 0]) (EB [] _ rfl (fun _ => by kernel_rfl)) rfl ?_))))
 refine A9 (CL (.agg #[.nilIface, SL none 0 0]) ([.nilIface, SL none 0 0]) rfl (by first | rfl | simp)) rfl ?_
 rintro v1 L1 ⟨nb2, hnb2, rfl, rfl⟩
 show JL _ _ _ _ ((25, Ptr nb2 0) :: _) [_, ⟨nb2, [.nilIface, SL none 0 0], 149, (0, 0)⟩]
 refine AA _ (AH rfl) rfl ?_
 refine AN (AF (AK (DH 103 4 [(0, Ptr nb2 0), (1, Ptr nb1 0), (2, U64 rq), (4, Ptr nb1 1), (5, I64 1), (6, U64 1), (8, Ptr nb1 2), (9, I64 0), (10, U64 0)] B8 rfl (by decide +kernel) ?_)))
 refine CZ ⟨[], [0, 1, 2, 4, 5, 6, 8, 9, 10], [], [0, 1, 2, 4, 5, 6, 8, 9, 10], [3]⟩ 3 _ rfl rfl (by decide +kernel) rfl ⟨CD rfl rfl rfl, ⟨_, rfl, AJ rfl (AB 0 22 1 AM rfl AX rfl rfl)⟩, ⟨_, rfl, AJ rfl (AI rfl (AQ AY (AS 0 rfl (AG (AG (Seg.head))))))⟩, ⟨_, rfl, AJ rfl (AB 1 3 1 AM rfl AR rfl rfl)⟩, ⟨_, rfl, AJ rfl (AI rfl (AQ AT (AS 0 rfl (AG (AG (AE (Seg.head)))))))⟩, ⟨_, rfl, AJ rfl (CX _ _ rfl fun _ => DA (by rw [AZ]; rfl) A3 rfl)⟩, ⟨_, rfl, AJ rfl (AB 2 3 1 AM rfl AR rfl rfl)⟩, ⟨_, rfl, AJ rfl (AI rfl (AQ AT (AS 0 rfl (AG (AG (AE (AE (Seg.head))))))))⟩, ⟨_, rfl, AJ rfl (CX _ _ rfl fun _ => DA (by rw [AZ]; rfl) A3 rfl)⟩, trivial⟩ rfl (BI rfl (CB 81 _ [false, true] [nb2] _ (A6 [Ptr nb2 0, U64 rq, I64 8] C4 rfl) rfl (fun w1 hw1 => numN_c nb2 8 .nilIface rq 8 w1 (hw1.ent _ (List.mem_of_getElem? (i := 1) rfl)) (by unfold Szd; omega) (fun h => absurd h (by omega)) (by omega)))) ?_
 rintro v1 L1 ⟨_, ⟨rfl, nb3, sp1, cp1, rfl, hc1, hc2, hc3⟩, rfl⟩
 refine ⟨[], ?_⟩
 show DP _ _ _ _ _ _ _ _ [_, ⟨nb2, [.nilIface, Slc nb3 0 8 cp1], 149, (0, 0)⟩, ⟨nb3, cu8 (numK 8 rq 8) ++ sp1, 5, (0, 0)⟩]
 refine CZ ⟨[3], [0, 1, 2, 4, 5, 6, 8, 9, 10], [0, 1, 2], [4, 5, 6, 8, 9, 10], [7]⟩ 7 _ rfl rfl (by decide +kernel) rfl ⟨⟨_, rfl, AJ rfl (AB 1 3 1 AM rfl AR rfl rfl)⟩, ⟨_, rfl, AJ rfl (AI rfl (AQ AT (AS 0 rfl (AG (AG (AE (Seg.head)))))))⟩, ⟨_, rfl, AJ rfl (CX _ _ rfl fun _ => DA (by rw [AZ]; rfl) A3 rfl)⟩, ⟨_, rfl, AJ rfl (AB 2 3 1 AM rfl AR rfl rfl)⟩, ⟨_, rfl, AJ rfl (AI rfl (AQ AT (AS 0 rfl (AG (AG (AE (AE (Seg.head))))))))⟩, ⟨_, rfl, AJ rfl (CX _ _ rfl fun _ => DA (by rw [AZ]; rfl) A3 rfl)⟩, trivial⟩ rfl (BI rfl (CB 81 _ [false, true, true] [nb2, nb3] _ (A6 [Ptr nb2 0, U64 1, I64 1] C4 rfl) rfl (fun w1 hw1 => FR nb2 nb3 8 cp1 9 .nilIface (numK 8 rq 8) sp1 (1:UInt64) 1 w1 (hw1.ent _ (List.mem_of_getElem? (i := 1) rfl)) (hw1.ent _ (List.mem_of_getElem? (i := 2) rfl)) (hw1.ne (i := 1) (j := 2) rfl rfl (by decide)) (show (numK 8 rq 8).length = 8 from (A4 _ _ _)) hc1 hc2 hc3 (by omega) (by unfold Szd; omega) (fun _ => by decide) (by omega)))) ?_
 rintro v1 L1 ⟨_, ⟨rfl, nb4, sp2, cp2, rfl, hc4, hc5, hc6⟩, rfl⟩
 refine ⟨[], ?_⟩
 show DP _ _ _ _ _ _ _ _ [_, ⟨nb2, [.nilIface, Slc nb4 0 9 cp2], 149, (0, 0)⟩, ⟨nb4, cu8 ((numK 8 rq 8) ++ numK 1 (1:UInt64) 1) ++ sp2, 5, (0, 0)⟩]
 refine CZ ⟨[3, 7], [0, 1, 2, 4, 5, 6, 8, 9, 10], [0, 1, 2, 4, 5, 6], [8, 9, 10], [11]⟩ 11 _ rfl rfl (by decide +kernel) rfl ⟨⟨_, rfl, AJ rfl (AB 2 3 1 AM rfl AR rfl rfl)⟩, ⟨_, rfl, AJ rfl (AI rfl (AQ AT (AS 0 rfl (AG (AG (AE (AE (Seg.head))))))))⟩, ⟨_, rfl, AJ rfl (CX _ _ rfl fun _ => DA (by rw [AZ]; rfl) A3 rfl)⟩, trivial⟩ rfl (BI rfl (CB 81 _ [false, true, true] [nb2, nb4] _ (A6 [Ptr nb2 0, U64 0, I64 1] C4 rfl) rfl (fun w1 hw1 => FR nb2 nb4 9 cp2 10 .nilIface ((numK 8 rq 8) ++ numK 1 (1:UInt64) 1) sp2 (0:UInt64) 1 w1 (hw1.ent _ (List.mem_of_getElem? (i := 1) rfl)) (hw1.ent _ (List.mem_of_getElem? (i := 2) rfl)) (hw1.ne (i := 1) (j := 2) rfl rfl (by decide)) (show ((numK 8 rq 8) ++ numK 1 (1:UInt64) 1).length = 9 from (by rw [List.length_append, (show (numK 8 rq 8).length = 8 from (A4 _ _ _)), A4] <;> omega)) hc4 hc5 hc6 (by omega) (by unfold Szd; omega) (fun _ => by decide) (by omega)))) ?_
 rintro v1 L1 ⟨_, ⟨rfl, nb5, sp3, cp3, rfl, hc7, hc8, hc9⟩, rfl⟩
 refine ⟨[], ?_⟩
 show DP _ _ _ _ _ _ _ _ [_, ⟨nb2, [.nilIface, Slc nb5 0 10 cp3], 149, (0, 0)⟩, ⟨nb5, cu8 (((numK 8 rq 8) ++ numK 1 (1:UInt64) 1) ++ numK 1 (0:UInt64) 1) ++ sp3, 5, (0, 0)⟩]
 refine DN ⟨[3, 7, 11], [0, 1, 2, 4, 5, 6, 8, 9, 10], [0, 1, 2, 4, 5, 6, 8, 9, 10], [], []⟩ rfl rfl (by decide +kernel) rfl trivial ?_
 refine C7 (F' := [(1, Ptr nb1 0), (2, SL none 0 0), (3, .nilIface), (4, .bool (itB (0:Int) (1:Int))), (5, .bool (chB (0:Int) (1:Int) th)), (6, .bool (aB (0:Int) (1:Int) th)), (7, .bool (bB (0:Int) (1:Int) th)), (8, Ptr nb2 0)]) (by kernel_rfl) ?_
 refine AF (AK (AK (AD (AA _ (AL rfl) rfl ?_))))
 refine AN (AF (CO _ rfl (by decide +kernel) ?_))
 refine AD (AA _ (AL rfl) rfl ?_)
 refine AA (Ptr nb1 3) (AB 3 64 1 AM rfl D5 rfl rfl) rfl ?_
 refine AA (SL aj nj cj) (AI rfl (AQ EE (AS 0 rfl (AG (AG (AE (AE (AE (Seg.head))))))))) rfl ?_
 refine AA (I64 nj) (CY CF rfl) rfl ?_
 refine AA (I64 ((nj:Int) - 1)) (AU rfl rfl fun _ => EV _ _ ((nj:Int) - 1) (by omega) (by omega)) rfl ?_
 refine AA (U64 (UInt64.ofNat (nj - 1))) (CX _ _ rfl fun _ => EL (by rw [AZ]; rfl) A3 (nj - 1) _ (by omega)) rfl ?_
 refine A9 (CB 81 _ [false, true, true] [nb2, nb5] _ (A6 [Ptr nb2 0, U64 (UInt64.ofNat (nj - 1)), I64 1] C4 rfl) rfl (fun w1 hw1 => FR nb2 nb5 10 cp3 11 .nilIface (((numK 8 rq 8) ++ numK 1 (1:UInt64) 1) ++ numK 1 (0:UInt64) 1) sp3 (UInt64.ofNat (nj - 1)) 1 w1 (hw1.ent _ (List.mem_of_getElem? (i := 1) rfl)) (hw1.ent _ (List.mem_of_getElem? (i := 2) rfl)) (hw1.ne (i := 1) (j := 2) rfl rfl (by decide)) (show (((numK 8 rq 8) ++ numK 1 (1:UInt64) 1) ++ numK 1 (0:UInt64) 1).length = 10 from (by rw [List.length_append, (show ((numK 8 rq 8) ++ numK 1 (1:UInt64) 1).length = 9 from (by rw [List.length_append, (show (numK 8 rq 8).length = 8 from (A4 _ _ _)), A4] <;> omega)), A4] <;> omega)) hc7 hc8 hc9 (by omega) (by unfold Szd; omega) (fun _ => shr8n (by omega)) (by omega))) rfl ?_
 rintro v1 L1 ⟨_, ⟨rfl, nb6, sp4, cp4, rfl, hc10, hc11, hc12⟩, rfl⟩
 show JL _ _ _ _ ((45, Ptr nb2 0) :: _) [_, ⟨nb2, [.nilIface, Slc nb6 0 11 cp4], 149, (0, 0)⟩, ⟨nb6, cu8 ((((numK 8 rq 8) ++ numK 1 (1:UInt64) 1) ++ numK 1 (0:UInt64) 1) ++ numK 1 (UInt64.ofNat (nj - 1)) 1) ++ sp4, 5, (0, 0)⟩]
 refine AN (AF (AK (AK (AD (AA (Ptr nb1 3) (AB 3 64 1 AM rfl D5 rfl rfl) rfl ?_)))))
 refine AA (SL aj nj cj) (AI rfl (AQ EE (AS 0 rfl (AG (AG (AE (AE (AE (Seg.head))))))))) rfl ?_
 refine AA (I64 nj) (CY CF rfl) rfl ?_
 refine AA _ (AL rfl) rfl ?_
 refine AN (AF (B2 (DV (ι := Nat × Nat × List UInt8 × Nat × List Value × Nat) (fun ⟨i, q, oqi, gqi, spqi, cpqi⟩ => [(1, Ptr nb1 0), (2, SL none 0 0), (3, .nilIface), (5, .bool (chB (0:Int) (1:Int) th)), (6, .bool (aB (0:Int) (1:Int) th)), (7, .bool (bB (0:Int) (1:Int) th)), (8, Ptr nb2 0), (47, SL aj nj cj), (48, I64 nj), (49, I64 i)]) (fun ⟨i, q, oqi, gqi, spqi, cpqi⟩ => [⟨nb1, [U64 rq, I64 1, I64 0, SL aj nj cj, .bool th, U64 pv, U64 ep, I64 (kd), SL ai ni ci, SL sa ns sc, U64 bl] ++ cu8 tg ++ [SL aha nha cha, SL ahb nhb chb], 67, (0, 0)⟩, ⟨nb2, [.nilIface, Slc gqi 0 q cpqi], 149, (0, 0)⟩, ⟨gqi, cu8 oqi ++ spqi, 5, (0, 0)⟩]) (fun ⟨i, q, oqi, gqi, spqi, cpqi⟩ => i ≤ nj ∧ oqi = (((numK 8 rq 8 ++ numK 1 (1:UInt64) 1) ++ numK 1 (0:UInt64) 1) ++ numK 1 (UInt64.ofNat (nj - 1)) 1) ++ itmsT (lj.take i) ∧ oqi.length = q ∧ spqi.length = cpqi - q ∧ q ≤ cpqi ∧ cpqi ≤ maxLen ∧ q ≤ 57*i + 11) (fun ⟨i, q, oqi, gqi, spqi, cpqi⟩ => nj - i) (0, 11, (((numK 8 rq 8) ++ numK 1 (1:UInt64) 1) ++ numK 1 (0:UInt64) 1) ++ numK 1 (UInt64.ofNat (nj - 1)) 1, nb6, sp4, cp4) ⟨by omega, by rw [List.take_zero, itmsT_nil, List.append_nil], (by have h := (show ((((numK 8 rq 8) ++ numK 1 (1:UInt64) 1) ++ numK 1 (0:UInt64) 1) ++ numK 1 (UInt64.ofNat (nj - 1)) 1).length = 11 from (by rw [List.length_append, (show (((numK 8 rq 8) ++ numK 1 (1:UInt64) 1) ++ numK 1 (0:UInt64) 1).length = 10 from (by rw [List.length_append, (show ((numK 8 rq 8) ++ numK 1 (1:UInt64) 1).length = 9 from (by rw [List.length_append, (show (numK 8 rq 8).length = 8 from (A4 _ _ _)), A4] <;> omega)), A4] <;> omega)), A4] <;> omega)); omega), (by have h := hc10; omega), by omega, by omega, by omega⟩ (Sub.all rfl) (by first | rfl | (simp; done)) ?_)))
 rintro ⟨i, q, oqi, gqi, spqi, cpqi⟩ ⟨hi1, hi2, hi3, hi4, hi5, hi6, hi7⟩
 show JC _ _ _ [(1, Ptr nb1 0), (2, SL none 0 0), (3, .nilIface), (5, .bool (chB (0:Int) (1:Int) th)), (6, .bool (aB (0:Int) (1:Int) th)), (7, .bool (bB (0:Int) (1:Int) th)), (8, Ptr nb2 0), (47, SL aj nj cj), (48, I64 nj), (49, I64 i)] [⟨nb1, [U64 rq, I64 1, I64 0, SL aj nj cj, .bool th, U64 pv, U64 ep, I64 (kd), SL ai ni ci, SL sa ns sc, U64 bl] ++ cu8 tg ++ [SL aha nha cha, SL ahb nhb chb], 67, (0, 0)⟩, ⟨nb2, [.nilIface, Slc gqi 0 q cpqi], 149, (0, 0)⟩, ⟨gqi, cu8 oqi ++ spqi, 5, (0, 0)⟩]
 refine AK (AD (AA (.bool (decide (((i:Int)) < ((nj:Int))))) (AU rfl rfl fun _ => CR _ _) rfl ?_))
 refine AN (AF (AK (CI (decide (((i:Int)) < ((nj:Int)))) rfl (fun hb1 => ?_) (fun hb1 => ?_))))
 ·
  have hp1 : ((i:Int)) < ((nj:Int)) := of_decide_eq_true hb1
  refine BE (AF (AK (B2 (AK (AD ?_)))))
  obtain ⟨x1, hx1⟩ : ∃ x, lj[i]? = some x := ⟨_, List.getElem?_eq_getElem (by rw [hlj]; omega)⟩
  obtain ⟨bz1, oz1, hz1, hm1⟩ := E4 E6 (by decide) hj hx1
  rw [FO] at hm1
  refine AA (Ptr bz1 (50*i + oz1)) (B4 163 50 (50*i + oz1) CF DD rfl hz1 rfl (by omega) (by omega) (by omega)) rfl ?_
  refine AA (.agg (List.toArray (α := Value) ([.bool x1.b, U64 x1.s.e] ++ cu8 x1.s.d ++ cu8 x1.s.t))) (AI rfl (BV Tryd.isAgg163 DD (by simp [x1.s.hd, x1.s.ht]) (CK (hm1.mem (by simp)) (AV _) (by first | omega | (simp; done) | (simp; omega))))) rfl ?_
  refine A9 (DI _ ([.bool false, U64 0] ++ cu8 (zr8 32) ++ cu8 (zr8 16)) Tryd.zeroValue163 (by kernel_rfl)) rfl ?_
  rintro v1 L1 ⟨nb7, hnb7, rfl, rfl⟩
  show JL _ _ _ _ ((10, Ptr nb7 0) :: _) [_, _, _, ⟨nb7, [.bool false, U64 0] ++ cu8 (zr8 32) ++ cu8 (zr8 16), 163, (0, 0)⟩]
  refine B1 (CW 3 nb7 50 ([.bool false, U64 0] ++ cu8 (zr8 32) ++ cu8 (zr8 16)) 163 ([.bool x1.b, U64 x1.s.e] ++ cu8 x1.s.d ++ cu8 x1.s.t) rfl rfl rfl DD (by simp [x1.s.hd, x1.s.ht]) (EH (EH (by simp [Value.oneCell']) FE) FE) (by simp [(B6 32), (B6 16)]) (DC (by simp [(B6 32), (B6 16), x1.s.hd, x1.s.ht]))) rfl ?_
  show JL _ _ _ _ _ [_, _, _, ⟨nb7, [.bool x1.b, U64 x1.s.e] ++ cu8 x1.s.d ++ cu8 x1.s.t, 163, (0, 0)⟩]
  refine AN (AF (AK (AD (AA _ (AL rfl) rfl ?_))))
  refine AA (Ptr nb7 0) (AB 0 4 1 C0 rfl BB rfl rfl) rfl ?_
  refine AA (.bool x1.b) (AI rfl (AQ BD (AS 3 rfl (AG (AG (Seg.head)))))) rfl ?_
  refine A9 (CB 96 _ [false, true, true, false] [nb2, gqi] _ (A6 [Ptr nb2 0, .bool x1.b] Tryd.call96 rfl) rfl (fun w1 hw1 => flagO_c nb2 gqi q cpqi (q + 1) .nilIface oqi spqi x1.b w1 (hw1.ent _ (List.mem_of_getElem? (i := 1) rfl)) (hw1.ent _ (List.mem_of_getElem? (i := 2) rfl)) (hw1.ne (i := 1) (j := 2) rfl rfl (by decide)) hi3 hi4 hi5 hi6 (by omega) (by omega))) rfl ?_
  rintro v1 L1 ⟨_, ⟨rfl, nb8, sp5, cp5, rfl, hc13, hc14, hc15⟩, rfl⟩
  show JL _ _ _ _ ((56, Ptr nb2 0) :: _) [_, _, ⟨nb2, [.nilIface, Slc nb8 0 (q + 1) cp5], 149, (0, 0)⟩, ⟨nb8, cu8 (oqi ++ numK 1 (bitU x1.b) 1) ++ sp5, 5, (0, 0)⟩]
  refine AN (AF (AK (AD (AA (Ptr nb7 0) (AB 0 4 1 C0 rfl BB rfl rfl) rfl ?_))))
  refine AA (.bool x1.b) (AI rfl (AQ BD (AS 1 rfl (AG (AG (Seg.head)))))) rfl ?_
  refine AN (AF (CI (x1.b) rfl (fun hb2 => ?_) (fun hb2 => ?_)))
  ·
   refine AD (AA _ (AL rfl) rfl ?_)
   refine AA (Ptr nb7 1) (AB 1 161 49 C0 rfl CJ rfl rfl) rfl ?_
   refine AA (.agg ([U64 x1.s.e] ++ cu8 x1.s.d ++ cu8 x1.s.t).toArray) (AI rfl (BV D2 CJ (by simp [x1.s.hd, x1.s.ht]) (AS 1 rfl (C6 (p := [.bool x1.b]) (q := []) (vs := [U64 x1.s.e] ++ cu8 x1.s.d ++ cu8 x1.s.t) (by first | rfl | (simp only [List.append_assoc, List.nil_append, List.append_nil, List.cons_append]; done)) rfl)))) rfl ?_
   refine A9 (CG 97 [.agg ([U64 x1.s.e] ++ cu8 x1.s.d ++ cu8 x1.s.t).toArray] _ (A6 _ Tryd.call97 rfl) (fun w1 hw1 => put7_c x1.s.e x1.s.d x1.s.t w1 x1.s.hd x1.s.ht)) rfl ?_
   rintro v1 L1 ⟨_, ⟨nb9, sp6, cp6, rfl, rfl, hc16, hc17, hc18⟩, rfl⟩
   show JL _ _ _ _ ((62, Slc nb9 0 56 cp6) :: _) [_, _, _, _, ⟨nb9, cu8 (putL x1.s.e x1.s.d x1.s.t) ++ sp6, 5, (0, 0)⟩]
   refine A9 (CB 82 _ [false, false, true, true, false] [nb2, nb8] _ (A6 [Ptr nb2 0, Slc nb9 0 56 cp6] Tryd.call82 rfl) rfl (fun w1 hw1 => rawO_c nb2 nb8 (q + 1) cp5 (q + 57) .nilIface (oqi ++ numK 1 (bitU x1.b) 1) sp5 (some ⟨nb9, 0, none⟩) 56 cp6 (putL x1.s.e x1.s.d x1.s.t) w1 (hw1.ent _ (List.mem_of_getElem? (i := 2) rfl)) (hw1.ent _ (List.mem_of_getElem? (i := 3) rfl)) (hw1.ne (i := 2) (j := 3) rfl rfl (by decide)) (show (oqi ++ numK 1 (bitU x1.b) 1).length = (q + 1) from (by rw [List.length_append, hi3, A4] <;> omega)) hc13 hc14 hc15 (by omega) (show (putL x1.s.e x1.s.d x1.s.t).length = 56 from (FM x1.s.hd x1.s.ht)) (by omega) (RdB.of hw1 (AS 4 rfl (AG (AV _))) (by intro _; simp only [List.mem_cons, List.not_mem_nil, or_false, not_or]; exact ⟨hw1.ne (i := 4) (j := 2) rfl rfl (by decide), hw1.ne (i := 4) (j := 3) rfl rfl (by decide)⟩)) (by omega))) rfl ?_
   rintro v1 L1 ⟨_, ⟨rfl, nb10, sp7, cp7, rfl, hc19, hc20, hc21⟩, rfl⟩
   show JL _ _ _ _ ((63, Ptr nb2 0) :: _) [_, _, _, ⟨nb2, [.nilIface, Slc nb10 0 (q + 57) cp7], 149, (0, 0)⟩, ⟨nb10, cu8 ((oqi ++ numK 1 (bitU x1.b) 1) ++ (putL x1.s.e x1.s.d x1.s.t)) ++ sp7, 5, (0, 0)⟩]
   refine AN (BY (AF (AD (AA (I64 ((i:Int) + 1)) (AU rfl rfl fun _ => DE _ _ ((i:Int) + 1) (by omega) (by omega)) rfl ?_))))
   refine AA _ (AL rfl) rfl ?_
   refine AN (DK (BP [true, false, false, true, true] ?_))
   show K _ _ [_, _, _] _
   refine EM (i + 1, (q + 57), (oqi ++ numK 1 (bitU x1.b) 1) ++ (putL x1.s.e x1.s.d x1.s.t), nb10, sp7, cp7) ⟨by omega, by rw [hi2, List.append_assoc, List.append_assoc, ← itm_t hb2, FV hx1], (by have h := (show ((oqi ++ numK 1 (bitU x1.b) 1) ++ (putL x1.s.e x1.s.d x1.s.t)).length = (q + 57) from (by rw [List.length_append, (show (oqi ++ numK 1 (bitU x1.b) 1).length = (q + 1) from (by rw [List.length_append, hi3, A4] <;> omega)), (show (putL x1.s.e x1.s.d x1.s.t).length = 56 from (FM x1.s.hd x1.s.ht))] <;> omega)); omega), (by have h := hc19; omega), by omega, by omega, by omega⟩ (by first | (simp; omega) | simp | (dsimp only; omega) | omega) (Sub.all rfl) rfl
  ·
   refine BE (BY (AF (AD (AA (I64 ((i:Int) + 1)) (AU rfl rfl fun _ => DE _ _ ((i:Int) + 1) (by omega) (by omega)) rfl ?_))))
   refine AA _ (AL rfl) rfl ?_
   refine AN (DK (BP [true, false, true, true] ?_))
   show K _ _ [_, _, _] _
   refine EM (i + 1, (q + 1), oqi ++ numK 1 (bitU x1.b) 1, nb8, sp5, cp5) ⟨by omega, by rw [hi2, List.append_assoc, ← itm_f hb2, FV hx1], (by have h := (show (oqi ++ numK 1 (bitU x1.b) 1).length = (q + 1) from (by rw [List.length_append, hi3, A4] <;> omega)); omega), (by have h := hc13; omega), by omega, by omega, by omega⟩ (by first | (simp; omega) | simp | (dsimp only; omega) | omega) (Sub.all rfl) rfl
 ·
  have hp1 : ¬ (((i:Int)) < ((nj:Int))) := of_decide_eq_false hb1
  refine DU (A5 (A5 (CQ (AF (AK (AK ?_))))))
  have ei : nj = i := by omega
  subst ei
  rw [List.take_of_length_le (by omega)] at hi2
  have eq : q = si + 11 := by rw [← hi3, hi2]; simp [A4, hsi]; omega
  subst eq
  subst hi2
  show JC _ _ _ _ [⟨nb1, [U64 rq, I64 1, I64 0, SL aj nj cj, .bool th, U64 pv, U64 ep, I64 (kd), SL ai ni ci, SL sa ns sc, U64 bl] ++ cu8 tg ++ [SL aha nha cha, SL ahb nhb chb], 67, (0, 0)⟩, ⟨nb2, [.nilIface, Slc gqi 0 (si + 11) cpqi], 149, (0, 0)⟩, ⟨gqi, cu8 ((((numK 8 rq 8 ++ numK 1 (1:UInt64) 1) ++ numK 1 (0:UInt64) 1) ++ numK 1 (UInt64.ofNat (nj - 1)) 1) ++ itmsT lj) ++ spqi, 5, (0, 0)⟩]
  refine AD (AA (Ptr nb1 2) (AB 2 3 1 AM rfl AR rfl rfl) rfl ?_)
  refine AA (I64 0) (AI rfl (AQ AT (AS 0 rfl (AG (AG (AE (AE (Seg.head)))))))) rfl ?_
  refine AA (.bool (decide ((0:Int) = (0:Int)))) (AU rfl rfl fun _ => BO _ _) rfl ?_
  refine AA _ (AL rfl) rfl ?_
  refine AP 3 68 true _ (Ptr nb1 1) rfl rfl (by decide) (AB 1 3 1 AM rfl AR rfl rfl) rfl ?_
  refine AP 3 68 true _ (I64 1) rfl rfl (by decide) (AI rfl (AQ AT (AS 0 rfl (AG (AG (AE (Seg.head))))))) rfl ?_
  refine AP 3 68 true _ (.bool (decide ((1:Int) = (4:Int)))) rfl rfl (by decide) (AU rfl rfl fun _ => BO _ _) rfl ?_
  refine AA _ (A2 _ rfl (by decide) rfl) rfl ?_
  refine AN (AF (BN _ rfl (by decide) ?_))
  refine BE (AF (AK (AK (AD (AA _ (AL rfl) rfl ?_)))))
  refine AN (AF (BN _ rfl ((by decide +kernel : ∀ t : Bool, (chB (0:Int) (1:Int) t) = false) th) ?_))
  refine BE (AF (AK (AK (AD (AA _ (AL rfl) rfl ?_)))))
  refine AN (AF (BN _ rfl ((by decide +kernel : ∀ t : Bool, (aB (0:Int) (1:Int) t) = false) th) ?_))
  refine BE (AF (AK (AK (AD (AA _ (AL rfl) rfl ?_)))))
  refine AN (AF (CO _ rfl ((by decide +kernel : ∀ t : Bool, (bB (0:Int) (1:Int) t) = true) th) ?_))
  refine AD (AA _ (AL rfl) rfl ?_)
  refine AA (Ptr nb1 28) (AB 28 65 1 AM rfl BR rfl rfl) rfl ?_
  refine AA (SL ahb nhb chb) (AI rfl (AQ BU (AS 0 rfl (Seg.right 27 1 (by simp [htg]) rfl (AE (Seg.head)))))) rfl ?_
  refine A9 (CB 98 _ [false, true, true] [nb2, gqi] _ (A6 [Ptr nb2 0, SL ahb nhb chb] Tryd.call98 rfl) rfl (fun w1 hw1 => hashesO_c nb2 gqi (si + 11) cpqi (32*nhb + si + 13) .nilIface ((((numK 8 rq 8 ++ numK 1 (1:UInt64) 1) ++ numK 1 (0:UInt64) 1) ++ numK 1 (UInt64.ofNat (nj - 1)) 1) ++ itmsT lj) spqi ahb nhb chb xhb w1 (hw1.ent _ (List.mem_of_getElem? (i := 1) rfl)) (hw1.ent _ (List.mem_of_getElem? (i := 2) rfl)) (hw1.ne (i := 1) (j := 2) rfl rfl (by decide)) hi3 hi4 hi5 hi6 (by omega) hlhb (by omega) (by omega) (by omega) (hrhb.at (M' := [nb2, gqi]) hw1 (hw1.apart [1, 2] _ rfl)) (by omega) (by omega))) rfl ?_
  rintro v1 L1 ⟨_, ⟨rfl, nb11, sp8, cp8, rfl, hc22, hc23, hc24⟩, rfl⟩
  show JL _ _ _ _ ((98, .tuple #[]) :: _) [_, ⟨nb2, [.nilIface, Slc nb11 0 (32*nhb + si + 13) cp8], 149, (0, 0)⟩, ⟨nb11, cu8 ((((((numK 8 rq 8 ++ numK 1 (1:UInt64) 1) ++ numK 1 (0:UInt64) 1) ++ numK 1 (UInt64.ofNat (nj - 1)) 1) ++ itmsT lj) ++ numK 2 (UInt64.ofNat nhb) 2) ++ xhb) ++ sp8, 5, (0, 0)⟩]
  refine AN (AF (AK (AD (AA _ (AL rfl) rfl ?_))))
  refine A9 (CG 83 [Ptr nb2 0] _ (A6 _ Tryd.call83 rfl) (fun w1 hw1 => doneO_c nb2 0 nb11 (32*nhb + si + 13) cp8 ((((((numK 8 rq 8 ++ numK 1 (1:UInt64) 1) ++ numK 1 (0:UInt64) 1) ++ numK 1 (UInt64.ofNat (nj - 1)) 1) ++ itmsT lj) ++ numK 2 (UInt64.ofNat nhb) 2) ++ xhb) w1 (RdA.of hw1 (AS 1 rfl (AV _)) (by simp)) rfl (show ((((((numK 8 rq 8 ++ numK 1 (1:UInt64) 1) ++ numK 1 (0:UInt64) 1) ++ numK 1 (UInt64.ofNat (nj - 1)) 1) ++ itmsT lj) ++ numK 2 (UInt64.ofNat nhb) 2) ++ xhb).length = (32*nhb + si + 13) from (by rw [List.length_append, List.length_append, A4, hi3, hlhb] <;> omega)) (by omega) (RdB.of hw1 (AS 2 rfl (AG (AV _))) (by simp)))) rfl ?_
  rintro v1 L1 ⟨_, ⟨nb12, sp9, cp9, rfl, rfl, hc25, hc26, hc27⟩, rfl⟩
  show JL _ _ _ _ ((100, .tuple #[Slc nb12 0 (32*nhb + si + 13) cp9, .nilIface]) :: _) [_, _, _, ⟨nb12, cu8 ((((((numK 8 rq 8 ++ numK 1 (1:UInt64) 1) ++ numK 1 (0:UInt64) 1) ++ numK 1 (UInt64.ofNat (nj - 1)) 1) ++ itmsT lj) ++ numK 2 (UInt64.ofNat nhb) 2) ++ xhb) ++ sp9, 5, (0, 0)⟩]
  refine AA _ (B0 rfl rfl) rfl ?_
  refine AA _ (B0 rfl rfl) rfl ?_
  refine AA _ (AH rfl) rfl ?_
  refine AA _ (AH rfl) rfl ?_
  refine AN (AF (BK (BP [false, false, false, true] ?_)))
  show JQ _ _ _ _ [_]
  refine BJ (.tuple #[Slc nb12 0 (32*nhb + si + 13) cp9, .nilIface]) (res2 Tryd.results34 (BH rfl) (BH rfl)) fun w1 hw1 => ?_
  skip
  exact ⟨_, _, rfl, ⟨nb12, sp9, cp9, rfl, rfl, hc25, hc26, hc27⟩, hw1.sub (by simp) (by simp)⟩
set_option maxHeartbeats 2000000 in
theorem putRep2_c (rq : UInt64) (aj : Option Addr) (nj cj : Nat) (lj : List ItemR) (th : Bool) (pv ep : UInt64) (kd : Int) (ai : Option Addr) (ni ci : Nat) (l : List UInt64) (sa : Option Addr) (ns sc : Nat) (ls : List SealR) (bl : UInt64) (tg : List UInt8) (aha : Option Addr) (nha cha : Nat) (xha : List UInt8) (ahb : Option Addr) (nhb chb : Nat) (xhb : List UInt8) (si : Nat)  (w : World) (hlj : lj.length = nj) (hnj : nj ≤ 2000000) (hdj : nj ≤ cj) (hcj : cj ≤ maxLen) (hj : RdV w aj (lj.flatMap itemC)) (hl : l.length = ni) (hnm : ni ≤ 2000000) (hnc : ni ≤ ci) (hcm : ci ≤ maxLen) (hv : RdV w ai (cu64 l)) (hls : ls.length = ns) (hnn : ns ≤ 2000000) (hnd : ns ≤ sc) (hcn : sc ≤ maxLen) (hs : RdV w sa (ls.flatMap sealC)) (htg : tg.length = 16) (hlha : xha.length = nha * 32) (hnha : nha ≤ 9000) (hdha : nha ≤ cha) (hcha : cha ≤ maxLen) (hrha : RdB w [] aha xha) (hlhb : xhb.length = nhb * 32) (hnhb : nhb ≤ 9000) (hdhb : nhb ≤ chb) (hchb : chb ≤ maxLen) (hrhb : RdB w [] ahb xhb) (hbi : ni ≤ 300) (hbs : ns ≤ 300) (hA : nha ≤ 300) (hB : nhb ≤ 300) (hR : repR (2:Int) (0:Int) th lj (blankB pv ep kd l ls bl tg) (decide (mayN pv ep kd l ls bl = 0)) nha nhb = true) (hsi : (itmsT lj).length = si)  : Calls Tryd.prog 34 #[.agg ([U64 rq, I64 2, I64 0, SL aj nj cj, .bool th, U64 pv, U64 ep, I64 (kd), SL ai ni ci, SL sa ns sc, U64 bl] ++ cu8 tg ++ [SL aha nha cha, SL ahb nhb chb]).toArray] w (Post w [] (fun v L => ∃ g sp cap, v = .tuple #[Slc g 0 ((32*nha + 32*nhb + si + 15)) cap, .nilIface] ∧ L = [⟨g, cu8 ((((((((numK 8 rq 8 ++ numK 1 (2:UInt64) 1) ++ numK 1 (0:UInt64) 1) ++ numK 1 (UInt64.ofNat (nj - 1)) 1) ++ itmsT lj) ++ numK 2 (UInt64.ofNat nha) 2) ++ xha) ++ numK 2 (UInt64.ofNat nhb) 2) ++ xhb) ++ sp, 5, (0, 0)⟩] ∧ sp.length = cap - (32*nha + 32*nhb + si + 15) ∧ (32*nha + 32*nhb + si + 15) ≤ cap ∧ cap ≤ maxLen)) := by
 have hmx : maxLen = 9223372036854775807 := rfl
 have hf := repR_f hlj hR
 have hn0 := c2_len1 hlj (repR_2 hR (by decide +kernel))
 refine enter (P := Tryd.prog) (f := 34) (fn := Tryd.f34) w [] 103 [] [.agg ([U64 rq, I64 2, I64 0, SL aj nj cj, .bool th, U64 pv, U64 ep, I64 (kd), SL ai ni ci, SL sa ns sc, U64 bl] ++ cu8 tg ++ [SL aha nha cha, SL ahb nhb chb]).toArray] Tryd.func34 rfl rfl (by simp) (CC (by simp) (by simp) (by simp)) ?_
 show JC _ _ _ [(0, .agg ([U64 rq, I64 2, I64 0, SL aj nj cj, .bool th, U64 pv, U64 ep, I64 (kd), SL ai ni ci, SL sa ns sc, U64 bl] ++ cu8 tg ++ [SL aha nha cha, SL ahb nhb chb]).toArray)] _
 refine AK (AD (A9 (CL (.agg ([U64 rq, I64 2, I64 0, SL aj nj cj, .bool th, U64 pv, U64 ep, I64 (kd), SL ai ni ci, SL sa ns sc, U64 bl] ++ cu8 tg ++ [SL aha nha cha, SL ahb nhb chb]).toArray) ([U64 rq, I64 2, I64 0, SL aj nj cj, .bool th, U64 pv, U64 ep, I64 (kd), SL ai ni ci, SL sa ns sc, U64 bl] ++ cu8 tg ++ [SL aha nha cha, SL ahb nhb chb]) rfl (by first | rfl | simp)) rfl ?_))
 rintro v1 L1 ⟨nb1, hnb1, rfl, rfl⟩
 show JL _ _ _ _ ((1, Ptr nb1 0) :: _) [⟨nb1, [U64 rq, I64 2, I64 0, SL aj nj cj, .bool th, U64 pv, U64 ep, I64 (kd), SL ai ni ci, SL sa ns sc, U64 bl] ++ cu8 tg ++ [SL aha nha cha, SL ahb nhb chb], 67, (0, 0)⟩]
 refine AA _ (AH rfl) rfl ?_
 refine AA _ (AH rfl) rfl ?_
 refine AN (AF (AK (AK (AD (AA (.agg ([U64 rq, I64 2, I64 0, SL aj nj cj, .bool th, U64 pv, U64 ep, I64 (kd), SL ai ni ci, SL sa ns sc, U64 bl] ++ cu8 tg ++ [SL aha nha cha, SL ahb nhb chb]).toArray) (AI rfl (BV CV CH (by simp [htg]) (AS 0 rfl (AV _)))) rfl ?_)))))
 refine B1 (BG 35 [.agg ([U64 rq, I64 2, I64 0, SL aj nj cj, .bool th, U64 pv, U64 ep, I64 (kd), SL ai ni ci, SL sa ns sc, U64 bl] ++ cu8 tg ++ [SL aha nha cha, SL ahb nhb chb]).toArray] (.bool (repR (2:Int) (0:Int) th lj (blankB pv ep (kd) l ls bl tg) (decide (mayN pv ep (kd) l ls bl = 0)) nha nhb)) (A6 _ Tryd.call35 rfl) (fun w1 hw1 => FX rq (2:Int) (0:Int) aj nj cj lj th pv ep (kd) ai ni ci l sa ns sc ls bl tg aha nha cha xha ahb nhb chb xhb w1 hlj (by omega) (by omega) (by omega) (CA hw1 rfl hj) hl (by omega) (by omega) (by omega) (CA hw1 rfl hv) hls (by omega) (by omega) (by omega) (CA hw1 rfl hs) htg hlha (by omega) (by omega) (by omega) (hrha.at (M' := []) hw1 (by simp)) hlhb (by omega) (by omega) (by omega) (hrhb.at (M' := []) hw1 (by simp)) (by omega) (by omega))) rfl ?_
 show JL _ _ _ _ ((14, .bool (repR (2:Int) (0:Int) th lj (blankB pv ep (kd) l ls bl tg) (decide (mayN pv ep (kd) l ls bl = 0)) nha nhb)) :: _) [_]
 refine AA (.bool (!(repR (2:Int) (0:Int) th lj (blankB pv ep (kd) l ls bl tg) (decide (mayN pv ep (kd) l ls bl = 0)) nha nhb))) (EP rfl) rfl ?_
 refine AN (AF (BN _ rfl (bnotT hR) ?_))
 refine BE (AF (AK (AD (AA (.agg ([U64 rq, I64 2, I64 0, SL aj nj cj, .bool th, U64 pv, U64 ep, I64 (kd), SL ai ni ci, SL sa ns sc, U64 bl] ++ cu8 tg ++ [SL aha nha cha, SL ahb nhb chb]).toArray) (AI rfl (BV CV CH (by simp [htg]) (AS 0 rfl (AV _)))) rfl ?_))))
 refine B1 (BG 95 [.agg ([U64 rq, I64 2, I64 0, SL aj nj cj, .bool th, U64 pv, U64 ep, I64 (kd), SL ai ni ci, SL sa ns sc, U64 bl] ++ cu8 tg ++ [SL aha nha cha, SL ahb nhb chb]).toArray] (.tuple #[.bool (itB (0:Int) (2:Int)), .bool (chB (0:Int) (2:Int) th), .bool (aB (0:Int) (2:Int) th), .bool (bB (0:Int) (2:Int) th)]) (A6 _ Tryd.call95 rfl) (fun w1 hw1 => parts_c rq (2:Int) (0:Int) aj nj cj lj th pv ep (kd) ai ni ci l sa ns sc ls bl tg aha nha cha xha ahb nhb chb xhb w1 htg)) rfl ?_
 show JL _ _ _ _ ((19, .tuple #[.bool (itB (0:Int) (2:Int)), .bool (chB (0:Int) (2:Int) th), .bool (aB (0:Int) (2:Int) th), .bool (bB (0:Int) (2:Int) th)]) :: _) [_]
 refine AA _ (AL rfl) rfl ?_
 refine AA _ (B0 rfl rfl) rfl ?_
 refine AA _ (B0 rfl rfl) rfl ?_
 refine AA _ (B0 rfl rfl) rfl ?_
 refine AA _ (B0 rfl rfl) rfl ?_
 refine AA _ (AH rfl) rfl ?_
 refine AA _ (AH rfl) rfl ?_
 refine AA _ (AH rfl) rfl ?_
 refine AA _ (AH rfl) rfl ?_
 refine AN (AF (AK (AD (AA (.agg #[.nilIface, SL none 0 0]) (EB [] _ rfl (fun _ => by kernel_rfl)) rfl ?_))))
 refine A9 (CL (.agg #[.nilIface, SL none 0 0]) ([.nilIface, SL none 0 0]) rfl (by first | rfl | simp)) rfl ?_
 rintro v1 L1 ⟨nb2, hnb2, rfl, rfl⟩
 show JL _ _ _ _ ((25, Ptr nb2 0) :: _) [_, ⟨nb2, [.nilIface, SL none 0 0], 149, (0, 0)⟩]
 refine AA _ (AH rfl) rfl ?_
 refine AN (AF (AK (DH 103 4 [(0, Ptr nb2 0), (1, Ptr nb1 0), (2, U64 rq), (4, Ptr nb1 1), (5, I64 2), (6, U64 2), (8, Ptr nb1 2), (9, I64 0), (10, U64 0)] B8 rfl (by decide +kernel) ?_)))
 refine CZ ⟨[], [0, 1, 2, 4, 5, 6, 8, 9, 10], [], [0, 1, 2, 4, 5, 6, 8, 9, 10], [3]⟩ 3 _ rfl rfl (by decide +kernel) rfl ⟨CD rfl rfl rfl, ⟨_, rfl, AJ rfl (AB 0 22 1 AM rfl AX rfl rfl)⟩, ⟨_, rfl, AJ rfl (AI rfl (AQ AY (AS 0 rfl (AG (AG (Seg.head))))))⟩, ⟨_, rfl, AJ rfl (AB 1 3 1 AM rfl AR rfl rfl)⟩, ⟨_, rfl, AJ rfl (AI rfl (AQ AT (AS 0 rfl (AG (AG (AE (Seg.head)))))))⟩, ⟨_, rfl, AJ rfl (CX _ _ rfl fun _ => DA (by rw [AZ]; rfl) A3 rfl)⟩, ⟨_, rfl, AJ rfl (AB 2 3 1 AM rfl AR rfl rfl)⟩, ⟨_, rfl, AJ rfl (AI rfl (AQ AT (AS 0 rfl (AG (AG (AE (AE (Seg.head))))))))⟩, ⟨_, rfl, AJ rfl (CX _ _ rfl fun _ => DA (by rw [AZ]; rfl) A3 rfl)⟩, trivial⟩ rfl (BI rfl (CB 81 _ [false, true] [nb2] _ (A6 [Ptr nb2 0, U64 rq, I64 8] C4 rfl) rfl (fun w1 hw1 => numN_c nb2 8 .nilIface rq 8 w1 (hw1.ent _ (List.mem_of_getElem? (i := 1) rfl)) (by unfold Szd; omega) (fun h => absurd h (by omega)) (by omega)))) ?_
 rintro v1 L1 ⟨_, ⟨rfl, nb3, sp1, cp1, rfl, hc1, hc2, hc3⟩, rfl⟩
 refine ⟨[], ?_⟩
 show DP _ _ _ _ _ _ _ _ [_, ⟨nb2, [.nilIface, Slc nb3 0 8 cp1], 149, (0, 0)⟩, ⟨nb3, cu8 (numK 8 rq 8) ++ sp1, 5, (0, 0)⟩]
 refine CZ ⟨[3], [0, 1, 2, 4, 5, 6, 8, 9, 10], [0, 1, 2], [4, 5, 6, 8, 9, 10], [7]⟩ 7 _ rfl rfl (by decide +kernel) rfl ⟨⟨_, rfl, AJ rfl (AB 1 3 1 AM rfl AR rfl rfl)⟩, ⟨_, rfl, AJ rfl (AI rfl (AQ AT (AS 0 rfl (AG (AG (AE (Seg.head)))))))⟩, ⟨_, rfl, AJ rfl (CX _ _ rfl fun _ => DA (by rw [AZ]; rfl) A3 rfl)⟩, ⟨_, rfl, AJ rfl (AB 2 3 1 AM rfl AR rfl rfl)⟩, ⟨_, rfl, AJ rfl (AI rfl (AQ AT (AS 0 rfl (AG (AG (AE (AE (Seg.head))))))))⟩, ⟨_, rfl, AJ rfl (CX _ _ rfl fun _ => DA (by rw [AZ]; rfl) A3 rfl)⟩, trivial⟩ rfl (BI rfl (CB 81 _ [false, true, true] [nb2, nb3] _ (A6 [Ptr nb2 0, U64 2, I64 1] C4 rfl) rfl (fun w1 hw1 => FR nb2 nb3 8 cp1 9 .nilIface (numK 8 rq 8) sp1 (2:UInt64) 1 w1 (hw1.ent _ (List.mem_of_getElem? (i := 1) rfl)) (hw1.ent _ (List.mem_of_getElem? (i := 2) rfl)) (hw1.ne (i := 1) (j := 2) rfl rfl (by decide)) (show (numK 8 rq 8).length = 8 from (A4 _ _ _)) hc1 hc2 hc3 (by omega) (by unfold Szd; omega) (fun _ => by decide) (by omega)))) ?_
 rintro v1 L1 ⟨_, ⟨rfl, nb4, sp2, cp2, rfl, hc4, hc5, hc6⟩, rfl⟩
 refine ⟨[], ?_⟩
 show DP _ _ _ _ _ _ _ _ [_, ⟨nb2, [.nilIface, Slc nb4 0 9 cp2], 149, (0, 0)⟩, ⟨nb4, cu8 ((numK 8 rq 8) ++ numK 1 (2:UInt64) 1) ++ sp2, 5, (0, 0)⟩]
 refine CZ ⟨[3, 7], [0, 1, 2, 4, 5, 6, 8, 9, 10], [0, 1, 2, 4, 5, 6], [8, 9, 10], [11]⟩ 11 _ rfl rfl (by decide +kernel) rfl ⟨⟨_, rfl, AJ rfl (AB 2 3 1 AM rfl AR rfl rfl)⟩, ⟨_, rfl, AJ rfl (AI rfl (AQ AT (AS 0 rfl (AG (AG (AE (AE (Seg.head))))))))⟩, ⟨_, rfl, AJ rfl (CX _ _ rfl fun _ => DA (by rw [AZ]; rfl) A3 rfl)⟩, trivial⟩ rfl (BI rfl (CB 81 _ [false, true, true] [nb2, nb4] _ (A6 [Ptr nb2 0, U64 0, I64 1] C4 rfl) rfl (fun w1 hw1 => FR nb2 nb4 9 cp2 10 .nilIface ((numK 8 rq 8) ++ numK 1 (2:UInt64) 1) sp2 (0:UInt64) 1 w1 (hw1.ent _ (List.mem_of_getElem? (i := 1) rfl)) (hw1.ent _ (List.mem_of_getElem? (i := 2) rfl)) (hw1.ne (i := 1) (j := 2) rfl rfl (by decide)) (show ((numK 8 rq 8) ++ numK 1 (2:UInt64) 1).length = 9 from (by rw [List.length_append, (show (numK 8 rq 8).length = 8 from (A4 _ _ _)), A4] <;> omega)) hc4 hc5 hc6 (by omega) (by unfold Szd; omega) (fun _ => by decide) (by omega)))) ?_
 rintro v1 L1 ⟨_, ⟨rfl, nb5, sp3, cp3, rfl, hc7, hc8, hc9⟩, rfl⟩
 refine ⟨[], ?_⟩
 show DP _ _ _ _ _ _ _ _ [_, ⟨nb2, [.nilIface, Slc nb5 0 10 cp3], 149, (0, 0)⟩, ⟨nb5, cu8 (((numK 8 rq 8) ++ numK 1 (2:UInt64) 1) ++ numK 1 (0:UInt64) 1) ++ sp3, 5, (0, 0)⟩]
 refine DN ⟨[3, 7, 11], [0, 1, 2, 4, 5, 6, 8, 9, 10], [0, 1, 2, 4, 5, 6, 8, 9, 10], [], []⟩ rfl rfl (by decide +kernel) rfl trivial ?_
 refine C7 (F' := [(1, Ptr nb1 0), (2, SL none 0 0), (3, .nilIface), (4, .bool (itB (0:Int) (2:Int))), (5, .bool (chB (0:Int) (2:Int) th)), (6, .bool (aB (0:Int) (2:Int) th)), (7, .bool (bB (0:Int) (2:Int) th)), (8, Ptr nb2 0)]) (by kernel_rfl) ?_
 refine AF (AK (AK (AD (AA _ (AL rfl) rfl ?_))))
 refine AN (AF (CO _ rfl (by decide +kernel) ?_))
 refine AD (AA _ (AL rfl) rfl ?_)
 refine AA (Ptr nb1 3) (AB 3 64 1 AM rfl D5 rfl rfl) rfl ?_
 refine AA (SL aj nj cj) (AI rfl (AQ EE (AS 0 rfl (AG (AG (AE (AE (AE (Seg.head))))))))) rfl ?_
 refine AA (I64 nj) (CY CF rfl) rfl ?_
 refine AA (I64 ((nj:Int) - 1)) (AU rfl rfl fun _ => EV _ _ ((nj:Int) - 1) (by omega) (by omega)) rfl ?_
 refine AA (U64 (UInt64.ofNat (nj - 1))) (CX _ _ rfl fun _ => EL (by rw [AZ]; rfl) A3 (nj - 1) _ (by omega)) rfl ?_
 refine A9 (CB 81 _ [false, true, true] [nb2, nb5] _ (A6 [Ptr nb2 0, U64 (UInt64.ofNat (nj - 1)), I64 1] C4 rfl) rfl (fun w1 hw1 => FR nb2 nb5 10 cp3 11 .nilIface (((numK 8 rq 8) ++ numK 1 (2:UInt64) 1) ++ numK 1 (0:UInt64) 1) sp3 (UInt64.ofNat (nj - 1)) 1 w1 (hw1.ent _ (List.mem_of_getElem? (i := 1) rfl)) (hw1.ent _ (List.mem_of_getElem? (i := 2) rfl)) (hw1.ne (i := 1) (j := 2) rfl rfl (by decide)) (show (((numK 8 rq 8) ++ numK 1 (2:UInt64) 1) ++ numK 1 (0:UInt64) 1).length = 10 from (by rw [List.length_append, (show ((numK 8 rq 8) ++ numK 1 (2:UInt64) 1).length = 9 from (by rw [List.length_append, (show (numK 8 rq 8).length = 8 from (A4 _ _ _)), A4] <;> omega)), A4] <;> omega)) hc7 hc8 hc9 (by omega) (by unfold Szd; omega) (fun _ => shr8n (by omega)) (by omega))) rfl ?_
 rintro v1 L1 ⟨_, ⟨rfl, nb6, sp4, cp4, rfl, hc10, hc11, hc12⟩, rfl⟩
 show JL _ _ _ _ ((45, Ptr nb2 0) :: _) [_, ⟨nb2, [.nilIface, Slc nb6 0 11 cp4], 149, (0, 0)⟩, ⟨nb6, cu8 ((((numK 8 rq 8) ++ numK 1 (2:UInt64) 1) ++ numK 1 (0:UInt64) 1) ++ numK 1 (UInt64.ofNat (nj - 1)) 1) ++ sp4, 5, (0, 0)⟩]
 refine AN (AF (AK (AK (AD (AA (Ptr nb1 3) (AB 3 64 1 AM rfl D5 rfl rfl) rfl ?_)))))
 refine AA (SL aj nj cj) (AI rfl (AQ EE (AS 0 rfl (AG (AG (AE (AE (AE (Seg.head))))))))) rfl ?_
 refine AA (I64 nj) (CY CF rfl) rfl ?_
 refine AA _ (AL rfl) rfl ?_
 refine AN (AF (B2 (DV (ι := Nat × Nat × List UInt8 × Nat × List Value × Nat) (fun ⟨i, q, oqi, gqi, spqi, cpqi⟩ => [(1, Ptr nb1 0), (2, SL none 0 0), (3, .nilIface), (5, .bool (chB (0:Int) (2:Int) th)), (6, .bool (aB (0:Int) (2:Int) th)), (7, .bool (bB (0:Int) (2:Int) th)), (8, Ptr nb2 0), (47, SL aj nj cj), (48, I64 nj), (49, I64 i)]) (fun ⟨i, q, oqi, gqi, spqi, cpqi⟩ => [⟨nb1, [U64 rq, I64 2, I64 0, SL aj nj cj, .bool th, U64 pv, U64 ep, I64 (kd), SL ai ni ci, SL sa ns sc, U64 bl] ++ cu8 tg ++ [SL aha nha cha, SL ahb nhb chb], 67, (0, 0)⟩, ⟨nb2, [.nilIface, Slc gqi 0 q cpqi], 149, (0, 0)⟩, ⟨gqi, cu8 oqi ++ spqi, 5, (0, 0)⟩]) (fun ⟨i, q, oqi, gqi, spqi, cpqi⟩ => i ≤ nj ∧ oqi = (((numK 8 rq 8 ++ numK 1 (2:UInt64) 1) ++ numK 1 (0:UInt64) 1) ++ numK 1 (UInt64.ofNat (nj - 1)) 1) ++ itmsT (lj.take i) ∧ oqi.length = q ∧ spqi.length = cpqi - q ∧ q ≤ cpqi ∧ cpqi ≤ maxLen ∧ q ≤ 57*i + 11) (fun ⟨i, q, oqi, gqi, spqi, cpqi⟩ => nj - i) (0, 11, (((numK 8 rq 8) ++ numK 1 (2:UInt64) 1) ++ numK 1 (0:UInt64) 1) ++ numK 1 (UInt64.ofNat (nj - 1)) 1, nb6, sp4, cp4) ⟨by omega, by rw [List.take_zero, itmsT_nil, List.append_nil], (by have h := (show ((((numK 8 rq 8) ++ numK 1 (2:UInt64) 1) ++ numK 1 (0:UInt64) 1) ++ numK 1 (UInt64.ofNat (nj - 1)) 1).length = 11 from (by rw [List.length_append, (show (((numK 8 rq 8) ++ numK 1 (2:UInt64) 1) ++ numK 1 (0:UInt64) 1).length = 10 from (by rw [List.length_append, (show ((numK 8 rq 8) ++ numK 1 (2:UInt64) 1).length = 9 from (by rw [List.length_append, (show (numK 8 rq 8).length = 8 from (A4 _ _ _)), A4] <;> omega)), A4] <;> omega)), A4] <;> omega)); omega), (by have h := hc10; omega), by omega, by omega, by omega⟩ (Sub.all rfl) (by first | rfl | (simp; done)) ?_)))
 rintro ⟨i, q, oqi, gqi, spqi, cpqi⟩ ⟨hi1, hi2, hi3, hi4, hi5, hi6, hi7⟩
 show JC _ _ _ [(1, Ptr nb1 0), (2, SL none 0 0), (3, .nilIface), (5, .bool (chB (0:Int) (2:Int) th)), (6, .bool (aB (0:Int) (2:Int) th)), (7, .bool (bB (0:Int) (2:Int) th)), (8, Ptr nb2 0), (47, SL aj nj cj), (48, I64 nj), (49, I64 i)] [⟨nb1, [U64 rq, I64 2, I64 0, SL aj nj cj, .bool th, U64 pv, U64 ep, I64 (kd), SL ai ni ci, SL sa ns sc, U64 bl] ++ cu8 tg ++ [SL aha nha cha, SL ahb nhb chb], 67, (0, 0)⟩, ⟨nb2, [.nilIface, Slc gqi 0 q cpqi], 149, (0, 0)⟩, ⟨gqi, cu8 oqi ++ spqi, 5, (0, 0)⟩]
 refine AK (AD (AA (.bool (decide (((i:Int)) < ((nj:Int))))) (AU rfl rfl fun _ => CR _ _) rfl ?_))
 refine AN (AF (AK (CI (decide (((i:Int)) < ((nj:Int)))) rfl (fun hb1 => ?_) (fun hb1 => ?_))))
 ·
  have hp1 : ((i:Int)) < ((nj:Int)) := of_decide_eq_true hb1
  refine BE (AF (AK (B2 (AK (AD ?_)))))
  obtain ⟨x1, hx1⟩ : ∃ x, lj[i]? = some x := ⟨_, List.getElem?_eq_getElem (by rw [hlj]; omega)⟩
  obtain ⟨bz1, oz1, hz1, hm1⟩ := E4 E6 (by decide) hj hx1
  rw [FO] at hm1
  refine AA (Ptr bz1 (50*i + oz1)) (B4 163 50 (50*i + oz1) CF DD rfl hz1 rfl (by omega) (by omega) (by omega)) rfl ?_
  refine AA (.agg (List.toArray (α := Value) ([.bool x1.b, U64 x1.s.e] ++ cu8 x1.s.d ++ cu8 x1.s.t))) (AI rfl (BV Tryd.isAgg163 DD (by simp [x1.s.hd, x1.s.ht]) (CK (hm1.mem (by simp)) (AV _) (by first | omega | (simp; done) | (simp; omega))))) rfl ?_
  refine A9 (DI _ ([.bool false, U64 0] ++ cu8 (zr8 32) ++ cu8 (zr8 16)) Tryd.zeroValue163 (by kernel_rfl)) rfl ?_
  rintro v1 L1 ⟨nb7, hnb7, rfl, rfl⟩
  show JL _ _ _ _ ((10, Ptr nb7 0) :: _) [_, _, _, ⟨nb7, [.bool false, U64 0] ++ cu8 (zr8 32) ++ cu8 (zr8 16), 163, (0, 0)⟩]
  refine B1 (CW 3 nb7 50 ([.bool false, U64 0] ++ cu8 (zr8 32) ++ cu8 (zr8 16)) 163 ([.bool x1.b, U64 x1.s.e] ++ cu8 x1.s.d ++ cu8 x1.s.t) rfl rfl rfl DD (by simp [x1.s.hd, x1.s.ht]) (EH (EH (by simp [Value.oneCell']) FE) FE) (by simp [(B6 32), (B6 16)]) (DC (by simp [(B6 32), (B6 16), x1.s.hd, x1.s.ht]))) rfl ?_
  show JL _ _ _ _ _ [_, _, _, ⟨nb7, [.bool x1.b, U64 x1.s.e] ++ cu8 x1.s.d ++ cu8 x1.s.t, 163, (0, 0)⟩]
  refine AN (AF (AK (AD (AA _ (AL rfl) rfl ?_))))
  refine AA (Ptr nb7 0) (AB 0 4 1 C0 rfl BB rfl rfl) rfl ?_
  refine AA (.bool x1.b) (AI rfl (AQ BD (AS 3 rfl (AG (AG (Seg.head)))))) rfl ?_
  refine A9 (CB 96 _ [false, true, true, false] [nb2, gqi] _ (A6 [Ptr nb2 0, .bool x1.b] Tryd.call96 rfl) rfl (fun w1 hw1 => flagO_c nb2 gqi q cpqi (q + 1) .nilIface oqi spqi x1.b w1 (hw1.ent _ (List.mem_of_getElem? (i := 1) rfl)) (hw1.ent _ (List.mem_of_getElem? (i := 2) rfl)) (hw1.ne (i := 1) (j := 2) rfl rfl (by decide)) hi3 hi4 hi5 hi6 (by omega) (by omega))) rfl ?_
  rintro v1 L1 ⟨_, ⟨rfl, nb8, sp5, cp5, rfl, hc13, hc14, hc15⟩, rfl⟩
  show JL _ _ _ _ ((56, Ptr nb2 0) :: _) [_, _, ⟨nb2, [.nilIface, Slc nb8 0 (q + 1) cp5], 149, (0, 0)⟩, ⟨nb8, cu8 (oqi ++ numK 1 (bitU x1.b) 1) ++ sp5, 5, (0, 0)⟩]
  refine AN (AF (AK (AD (AA (Ptr nb7 0) (AB 0 4 1 C0 rfl BB rfl rfl) rfl ?_))))
  refine AA (.bool x1.b) (AI rfl (AQ BD (AS 1 rfl (AG (AG (Seg.head)))))) rfl ?_
  refine AN (AF (CI (x1.b) rfl (fun hb2 => ?_) (fun hb2 => ?_)))
  ·
   refine AD (AA _ (AL rfl) rfl ?_)
   refine AA (Ptr nb7 1) (AB 1 161 49 C0 rfl CJ rfl rfl) rfl ?_
   refine AA (.agg ([U64 x1.s.e] ++ cu8 x1.s.d ++ cu8 x1.s.t).toArray) (AI rfl (BV D2 CJ (by simp [x1.s.hd, x1.s.ht]) (AS 1 rfl (C6 (p := [.bool x1.b]) (q := []) (vs := [U64 x1.s.e] ++ cu8 x1.s.d ++ cu8 x1.s.t) (by first | rfl | (simp only [List.append_assoc, List.nil_append, List.append_nil, List.cons_append]; done)) rfl)))) rfl ?_
   refine A9 (CG 97 [.agg ([U64 x1.s.e] ++ cu8 x1.s.d ++ cu8 x1.s.t).toArray] _ (A6 _ Tryd.call97 rfl) (fun w1 hw1 => put7_c x1.s.e x1.s.d x1.s.t w1 x1.s.hd x1.s.ht)) rfl ?_
   rintro v1 L1 ⟨_, ⟨nb9, sp6, cp6, rfl, rfl, hc16, hc17, hc18⟩, rfl⟩
   show JL _ _ _ _ ((62, Slc nb9 0 56 cp6) :: _) [_, _, _, _, ⟨nb9, cu8 (putL x1.s.e x1.s.d x1.s.t) ++ sp6, 5, (0, 0)⟩]
   refine A9 (CB 82 _ [false, false, true, true, false] [nb2, nb8] _ (A6 [Ptr nb2 0, Slc nb9 0 56 cp6] Tryd.call82 rfl) rfl (fun w1 hw1 => rawO_c nb2 nb8 (q + 1) cp5 (q + 57) .nilIface (oqi ++ numK 1 (bitU x1.b) 1) sp5 (some ⟨nb9, 0, none⟩) 56 cp6 (putL x1.s.e x1.s.d x1.s.t) w1 (hw1.ent _ (List.mem_of_getElem? (i := 2) rfl)) (hw1.ent _ (List.mem_of_getElem? (i := 3) rfl)) (hw1.ne (i := 2) (j := 3) rfl rfl (by decide)) (show (oqi ++ numK 1 (bitU x1.b) 1).length = (q + 1) from (by rw [List.length_append, hi3, A4] <;> omega)) hc13 hc14 hc15 (by omega) (show (putL x1.s.e x1.s.d x1.s.t).length = 56 from (FM x1.s.hd x1.s.ht)) (by omega) (RdB.of hw1 (AS 4 rfl (AG (AV _))) (by intro _; simp only [List.mem_cons, List.not_mem_nil, or_false, not_or]; exact ⟨hw1.ne (i := 4) (j := 2) rfl rfl (by decide), hw1.ne (i := 4) (j := 3) rfl rfl (by decide)⟩)) (by omega))) rfl ?_
   rintro v1 L1 ⟨_, ⟨rfl, nb10, sp7, cp7, rfl, hc19, hc20, hc21⟩, rfl⟩
   show JL _ _ _ _ ((63, Ptr nb2 0) :: _) [_, _, _, ⟨nb2, [.nilIface, Slc nb10 0 (q + 57) cp7], 149, (0, 0)⟩, ⟨nb10, cu8 ((oqi ++ numK 1 (bitU x1.b) 1) ++ (putL x1.s.e x1.s.d x1.s.t)) ++ sp7, 5, (0, 0)⟩]
   refine AN (BY (AF (AD (AA (I64 ((i:Int) + 1)) (AU rfl rfl fun _ => DE _ _ ((i:Int) + 1) (by omega) (by omega)) rfl ?_))))
   refine AA _ (AL rfl) rfl ?_
   refine AN (DK (BP [true, false, false, true, true] ?_))
   show K _ _ [_, _, _] _
   refine EM (i + 1, (q + 57), (oqi ++ numK 1 (bitU x1.b) 1) ++ (putL x1.s.e x1.s.d x1.s.t), nb10, sp7, cp7) ⟨by omega, by rw [hi2, List.append_assoc, List.append_assoc, ← itm_t hb2, FV hx1], (by have h := (show ((oqi ++ numK 1 (bitU x1.b) 1) ++ (putL x1.s.e x1.s.d x1.s.t)).length = (q + 57) from (by rw [List.length_append, (show (oqi ++ numK 1 (bitU x1.b) 1).length = (q + 1) from (by rw [List.length_append, hi3, A4] <;> omega)), (show (putL x1.s.e x1.s.d x1.s.t).length = 56 from (FM x1.s.hd x1.s.ht))] <;> omega)); omega), (by have h := hc19; omega), by omega, by omega, by omega⟩ (by first | (simp; omega) | simp | (dsimp only; omega) | omega) (Sub.all rfl) rfl
  ·
   refine BE (BY (AF (AD (AA (I64 ((i:Int) + 1)) (AU rfl rfl fun _ => DE _ _ ((i:Int) + 1) (by omega) (by omega)) rfl ?_))))
   refine AA _ (AL rfl) rfl ?_
   refine AN (DK (BP [true, false, true, true] ?_))
   show K _ _ [_, _, _] _
   refine EM (i + 1, (q + 1), oqi ++ numK 1 (bitU x1.b) 1, nb8, sp5, cp5) ⟨by omega, by rw [hi2, List.append_assoc, ← itm_f hb2, FV hx1], (by have h := (show (oqi ++ numK 1 (bitU x1.b) 1).length = (q + 1) from (by rw [List.length_append, hi3, A4] <;> omega)); omega), (by have h := hc13; omega), by omega, by omega, by omega⟩ (by first | (simp; omega) | simp | (dsimp only; omega) | omega) (Sub.all rfl) rfl
 ·
  have hp1 : ¬ (((i:Int)) < ((nj:Int))) := of_decide_eq_false hb1
  refine DU (A5 (A5 (CQ (AF (AK (AK ?_))))))
  have ei : nj = i := by omega
  subst ei
  rw [List.take_of_length_le (by omega)] at hi2
  have eq : q = si + 11 := by rw [← hi3, hi2]; simp [A4, hsi]; omega
  subst eq
  subst hi2
  show JC _ _ _ _ [⟨nb1, [U64 rq, I64 2, I64 0, SL aj nj cj, .bool th, U64 pv, U64 ep, I64 (kd), SL ai ni ci, SL sa ns sc, U64 bl] ++ cu8 tg ++ [SL aha nha cha, SL ahb nhb chb], 67, (0, 0)⟩, ⟨nb2, [.nilIface, Slc gqi 0 (si + 11) cpqi], 149, (0, 0)⟩, ⟨gqi, cu8 ((((numK 8 rq 8 ++ numK 1 (2:UInt64) 1) ++ numK 1 (0:UInt64) 1) ++ numK 1 (UInt64.ofNat (nj - 1)) 1) ++ itmsT lj) ++ spqi, 5, (0, 0)⟩]
  refine AD (AA (Ptr nb1 2) (AB 2 3 1 AM rfl AR rfl rfl) rfl ?_)
  refine AA (I64 0) (AI rfl (AQ AT (AS 0 rfl (AG (AG (AE (AE (Seg.head)))))))) rfl ?_
  refine AA (.bool (decide ((0:Int) = (0:Int)))) (AU rfl rfl fun _ => BO _ _) rfl ?_
  refine AA _ (AL rfl) rfl ?_
  refine AP 3 68 true _ (Ptr nb1 1) rfl rfl (by decide) (AB 1 3 1 AM rfl AR rfl rfl) rfl ?_
  refine AP 3 68 true _ (I64 2) rfl rfl (by decide) (AI rfl (AQ AT (AS 0 rfl (AG (AG (AE (Seg.head))))))) rfl ?_
  refine AP 3 68 true _ (.bool (decide ((2:Int) = (4:Int)))) rfl rfl (by decide) (AU rfl rfl fun _ => BO _ _) rfl ?_
  refine AA _ (A2 _ rfl (by decide) rfl) rfl ?_
  refine AN (AF (BN _ rfl (by decide) ?_))
  refine BE (AF (AK (AK (AD (AA _ (AL rfl) rfl ?_)))))
  refine AN (AF (BN _ rfl ((by decide +kernel : ∀ t : Bool, (chB (0:Int) (2:Int) t) = false) th) ?_))
  refine BE (AF (AK (AK (AD (AA _ (AL rfl) rfl ?_)))))
  refine AN (AF (CO _ rfl ((by decide +kernel : ∀ t : Bool, (aB (0:Int) (2:Int) t) = true) th) ?_))
  refine AD (AA _ (AL rfl) rfl ?_)
  refine AA (Ptr nb1 27) (AB 27 65 1 AM rfl BR rfl rfl) rfl ?_
  refine AA (SL aha nha cha) (AI rfl (AQ BU (AS 0 rfl (Seg.right 27 0 (by simp [htg]) rfl (Seg.head))))) rfl ?_
  refine A9 (CB 98 _ [false, true, true] [nb2, gqi] _ (A6 [Ptr nb2 0, SL aha nha cha] Tryd.call98 rfl) rfl (fun w1 hw1 => hashesO_c nb2 gqi (si + 11) cpqi (32*nha + si + 13) .nilIface ((((numK 8 rq 8 ++ numK 1 (2:UInt64) 1) ++ numK 1 (0:UInt64) 1) ++ numK 1 (UInt64.ofNat (nj - 1)) 1) ++ itmsT lj) spqi aha nha cha xha w1 (hw1.ent _ (List.mem_of_getElem? (i := 1) rfl)) (hw1.ent _ (List.mem_of_getElem? (i := 2) rfl)) (hw1.ne (i := 1) (j := 2) rfl rfl (by decide)) hi3 hi4 hi5 hi6 (by omega) hlha (by omega) (by omega) (by omega) (hrha.at (M' := [nb2, gqi]) hw1 (hw1.apart [1, 2] _ rfl)) (by omega) (by omega))) rfl ?_
  rintro v1 L1 ⟨_, ⟨rfl, nb11, sp8, cp8, rfl, hc22, hc23, hc24⟩, rfl⟩
  show JL _ _ _ _ ((93, .tuple #[]) :: _) [_, ⟨nb2, [.nilIface, Slc nb11 0 (32*nha + si + 13) cp8], 149, (0, 0)⟩, ⟨nb11, cu8 ((((((numK 8 rq 8 ++ numK 1 (2:UInt64) 1) ++ numK 1 (0:UInt64) 1) ++ numK 1 (UInt64.ofNat (nj - 1)) 1) ++ itmsT lj) ++ numK 2 (UInt64.ofNat nha) 2) ++ xha) ++ sp8, 5, (0, 0)⟩]
  refine AN (AF (AK (AK (AD (AA _ (AL rfl) rfl ?_)))))
  refine AN (AF (CO _ rfl ((by decide +kernel : ∀ t : Bool, (bB (0:Int) (2:Int) t) = true) th) ?_))
  refine AD (AA _ (AL rfl) rfl ?_)
  refine AA (Ptr nb1 28) (AB 28 65 1 AM rfl BR rfl rfl) rfl ?_
  refine AA (SL ahb nhb chb) (AI rfl (AQ BU (AS 0 rfl (Seg.right 27 1 (by simp [htg]) rfl (AE (Seg.head)))))) rfl ?_
  refine A9 (CB 98 _ [false, true, true] [nb2, nb11] _ (A6 [Ptr nb2 0, SL ahb nhb chb] Tryd.call98 rfl) rfl (fun w1 hw1 => hashesO_c nb2 nb11 (32*nha + si + 13) cp8 (32*nha + 32*nhb + si + 15) .nilIface ((((((numK 8 rq 8 ++ numK 1 (2:UInt64) 1) ++ numK 1 (0:UInt64) 1) ++ numK 1 (UInt64.ofNat (nj - 1)) 1) ++ itmsT lj) ++ numK 2 (UInt64.ofNat nha) 2) ++ xha) sp8 ahb nhb chb xhb w1 (hw1.ent _ (List.mem_of_getElem? (i := 1) rfl)) (hw1.ent _ (List.mem_of_getElem? (i := 2) rfl)) (hw1.ne (i := 1) (j := 2) rfl rfl (by decide)) (show ((((((numK 8 rq 8 ++ numK 1 (2:UInt64) 1) ++ numK 1 (0:UInt64) 1) ++ numK 1 (UInt64.ofNat (nj - 1)) 1) ++ itmsT lj) ++ numK 2 (UInt64.ofNat nha) 2) ++ xha).length = (32*nha + si + 13) from (by rw [List.length_append, List.length_append, A4, hi3, hlha] <;> omega)) hc22 hc23 hc24 (by omega) hlhb (by omega) (by omega) (by omega) (hrhb.at (M' := [nb2, nb11]) hw1 (hw1.apart [1, 2] _ rfl)) (by omega) (by omega))) rfl ?_
  rintro v1 L1 ⟨_, ⟨rfl, nb12, sp9, cp9, rfl, hc25, hc26, hc27⟩, rfl⟩
  show JL _ _ _ _ ((98, .tuple #[]) :: _) [_, ⟨nb2, [.nilIface, Slc nb12 0 (32*nha + 32*nhb + si + 15) cp9], 149, (0, 0)⟩, ⟨nb12, cu8 ((((((((numK 8 rq 8 ++ numK 1 (2:UInt64) 1) ++ numK 1 (0:UInt64) 1) ++ numK 1 (UInt64.ofNat (nj - 1)) 1) ++ itmsT lj) ++ numK 2 (UInt64.ofNat nha) 2) ++ xha) ++ numK 2 (UInt64.ofNat nhb) 2) ++ xhb) ++ sp9, 5, (0, 0)⟩]
  refine AN (AF (AK (AD (AA _ (AL rfl) rfl ?_))))
  refine A9 (CG 83 [Ptr nb2 0] _ (A6 _ Tryd.call83 rfl) (fun w1 hw1 => doneO_c nb2 0 nb12 (32*nha + 32*nhb + si + 15) cp9 ((((((((numK 8 rq 8 ++ numK 1 (2:UInt64) 1) ++ numK 1 (0:UInt64) 1) ++ numK 1 (UInt64.ofNat (nj - 1)) 1) ++ itmsT lj) ++ numK 2 (UInt64.ofNat nha) 2) ++ xha) ++ numK 2 (UInt64.ofNat nhb) 2) ++ xhb) w1 (RdA.of hw1 (AS 1 rfl (AV _)) (by simp)) rfl (show ((((((((numK 8 rq 8 ++ numK 1 (2:UInt64) 1) ++ numK 1 (0:UInt64) 1) ++ numK 1 (UInt64.ofNat (nj - 1)) 1) ++ itmsT lj) ++ numK 2 (UInt64.ofNat nha) 2) ++ xha) ++ numK 2 (UInt64.ofNat nhb) 2) ++ xhb).length = (32*nha + 32*nhb + si + 15) from (by rw [List.length_append, List.length_append, A4, (show ((((((numK 8 rq 8 ++ numK 1 (2:UInt64) 1) ++ numK 1 (0:UInt64) 1) ++ numK 1 (UInt64.ofNat (nj - 1)) 1) ++ itmsT lj) ++ numK 2 (UInt64.ofNat nha) 2) ++ xha).length = (32*nha + si + 13) from (by rw [List.length_append, List.length_append, A4, hi3, hlha] <;> omega)), hlhb] <;> omega)) (by omega) (RdB.of hw1 (AS 2 rfl (AG (AV _))) (by simp)))) rfl ?_
  rintro v1 L1 ⟨_, ⟨nb13, sp10, cp10, rfl, rfl, hc28, hc29, hc30⟩, rfl⟩
  show JL _ _ _ _ ((100, .tuple #[Slc nb13 0 (32*nha + 32*nhb + si + 15) cp10, .nilIface]) :: _) [_, _, _, ⟨nb13, cu8 ((((((((numK 8 rq 8 ++ numK 1 (2:UInt64) 1) ++ numK 1 (0:UInt64) 1) ++ numK 1 (UInt64.ofNat (nj - 1)) 1) ++ itmsT lj) ++ numK 2 (UInt64.ofNat nha) 2) ++ xha) ++ numK 2 (UInt64.ofNat nhb) 2) ++ xhb) ++ sp10, 5, (0, 0)⟩]
  refine AA _ (B0 rfl rfl) rfl ?_
  refine AA _ (B0 rfl rfl) rfl ?_
  refine AA _ (AH rfl) rfl ?_
  refine AA _ (AH rfl) rfl ?_
  refine AN (AF (BK (BP [false, false, false, true] ?_)))
  show JQ _ _ _ _ [_]
  refine BJ (.tuple #[Slc nb13 0 (32*nha + 32*nhb + si + 15) cp10, .nilIface]) (res2 Tryd.results34 (BH rfl) (BH rfl)) fun w1 hw1 => ?_
  skip
  exact ⟨_, _, rfl, ⟨nb13, sp10, cp10, rfl, rfl, hc28, hc29, hc30⟩, hw1.sub (by simp) (by simp)⟩
set_option maxHeartbeats 2000000 in
theorem putRep3_c (rq : UInt64) (aj : Option Addr) (nj cj : Nat) (lj : List ItemR) (th : Bool) (pv ep : UInt64) (kd : Int) (ai : Option Addr) (ni ci : Nat) (l : List UInt64) (sa : Option Addr) (ns sc : Nat) (ls : List SealR) (bl : UInt64) (tg : List UInt8) (aha : Option Addr) (nha cha : Nat) (xha : List UInt8) (ahb : Option Addr) (nhb chb : Nat) (xhb : List UInt8)  (w : World) (hlj : lj.length = nj) (hnj : nj ≤ 2000000) (hdj : nj ≤ cj) (hcj : cj ≤ maxLen) (hj : RdV w aj (lj.flatMap itemC)) (hl : l.length = ni) (hnm : ni ≤ 2000000) (hnc : ni ≤ ci) (hcm : ci ≤ maxLen) (hv : RdV w ai (cu64 l)) (hls : ls.length = ns) (hnn : ns ≤ 2000000) (hnd : ns ≤ sc) (hcn : sc ≤ maxLen) (hs : RdV w sa (ls.flatMap sealC)) (htg : tg.length = 16) (hlha : xha.length = nha * 32) (hnha : nha ≤ 9000) (hdha : nha ≤ cha) (hcha : cha ≤ maxLen) (hrha : RdB w [] aha xha) (hlhb : xhb.length = nhb * 32) (hnhb : nhb ≤ 9000) (hdhb : nhb ≤ chb) (hchb : chb ≤ maxLen) (hrhb : RdB w [] ahb xhb) (hbi : ni ≤ 300) (hbs : ns ≤ 300) (hA : nha ≤ 300) (hB : nhb ≤ 300) (hR : repR (3:Int) (0:Int) th lj (blankB pv ep kd l ls bl tg) (decide (mayN pv ep kd l ls bl = 0)) nha nhb = true)  : Calls Tryd.prog 34 #[.agg ([U64 rq, I64 3, I64 0, SL aj nj cj, .bool th, U64 pv, U64 ep, I64 (kd), SL ai ni ci, SL sa ns sc, U64 bl] ++ cu8 tg ++ [SL aha nha cha, SL ahb nhb chb]).toArray] w (Post w [] (fun v L => ∃ g sp cap, v = .tuple #[Slc g 0 ((32*nha + 32*nhb + 14)) cap, .nilIface] ∧ L = [⟨g, cu8 ((((((numK 8 rq 8 ++ numK 1 (3:UInt64) 1) ++ numK 1 (0:UInt64) 1) ++ numK 2 (UInt64.ofNat nha) 2) ++ xha) ++ numK 2 (UInt64.ofNat nhb) 2) ++ xhb) ++ sp, 5, (0, 0)⟩] ∧ sp.length = cap - (32*nha + 32*nhb + 14) ∧ (32*nha + 32*nhb + 14) ≤ cap ∧ cap ≤ maxLen)) := by
 have hmx : maxLen = 9223372036854775807 := rfl
 have hf := repR_f hlj hR
 have hn0 := c2_len0 hlj (repR_2 hR (by decide +kernel))
 refine enter (P := Tryd.prog) (f := 34) (fn := Tryd.f34) w [] 103 [] [.agg ([U64 rq, I64 3, I64 0, SL aj nj cj, .bool th, U64 pv, U64 ep, I64 (kd), SL ai ni ci, SL sa ns sc, U64 bl] ++ cu8 tg ++ [SL aha nha cha, SL ahb nhb chb]).toArray] Tryd.func34 rfl rfl (by simp) (CC (by simp) (by simp) (by simp)) ?_
 show JC _ _ _ [(0, .agg ([U64 rq, I64 3, I64 0, SL aj nj cj, .bool th, U64 pv, U64 ep, I64 (kd), SL ai ni ci, SL sa ns sc, U64 bl] ++ cu8 tg ++ [SL aha nha cha, SL ahb nhb chb]).toArray)] _
 refine AK (AD (A9 (CL (.agg ([U64 rq, I64 3, I64 0, SL aj nj cj, .bool th, U64 pv, U64 ep, I64 (kd), SL ai ni ci, SL sa ns sc, U64 bl] ++ cu8 tg ++ [SL aha nha cha, SL ahb nhb chb]).toArray) ([U64 rq, I64 3, I64 0, SL aj nj cj, .bool th, U64 pv, U64 ep, I64 (kd), SL ai ni ci, SL sa ns sc, U64 bl] ++ cu8 tg ++ [SL aha nha cha, SL ahb nhb chb]) rfl (by first | rfl | simp)) rfl ?_))
 rintro v1 L1 ⟨nb1, hnb1, rfl, rfl⟩
 show JL _ _ _ _ ((1, Ptr nb1 0) :: _) [⟨nb1, [U64 rq, I64 3, I64 0, SL aj nj cj, .bool th, U64 pv, U64 ep, I64 (kd), SL ai ni ci, SL sa ns sc, U64 bl] ++ cu8 tg ++ [SL aha nha cha, SL ahb nhb chb], 67, (0, 0)⟩]
 refine AA _ (AH rfl) rfl ?_
 refine AA _ (AH rfl) rfl ?_
 refine AN (AF (AK (AK (AD (AA (.agg ([U64 rq, I64 3, I64 0, SL aj nj cj, .bool th, U64 pv, U64 ep, I64 (kd), SL ai ni ci, SL sa ns sc, U64 bl] ++ cu8 tg ++ [SL aha nha cha, SL ahb nhb chb]).toArray) (AI rfl (BV CV CH (by simp [htg]) (AS 0 rfl (AV _)))) rfl ?_)))))
 refine B1 (BG 35 [.agg ([U64 rq, I64 3, I64 0, SL aj nj cj, .bool th, U64 pv, U64 ep, I64 (kd), SL ai ni ci, SL sa ns sc, U64 bl] ++ cu8 tg ++ [SL aha nha cha, SL ahb nhb chb]).toArray] (.bool (repR (3:Int) (0:Int) th lj (blankB pv ep (kd) l ls bl tg) (decide (mayN pv ep (kd) l ls bl = 0)) nha nhb)) (A6 _ Tryd.call35 rfl) (fun w1 hw1 => FX rq (3:Int) (0:Int) aj nj cj lj th pv ep (kd) ai ni ci l sa ns sc ls bl tg aha nha cha xha ahb nhb chb xhb w1 hlj (by omega) (by omega) (by omega) (CA hw1 rfl hj) hl (by omega) (by omega) (by omega) (CA hw1 rfl hv) hls (by omega) (by omega) (by omega) (CA hw1 rfl hs) htg hlha (by omega) (by omega) (by omega) (hrha.at (M' := []) hw1 (by simp)) hlhb (by omega) (by omega) (by omega) (hrhb.at (M' := []) hw1 (by simp)) (by omega) (by omega))) rfl ?_
 show JL _ _ _ _ ((14, .bool (repR (3:Int) (0:Int) th lj (blankB pv ep (kd) l ls bl tg) (decide (mayN pv ep (kd) l ls bl = 0)) nha nhb)) :: _) [_]
 refine AA (.bool (!(repR (3:Int) (0:Int) th lj (blankB pv ep (kd) l ls bl tg) (decide (mayN pv ep (kd) l ls bl = 0)) nha nhb))) (EP rfl) rfl ?_
 refine AN (AF (BN _ rfl (bnotT hR) ?_))
 refine BE (AF (AK (AD (AA (.agg ([U64 rq, I64 3, I64 0, SL aj nj cj, .bool th, U64 pv, U64 ep, I64 (kd), SL ai ni ci, SL sa ns sc, U64 bl] ++ cu8 tg ++ [SL aha nha cha, SL ahb nhb chb]).toArray) (AI rfl (BV CV CH (by simp [htg]) (AS 0 rfl (AV _)))) rfl ?_))))
 refine B1 (BG 95 [.agg ([U64 rq, I64 3, I64 0, SL aj nj cj, .bool th, U64 pv, U64 ep, I64 (kd), SL ai ni ci, SL sa ns sc, U64 bl] ++ cu8 tg ++ [SL aha nha cha, SL ahb nhb chb]).toArray] (.tuple #[.bool (itB (0:Int) (3:Int)), .bool (chB (0:Int) (3:Int) th), .bool (aB (0:Int) (3:Int) th), .bool (bB (0:Int) (3:Int) th)]) (A6 _ Tryd.call95 rfl) (fun w1 hw1 => parts_c rq (3:Int) (0:Int) aj nj cj lj th pv ep (kd) ai ni ci l sa ns sc ls bl tg aha nha cha xha ahb nhb chb xhb w1 htg)) rfl ?_
 show JL _ _ _ _ ((19, .tuple #[.bool (itB (0:Int) (3:Int)), .bool (chB (0:Int) (3:Int) th), .bool (aB (0:Int) (3:Int) th), .bool (bB (0:Int) (3:Int) th)]) :: _) [_]
 refine AA _ (AL rfl) rfl ?_
 refine AA _ (B0 rfl rfl) rfl ?_
 refine AA _ (B0 rfl rfl) rfl ?_
 refine AA _ (B0 rfl rfl) rfl ?_
 refine AA _ (B0 rfl rfl) rfl ?_
 refine AA _ (AH rfl) rfl ?_
 refine AA _ (AH rfl) rfl ?_
 refine AA _ (AH rfl) rfl ?_
 refine AA _ (AH rfl) rfl ?_
 refine AN (AF (AK (AD (AA (.agg #[.nilIface, SL none 0 0]) (EB [] _ rfl (fun _ => by kernel_rfl)) rfl ?_))))
 refine A9 (CL (.agg #[.nilIface, SL none 0 0]) ([.nilIface, SL none 0 0]) rfl (by first | rfl | simp)) rfl ?_
 rintro v1 L1 ⟨nb2, hnb2, rfl, rfl⟩
 show JL _ _ _ _ ((25, Ptr nb2 0) :: _) [_, ⟨nb2, [.nilIface, SL none 0 0], 149, (0, 0)⟩]
 refine AA _ (AH rfl) rfl ?_
 refine AN (AF (AK (DH 103 4 [(0, Ptr nb2 0), (1, Ptr nb1 0), (2, U64 rq), (4, Ptr nb1 1), (5, I64 3), (6, U64 3), (8, Ptr nb1 2), (9, I64 0), (10, U64 0)] B8 rfl (by decide +kernel) ?_)))
 refine CZ ⟨[], [0, 1, 2, 4, 5, 6, 8, 9, 10], [], [0, 1, 2, 4, 5, 6, 8, 9, 10], [3]⟩ 3 _ rfl rfl (by decide +kernel) rfl ⟨CD rfl rfl rfl, ⟨_, rfl, AJ rfl (AB 0 22 1 AM rfl AX rfl rfl)⟩, ⟨_, rfl, AJ rfl (AI rfl (AQ AY (AS 0 rfl (AG (AG (Seg.head))))))⟩, ⟨_, rfl, AJ rfl (AB 1 3 1 AM rfl AR rfl rfl)⟩, ⟨_, rfl, AJ rfl (AI rfl (AQ AT (AS 0 rfl (AG (AG (AE (Seg.head)))))))⟩, ⟨_, rfl, AJ rfl (CX _ _ rfl fun _ => DA (by rw [AZ]; rfl) A3 rfl)⟩, ⟨_, rfl, AJ rfl (AB 2 3 1 AM rfl AR rfl rfl)⟩, ⟨_, rfl, AJ rfl (AI rfl (AQ AT (AS 0 rfl (AG (AG (AE (AE (Seg.head))))))))⟩, ⟨_, rfl, AJ rfl (CX _ _ rfl fun _ => DA (by rw [AZ]; rfl) A3 rfl)⟩, trivial⟩ rfl (BI rfl (CB 81 _ [false, true] [nb2] _ (A6 [Ptr nb2 0, U64 rq, I64 8] C4 rfl) rfl (fun w1 hw1 => numN_c nb2 8 .nilIface rq 8 w1 (hw1.ent _ (List.mem_of_getElem? (i := 1) rfl)) (by unfold Szd; omega) (fun h => absurd h (by omega)) (by omega)))) ?_
 rintro v1 L1 ⟨_, ⟨rfl, nb3, sp1, cp1, rfl, hc1, hc2, hc3⟩, rfl⟩
 refine ⟨[], ?_⟩
 show DP _ _ _ _ _ _ _ _ [_, ⟨nb2, [.nilIface, Slc nb3 0 8 cp1], 149, (0, 0)⟩, ⟨nb3, cu8 (numK 8 rq 8) ++ sp1, 5, (0, 0)⟩]
 refine CZ ⟨[3], [0, 1, 2, 4, 5, 6, 8, 9, 10], [0, 1, 2], [4, 5, 6, 8, 9, 10], [7]⟩ 7 _ rfl rfl (by decide +kernel) rfl ⟨⟨_, rfl, AJ rfl (AB 1 3 1 AM rfl AR rfl rfl)⟩, ⟨_, rfl, AJ rfl (AI rfl (AQ AT (AS 0 rfl (AG (AG (AE (Seg.head)))))))⟩, ⟨_, rfl, AJ rfl (CX _ _ rfl fun _ => DA (by rw [AZ]; rfl) A3 rfl)⟩, ⟨_, rfl, AJ rfl (AB 2 3 1 AM rfl AR rfl rfl)⟩, ⟨_, rfl, AJ rfl (AI rfl (AQ AT (AS 0 rfl (AG (AG (AE (AE (Seg.head))))))))⟩, ⟨_, rfl, AJ rfl (CX _ _ rfl fun _ => DA (by rw [AZ]; rfl) A3 rfl)⟩, trivial⟩ rfl (BI rfl (CB 81 _ [false, true, true] [nb2, nb3] _ (A6 [Ptr nb2 0, U64 3, I64 1] C4 rfl) rfl (fun w1 hw1 => FR nb2 nb3 8 cp1 9 .nilIface (numK 8 rq 8) sp1 (3:UInt64) 1 w1 (hw1.ent _ (List.mem_of_getElem? (i := 1) rfl)) (hw1.ent _ (List.mem_of_getElem? (i := 2) rfl)) (hw1.ne (i := 1) (j := 2) rfl rfl (by decide)) (show (numK 8 rq 8).length = 8 from (A4 _ _ _)) hc1 hc2 hc3 (by omega) (by unfold Szd; omega) (fun _ => by decide) (by omega)))) ?_
 rintro v1 L1 ⟨_, ⟨rfl, nb4, sp2, cp2, rfl, hc4, hc5, hc6⟩, rfl⟩
 refine ⟨[], ?_⟩
 show DP _ _ _ _ _ _ _ _ [_, ⟨nb2, [.nilIface, Slc nb4 0 9 cp2], 149, (0, 0)⟩, ⟨nb4, cu8 ((numK 8 rq 8) ++ numK 1 (3:UInt64) 1) ++ sp2, 5, (0, 0)⟩]
 refine CZ ⟨[3, 7], [0, 1, 2, 4, 5, 6, 8, 9, 10], [0, 1, 2, 4, 5, 6], [8, 9, 10], [11]⟩ 11 _ rfl rfl (by decide +kernel) rfl ⟨⟨_, rfl, AJ rfl (AB 2 3 1 AM rfl AR rfl rfl)⟩, ⟨_, rfl, AJ rfl (AI rfl (AQ AT (AS 0 rfl (AG (AG (AE (AE (Seg.head))))))))⟩, ⟨_, rfl, AJ rfl (CX _ _ rfl fun _ => DA (by rw [AZ]; rfl) A3 rfl)⟩, trivial⟩ rfl (BI rfl (CB 81 _ [false, true, true] [nb2, nb4] _ (A6 [Ptr nb2 0, U64 0, I64 1] C4 rfl) rfl (fun w1 hw1 => FR nb2 nb4 9 cp2 10 .nilIface ((numK 8 rq 8) ++ numK 1 (3:UInt64) 1) sp2 (0:UInt64) 1 w1 (hw1.ent _ (List.mem_of_getElem? (i := 1) rfl)) (hw1.ent _ (List.mem_of_getElem? (i := 2) rfl)) (hw1.ne (i := 1) (j := 2) rfl rfl (by decide)) (show ((numK 8 rq 8) ++ numK 1 (3:UInt64) 1).length = 9 from (by rw [List.length_append, (show (numK 8 rq 8).length = 8 from (A4 _ _ _)), A4] <;> omega)) hc4 hc5 hc6 (by omega) (by unfold Szd; omega) (fun _ => by decide) (by omega)))) ?_
 rintro v1 L1 ⟨_, ⟨rfl, nb5, sp3, cp3, rfl, hc7, hc8, hc9⟩, rfl⟩
 refine ⟨[], ?_⟩
 show DP _ _ _ _ _ _ _ _ [_, ⟨nb2, [.nilIface, Slc nb5 0 10 cp3], 149, (0, 0)⟩, ⟨nb5, cu8 (((numK 8 rq 8) ++ numK 1 (3:UInt64) 1) ++ numK 1 (0:UInt64) 1) ++ sp3, 5, (0, 0)⟩]
 refine DN ⟨[3, 7, 11], [0, 1, 2, 4, 5, 6, 8, 9, 10], [0, 1, 2, 4, 5, 6, 8, 9, 10], [], []⟩ rfl rfl (by decide +kernel) rfl trivial ?_
 refine C7 (F' := [(1, Ptr nb1 0), (2, SL none 0 0), (3, .nilIface), (4, .bool (itB (0:Int) (3:Int))), (5, .bool (chB (0:Int) (3:Int) th)), (6, .bool (aB (0:Int) (3:Int) th)), (7, .bool (bB (0:Int) (3:Int) th)), (8, Ptr nb2 0)]) (by kernel_rfl) ?_
 refine AF (AK (AK (AD (AA _ (AL rfl) rfl ?_))))
 refine AN (AF (BN _ rfl (by decide +kernel) ?_))
 refine BE (AF (AK (AK (AD (AA (Ptr nb1 3) (AB 3 64 1 AM rfl D5 rfl rfl) rfl ?_)))))
 refine AA (SL aj nj cj) (AI rfl (AQ EE (AS 0 rfl (AG (AG (AE (AE (AE (Seg.head))))))))) rfl ?_
 refine AA (I64 nj) (CY CF rfl) rfl ?_
 refine AA _ (AL rfl) rfl ?_
 refine AN (AF (B2 (DV (ι := Unit) (fun _ => [(1, Ptr nb1 0), (2, SL none 0 0), (3, .nilIface), (5, .bool (chB (0:Int) (3:Int) th)), (6, .bool (aB (0:Int) (3:Int) th)), (7, .bool (bB (0:Int) (3:Int) th)), (8, Ptr nb2 0), (47, SL aj nj cj), (48, I64 nj), (49, I64 0)]) (fun _ => [⟨nb1, [U64 rq, I64 3, I64 0, SL aj nj cj, .bool th, U64 pv, U64 ep, I64 (kd), SL ai ni ci, SL sa ns sc, U64 bl] ++ cu8 tg ++ [SL aha nha cha, SL ahb nhb chb], 67, (0, 0)⟩, ⟨nb2, [.nilIface, Slc nb5 0 10 cp3], 149, (0, 0)⟩, ⟨nb5, cu8 (((numK 8 rq 8) ++ numK 1 (3:UInt64) 1) ++ numK 1 (0:UInt64) 1) ++ sp3, 5, (0, 0)⟩]) (fun _ => True) (fun _ => 1) () trivial (Sub.all rfl) rfl ?_)))
 rintro _ _
 show JC _ _ _ [(1, Ptr nb1 0), (2, SL none 0 0), (3, .nilIface), (5, .bool (chB (0:Int) (3:Int) th)), (6, .bool (aB (0:Int) (3:Int) th)), (7, .bool (bB (0:Int) (3:Int) th)), (8, Ptr nb2 0), (47, SL aj nj cj), (48, I64 nj), (49, I64 0)] [⟨nb1, [U64 rq, I64 3, I64 0, SL aj nj cj, .bool th, U64 pv, U64 ep, I64 (kd), SL ai ni ci, SL sa ns sc, U64 bl] ++ cu8 tg ++ [SL aha nha cha, SL ahb nhb chb], 67, (0, 0)⟩, ⟨nb2, [.nilIface, Slc nb5 0 10 cp3], 149, (0, 0)⟩, ⟨nb5, cu8 (((numK 8 rq 8) ++ numK 1 (3:UInt64) 1) ++ numK 1 (0:UInt64) 1) ++ sp3, 5, (0, 0)⟩]
 refine AK (AD (AA (.bool (decide ((0:Int) < ((nj:Int))))) (AU rfl rfl fun _ => CR _ _) rfl ?_))
 refine AN (AF (AK (BN _ rfl (decide_eq_false (by omega)) ?_)))
 refine DU (A5 (A5 (CQ (AF (AK (AK (AD (AA (Ptr nb1 2) (AB 2 3 1 AM rfl AR rfl rfl) rfl ?_))))))))
 refine AA (I64 0) (AI rfl (AQ AT (AS 0 rfl (AG (AG (AE (AE (Seg.head)))))))) rfl ?_
 refine AA (.bool (decide ((0:Int) = (0:Int)))) (AU rfl rfl fun _ => BO _ _) rfl ?_
 refine AA _ (AL rfl) rfl ?_
 refine AP 3 68 true _ (Ptr nb1 1) rfl rfl (by decide) (AB 1 3 1 AM rfl AR rfl rfl) rfl ?_
 refine AP 3 68 true _ (I64 3) rfl rfl (by decide) (AI rfl (AQ AT (AS 0 rfl (AG (AG (AE (Seg.head))))))) rfl ?_
 refine AP 3 68 true _ (.bool (decide ((3:Int) = (4:Int)))) rfl rfl (by decide) (AU rfl rfl fun _ => BO _ _) rfl ?_
 refine AA _ (A2 _ rfl (by decide) rfl) rfl ?_
 refine AN (AF (BN _ rfl (by decide) ?_))
 refine BE (AF (AK (AK (AD (AA _ (AL rfl) rfl ?_)))))
 refine AN (AF (BN _ rfl ((by decide +kernel : ∀ t : Bool, (chB (0:Int) (3:Int) t) = false) th) ?_))
 refine BE (AF (AK (AK (AD (AA _ (AL rfl) rfl ?_)))))
 refine AN (AF (CO _ rfl ((by decide +kernel : ∀ t : Bool, (aB (0:Int) (3:Int) t) = true) th) ?_))
 refine AD (AA _ (AL rfl) rfl ?_)
 refine AA (Ptr nb1 27) (AB 27 65 1 AM rfl BR rfl rfl) rfl ?_
 refine AA (SL aha nha cha) (AI rfl (AQ BU (AS 0 rfl (Seg.right 27 0 (by simp [htg]) rfl (Seg.head))))) rfl ?_
 refine A9 (CB 98 _ [false, true, true] [nb2, nb5] _ (A6 [Ptr nb2 0, SL aha nha cha] Tryd.call98 rfl) rfl (fun w1 hw1 => hashesO_c nb2 nb5 10 cp3 (32*nha + 12) .nilIface (((numK 8 rq 8) ++ numK 1 (3:UInt64) 1) ++ numK 1 (0:UInt64) 1) sp3 aha nha cha xha w1 (hw1.ent _ (List.mem_of_getElem? (i := 1) rfl)) (hw1.ent _ (List.mem_of_getElem? (i := 2) rfl)) (hw1.ne (i := 1) (j := 2) rfl rfl (by decide)) (show (((numK 8 rq 8) ++ numK 1 (3:UInt64) 1) ++ numK 1 (0:UInt64) 1).length = 10 from (by rw [List.length_append, (show ((numK 8 rq 8) ++ numK 1 (3:UInt64) 1).length = 9 from (by rw [List.length_append, (show (numK 8 rq 8).length = 8 from (A4 _ _ _)), A4] <;> omega)), A4] <;> omega)) hc7 hc8 hc9 (by omega) hlha (by omega) (by omega) (by omega) (hrha.at (M' := [nb2, nb5]) hw1 (hw1.apart [1, 2] _ rfl)) (by omega) (by omega))) rfl ?_
 rintro v1 L1 ⟨_, ⟨rfl, nb6, sp4, cp4, rfl, hc10, hc11, hc12⟩, rfl⟩
 show JL _ _ _ _ ((93, .tuple #[]) :: _) [_, ⟨nb2, [.nilIface, Slc nb6 0 (32*nha + 12) cp4], 149, (0, 0)⟩, ⟨nb6, cu8 (((((numK 8 rq 8) ++ numK 1 (3:UInt64) 1) ++ numK 1 (0:UInt64) 1) ++ numK 2 (UInt64.ofNat nha) 2) ++ xha) ++ sp4, 5, (0, 0)⟩]
 refine AN (AF (AK (AK (AD (AA _ (AL rfl) rfl ?_)))))
 refine AN (AF (CO _ rfl ((by decide +kernel : ∀ t : Bool, (bB (0:Int) (3:Int) t) = true) th) ?_))
 refine AD (AA _ (AL rfl) rfl ?_)
 refine AA (Ptr nb1 28) (AB 28 65 1 AM rfl BR rfl rfl) rfl ?_
 refine AA (SL ahb nhb chb) (AI rfl (AQ BU (AS 0 rfl (Seg.right 27 1 (by simp [htg]) rfl (AE (Seg.head)))))) rfl ?_
 refine A9 (CB 98 _ [false, true, true] [nb2, nb6] _ (A6 [Ptr nb2 0, SL ahb nhb chb] Tryd.call98 rfl) rfl (fun w1 hw1 => hashesO_c nb2 nb6 (32*nha + 12) cp4 (32*nha + 32*nhb + 14) .nilIface (((((numK 8 rq 8) ++ numK 1 (3:UInt64) 1) ++ numK 1 (0:UInt64) 1) ++ numK 2 (UInt64.ofNat nha) 2) ++ xha) sp4 ahb nhb chb xhb w1 (hw1.ent _ (List.mem_of_getElem? (i := 1) rfl)) (hw1.ent _ (List.mem_of_getElem? (i := 2) rfl)) (hw1.ne (i := 1) (j := 2) rfl rfl (by decide)) (show (((((numK 8 rq 8) ++ numK 1 (3:UInt64) 1) ++ numK 1 (0:UInt64) 1) ++ numK 2 (UInt64.ofNat nha) 2) ++ xha).length = (32*nha + 12) from (by rw [List.length_append, List.length_append, A4, (show (((numK 8 rq 8) ++ numK 1 (3:UInt64) 1) ++ numK 1 (0:UInt64) 1).length = 10 from (by rw [List.length_append, (show ((numK 8 rq 8) ++ numK 1 (3:UInt64) 1).length = 9 from (by rw [List.length_append, (show (numK 8 rq 8).length = 8 from (A4 _ _ _)), A4] <;> omega)), A4] <;> omega)), hlha] <;> omega)) hc10 hc11 hc12 (by omega) hlhb (by omega) (by omega) (by omega) (hrhb.at (M' := [nb2, nb6]) hw1 (hw1.apart [1, 2] _ rfl)) (by omega) (by omega))) rfl ?_
 rintro v1 L1 ⟨_, ⟨rfl, nb7, sp5, cp5, rfl, hc13, hc14, hc15⟩, rfl⟩
 show JL _ _ _ _ ((98, .tuple #[]) :: _) [_, ⟨nb2, [.nilIface, Slc nb7 0 (32*nha + 32*nhb + 14) cp5], 149, (0, 0)⟩, ⟨nb7, cu8 (((((((numK 8 rq 8) ++ numK 1 (3:UInt64) 1) ++ numK 1 (0:UInt64) 1) ++ numK 2 (UInt64.ofNat nha) 2) ++ xha) ++ numK 2 (UInt64.ofNat nhb) 2) ++ xhb) ++ sp5, 5, (0, 0)⟩]
 refine AN (AF (AK (AD (AA _ (AL rfl) rfl ?_))))
 refine A9 (CG 83 [Ptr nb2 0] _ (A6 _ Tryd.call83 rfl) (fun w1 hw1 => doneO_c nb2 0 nb7 (32*nha + 32*nhb + 14) cp5 (((((((numK 8 rq 8) ++ numK 1 (3:UInt64) 1) ++ numK 1 (0:UInt64) 1) ++ numK 2 (UInt64.ofNat nha) 2) ++ xha) ++ numK 2 (UInt64.ofNat nhb) 2) ++ xhb) w1 (RdA.of hw1 (AS 1 rfl (AV _)) (by simp)) rfl (show (((((((numK 8 rq 8) ++ numK 1 (3:UInt64) 1) ++ numK 1 (0:UInt64) 1) ++ numK 2 (UInt64.ofNat nha) 2) ++ xha) ++ numK 2 (UInt64.ofNat nhb) 2) ++ xhb).length = (32*nha + 32*nhb + 14) from (by rw [List.length_append, List.length_append, A4, (show (((((numK 8 rq 8) ++ numK 1 (3:UInt64) 1) ++ numK 1 (0:UInt64) 1) ++ numK 2 (UInt64.ofNat nha) 2) ++ xha).length = (32*nha + 12) from (by rw [List.length_append, List.length_append, A4, (show (((numK 8 rq 8) ++ numK 1 (3:UInt64) 1) ++ numK 1 (0:UInt64) 1).length = 10 from (by rw [List.length_append, (show ((numK 8 rq 8) ++ numK 1 (3:UInt64) 1).length = 9 from (by rw [List.length_append, (show (numK 8 rq 8).length = 8 from (A4 _ _ _)), A4] <;> omega)), A4] <;> omega)), hlha] <;> omega)), hlhb] <;> omega)) (by omega) (RdB.of hw1 (AS 2 rfl (AG (AV _))) (by simp)))) rfl ?_
 rintro v1 L1 ⟨_, ⟨nb8, sp6, cp6, rfl, rfl, hc16, hc17, hc18⟩, rfl⟩
 show JL _ _ _ _ ((100, .tuple #[Slc nb8 0 (32*nha + 32*nhb + 14) cp6, .nilIface]) :: _) [_, _, _, ⟨nb8, cu8 (((((((numK 8 rq 8) ++ numK 1 (3:UInt64) 1) ++ numK 1 (0:UInt64) 1) ++ numK 2 (UInt64.ofNat nha) 2) ++ xha) ++ numK 2 (UInt64.ofNat nhb) 2) ++ xhb) ++ sp6, 5, (0, 0)⟩]
 refine AA _ (B0 rfl rfl) rfl ?_
 refine AA _ (B0 rfl rfl) rfl ?_
 refine AA _ (AH rfl) rfl ?_
 refine AA _ (AH rfl) rfl ?_
 refine AN (AF (BK (BP [false, false, false, true] ?_)))
 show JQ _ _ _ _ [_]
 refine BJ (.tuple #[Slc nb8 0 (32*nha + 32*nhb + 14) cp6, .nilIface]) (res2 Tryd.results34 (BH rfl) (BH rfl)) fun w1 hw1 => ?_
 skip
 exact ⟨_, _, rfl, ⟨nb8, sp6, cp6, rfl, rfl, hc16, hc17, hc18⟩, hw1.sub (by simp) (by simp)⟩
set_option maxHeartbeats 2000000 in
theorem putRep4t_c (rq : UInt64) (aj : Option Addr) (nj cj : Nat) (lj : List ItemR) (pv ep : UInt64) (k : Nat) (ai : Option Addr) (ni ci : Nat) (l : List UInt64) (sa : Option Addr) (ns sc : Nat) (ls : List SealR) (bl : UInt64) (tg : List UInt8) (aha : Option Addr) (nha cha : Nat) (xha : List UInt8) (ahb : Option Addr) (nhb chb : Nat) (xhb : List UInt8) (tot : Nat)  (w : World) (hlj : lj.length = nj) (hnj : nj ≤ 2000000) (hdj : nj ≤ cj) (hcj : cj ≤ maxLen) (hj : RdV w aj (lj.flatMap itemC)) (hl : l.length = ni) (hnm : ni ≤ 2000000) (hnc : ni ≤ ci) (hcm : ci ≤ maxLen) (hv : RdV w ai (cu64 l)) (hls : ls.length = ns) (hnn : ns ≤ 2000000) (hnd : ns ≤ sc) (hcn : sc ≤ maxLen) (hs : RdV w sa (ls.flatMap sealC)) (htg : tg.length = 16) (hlha : xha.length = nha * 32) (hnha : nha ≤ 9000) (hdha : nha ≤ cha) (hcha : cha ≤ maxLen) (hrha : RdB w [] aha xha) (hlhb : xhb.length = nhb * 32) (hnhb : nhb ≤ 9000) (hdhb : nhb ≤ chb) (hchb : chb ≤ maxLen) (hrhb : RdB w [] ahb xhb) (hbi : ni ≤ 300) (hbs : ns ≤ 300) (hA : nha ≤ 300) (hB : nhb ≤ 300) (hR : repR (4:Int) (0:Int) true lj (blankB pv ep (k:Int) l ls bl tg) (decide (mayN pv ep (k:Int) l ls bl = 0)) nha nhb = true) (hmay : mayN pv ep (k:Int) l ls bl = 0) (hk : k = 1 ∨ k = 2 ∨ k = 3) (hsm : ns ≤ 300) (htot : tktN k ni ns = tot) (htb : tot ≤ 30000)  : Calls Tryd.prog 34 #[.agg ([U64 rq, I64 4, I64 0, SL aj nj cj, .bool true, U64 pv, U64 ep, I64 k, SL ai ni ci, SL sa ns sc, U64 bl] ++ cu8 tg ++ [SL aha nha cha, SL ahb nhb chb]).toArray] w (Post w [] (fun v L => ∃ g sp cap, v = .tuple #[Slc g 0 ((32*nha + 32*nhb + tot + 31)) cap, .nilIface] ∧ L = [⟨g, cu8 ((((((((numK 8 rq 8 ++ numK 1 (4:UInt64) 1) ++ numK 1 (0:UInt64) 1) ++ numK 1 (bitU true) 1) ++ ((tktT pv ep k l ls bl) ++ tg)) ++ numK 2 (UInt64.ofNat nha) 2) ++ xha) ++ numK 2 (UInt64.ofNat nhb) 2) ++ xhb) ++ sp, 5, (0, 0)⟩] ∧ sp.length = cap - (32*nha + 32*nhb + tot + 31) ∧ (32*nha + 32*nhb + tot + 31) ≤ cap ∧ cap ≤ maxLen)) := by
 have hmx : maxLen = 9223372036854775807 := rfl
 have hf := repR_f hlj hR
 have hn0 := c2_len0 hlj (repR_2 hR (by decide +kernel))
 refine enter (P := Tryd.prog) (f := 34) (fn := Tryd.f34) w [] 103 [] [.agg ([U64 rq, I64 4, I64 0, SL aj nj cj, .bool true, U64 pv, U64 ep, I64 k, SL ai ni ci, SL sa ns sc, U64 bl] ++ cu8 tg ++ [SL aha nha cha, SL ahb nhb chb]).toArray] Tryd.func34 rfl rfl (by simp) (CC (by simp) (by simp) (by simp)) ?_
 show JC _ _ _ [(0, .agg ([U64 rq, I64 4, I64 0, SL aj nj cj, .bool true, U64 pv, U64 ep, I64 k, SL ai ni ci, SL sa ns sc, U64 bl] ++ cu8 tg ++ [SL aha nha cha, SL ahb nhb chb]).toArray)] _
 refine AK (AD (A9 (CL (.agg ([U64 rq, I64 4, I64 0, SL aj nj cj, .bool true, U64 pv, U64 ep, I64 k, SL ai ni ci, SL sa ns sc, U64 bl] ++ cu8 tg ++ [SL aha nha cha, SL ahb nhb chb]).toArray) ([U64 rq, I64 4, I64 0, SL aj nj cj, .bool true, U64 pv, U64 ep, I64 k, SL ai ni ci, SL sa ns sc, U64 bl] ++ cu8 tg ++ [SL aha nha cha, SL ahb nhb chb]) rfl (by first | rfl | simp)) rfl ?_))
 rintro v1 L1 ⟨nb1, hnb1, rfl, rfl⟩
 show JL _ _ _ _ ((1, Ptr nb1 0) :: _) [⟨nb1, [U64 rq, I64 4, I64 0, SL aj nj cj, .bool true, U64 pv, U64 ep, I64 k, SL ai ni ci, SL sa ns sc, U64 bl] ++ cu8 tg ++ [SL aha nha cha, SL ahb nhb chb], 67, (0, 0)⟩]
 refine AA _ (AH rfl) rfl ?_
 refine AA _ (AH rfl) rfl ?_
 refine AN (AF (AK (AK (AD (AA (.agg ([U64 rq, I64 4, I64 0, SL aj nj cj, .bool true, U64 pv, U64 ep, I64 k, SL ai ni ci, SL sa ns sc, U64 bl] ++ cu8 tg ++ [SL aha nha cha, SL ahb nhb chb]).toArray) (AI rfl (BV CV CH (by simp [htg]) (AS 0 rfl (AV _)))) rfl ?_)))))
 refine B1 (BG 35 [.agg ([U64 rq, I64 4, I64 0, SL aj nj cj, .bool true, U64 pv, U64 ep, I64 k, SL ai ni ci, SL sa ns sc, U64 bl] ++ cu8 tg ++ [SL aha nha cha, SL ahb nhb chb]).toArray] (.bool (repR (4:Int) (0:Int) true lj (blankB pv ep ((k:Int)) l ls bl tg) (decide (mayN pv ep ((k:Int)) l ls bl = 0)) nha nhb)) (A6 _ Tryd.call35 rfl) (fun w1 hw1 => FX rq (4:Int) (0:Int) aj nj cj lj true pv ep ((k:Int)) ai ni ci l sa ns sc ls bl tg aha nha cha xha ahb nhb chb xhb w1 hlj (by omega) (by omega) (by omega) (CA hw1 rfl hj) hl (by omega) (by omega) (by omega) (CA hw1 rfl hv) hls (by omega) (by omega) (by omega) (CA hw1 rfl hs) htg hlha (by omega) (by omega) (by omega) (hrha.at (M' := []) hw1 (by simp)) hlhb (by omega) (by omega) (by omega) (hrhb.at (M' := []) hw1 (by simp)) (by omega) (by omega))) rfl ?_
 show JL _ _ _ _ ((14, .bool (repR (4:Int) (0:Int) true lj (blankB pv ep ((k:Int)) l ls bl tg) (decide (mayN pv ep ((k:Int)) l ls bl = 0)) nha nhb)) :: _) [_]
 refine AA (.bool (!(repR (4:Int) (0:Int) true lj (blankB pv ep ((k:Int)) l ls bl tg) (decide (mayN pv ep ((k:Int)) l ls bl = 0)) nha nhb))) (EP rfl) rfl ?_
 refine AN (AF (BN _ rfl (bnotT hR) ?_))
 refine BE (AF (AK (AD (AA (.agg ([U64 rq, I64 4, I64 0, SL aj nj cj, .bool true, U64 pv, U64 ep, I64 k, SL ai ni ci, SL sa ns sc, U64 bl] ++ cu8 tg ++ [SL aha nha cha, SL ahb nhb chb]).toArray) (AI rfl (BV CV CH (by simp [htg]) (AS 0 rfl (AV _)))) rfl ?_))))
 refine B1 (BG 95 [.agg ([U64 rq, I64 4, I64 0, SL aj nj cj, .bool true, U64 pv, U64 ep, I64 k, SL ai ni ci, SL sa ns sc, U64 bl] ++ cu8 tg ++ [SL aha nha cha, SL ahb nhb chb]).toArray] (.tuple #[.bool (itB (0:Int) (4:Int)), .bool (chB (0:Int) (4:Int) true), .bool (aB (0:Int) (4:Int) true), .bool (bB (0:Int) (4:Int) true)]) (A6 _ Tryd.call95 rfl) (fun w1 hw1 => parts_c rq (4:Int) (0:Int) aj nj cj lj true pv ep ((k:Int)) ai ni ci l sa ns sc ls bl tg aha nha cha xha ahb nhb chb xhb w1 htg)) rfl ?_
 show JL _ _ _ _ ((19, .tuple #[.bool (itB (0:Int) (4:Int)), .bool (chB (0:Int) (4:Int) true), .bool (aB (0:Int) (4:Int) true), .bool (bB (0:Int) (4:Int) true)]) :: _) [_]
 refine AA _ (AL rfl) rfl ?_
 refine AA _ (B0 rfl rfl) rfl ?_
 refine AA _ (B0 rfl rfl) rfl ?_
 refine AA _ (B0 rfl rfl) rfl ?_
 refine AA _ (B0 rfl rfl) rfl ?_
 refine AA _ (AH rfl) rfl ?_
 refine AA _ (AH rfl) rfl ?_
 refine AA _ (AH rfl) rfl ?_
 refine AA _ (AH rfl) rfl ?_
 refine AN (AF (AK (AD (AA (.agg #[.nilIface, SL none 0 0]) (EB [] _ rfl (fun _ => by kernel_rfl)) rfl ?_))))
 refine A9 (CL (.agg #[.nilIface, SL none 0 0]) ([.nilIface, SL none 0 0]) rfl (by first | rfl | simp)) rfl ?_
 rintro v1 L1 ⟨nb2, hnb2, rfl, rfl⟩
 show JL _ _ _ _ ((25, Ptr nb2 0) :: _) [_, ⟨nb2, [.nilIface, SL none 0 0], 149, (0, 0)⟩]
 refine AA _ (AH rfl) rfl ?_
 refine AN (AF (AK (DH 103 4 [(0, Ptr nb2 0), (1, Ptr nb1 0), (2, U64 rq), (4, Ptr nb1 1), (5, I64 4), (6, U64 4), (8, Ptr nb1 2), (9, I64 0), (10, U64 0)] B8 rfl (by decide +kernel) ?_)))
 refine CZ ⟨[], [0, 1, 2, 4, 5, 6, 8, 9, 10], [], [0, 1, 2, 4, 5, 6, 8, 9, 10], [3]⟩ 3 _ rfl rfl (by decide +kernel) rfl ⟨CD rfl rfl rfl, ⟨_, rfl, AJ rfl (AB 0 22 1 AM rfl AX rfl rfl)⟩, ⟨_, rfl, AJ rfl (AI rfl (AQ AY (AS 0 rfl (AG (AG (Seg.head))))))⟩, ⟨_, rfl, AJ rfl (AB 1 3 1 AM rfl AR rfl rfl)⟩, ⟨_, rfl, AJ rfl (AI rfl (AQ AT (AS 0 rfl (AG (AG (AE (Seg.head)))))))⟩, ⟨_, rfl, AJ rfl (CX _ _ rfl fun _ => DA (by rw [AZ]; rfl) A3 rfl)⟩, ⟨_, rfl, AJ rfl (AB 2 3 1 AM rfl AR rfl rfl)⟩, ⟨_, rfl, AJ rfl (AI rfl (AQ AT (AS 0 rfl (AG (AG (AE (AE (Seg.head))))))))⟩, ⟨_, rfl, AJ rfl (CX _ _ rfl fun _ => DA (by rw [AZ]; rfl) A3 rfl)⟩, trivial⟩ rfl (BI rfl (CB 81 _ [false, true] [nb2] _ (A6 [Ptr nb2 0, U64 rq, I64 8] C4 rfl) rfl (fun w1 hw1 => numN_c nb2 8 .nilIface rq 8 w1 (hw1.ent _ (List.mem_of_getElem? (i := 1) rfl)) (by unfold Szd; omega) (fun h => absurd h (by omega)) (by omega)))) ?_
 rintro v1 L1 ⟨_, ⟨rfl, nb3, sp1, cp1, rfl, hc1, hc2, hc3⟩, rfl⟩
 refine ⟨[], ?_⟩
 show DP _ _ _ _ _ _ _ _ [_, ⟨nb2, [.nilIface, Slc nb3 0 8 cp1], 149, (0, 0)⟩, ⟨nb3, cu8 (numK 8 rq 8) ++ sp1, 5, (0, 0)⟩]
 refine CZ ⟨[3], [0, 1, 2, 4, 5, 6, 8, 9, 10], [0, 1, 2], [4, 5, 6, 8, 9, 10], [7]⟩ 7 _ rfl rfl (by decide +kernel) rfl ⟨⟨_, rfl, AJ rfl (AB 1 3 1 AM rfl AR rfl rfl)⟩, ⟨_, rfl, AJ rfl (AI rfl (AQ AT (AS 0 rfl (AG (AG (AE (Seg.head)))))))⟩, ⟨_, rfl, AJ rfl (CX _ _ rfl fun _ => DA (by rw [AZ]; rfl) A3 rfl)⟩, ⟨_, rfl, AJ rfl (AB 2 3 1 AM rfl AR rfl rfl)⟩, ⟨_, rfl, AJ rfl (AI rfl (AQ AT (AS 0 rfl (AG (AG (AE (AE (Seg.head))))))))⟩, ⟨_, rfl, AJ rfl (CX _ _ rfl fun _ => DA (by rw [AZ]; rfl) A3 rfl)⟩, trivial⟩ rfl (BI rfl (CB 81 _ [false, true, true] [nb2, nb3] _ (A6 [Ptr nb2 0, U64 4, I64 1] C4 rfl) rfl (fun w1 hw1 => FR nb2 nb3 8 cp1 9 .nilIface (numK 8 rq 8) sp1 (4:UInt64) 1 w1 (hw1.ent _ (List.mem_of_getElem? (i := 1) rfl)) (hw1.ent _ (List.mem_of_getElem? (i := 2) rfl)) (hw1.ne (i := 1) (j := 2) rfl rfl (by decide)) (show (numK 8 rq 8).length = 8 from (A4 _ _ _)) hc1 hc2 hc3 (by omega) (by unfold Szd; omega) (fun _ => by decide) (by omega)))) ?_
 rintro v1 L1 ⟨_, ⟨rfl, nb4, sp2, cp2, rfl, hc4, hc5, hc6⟩, rfl⟩
 refine ⟨[], ?_⟩
 show DP _ _ _ _ _ _ _ _ [_, ⟨nb2, [.nilIface, Slc nb4 0 9 cp2], 149, (0, 0)⟩, ⟨nb4, cu8 ((numK 8 rq 8) ++ numK 1 (4:UInt64) 1) ++ sp2, 5, (0, 0)⟩]
 refine CZ ⟨[3, 7], [0, 1, 2, 4, 5, 6, 8, 9, 10], [0, 1, 2, 4, 5, 6], [8, 9, 10], [11]⟩ 11 _ rfl rfl (by decide +kernel) rfl ⟨⟨_, rfl, AJ rfl (AB 2 3 1 AM rfl AR rfl rfl)⟩, ⟨_, rfl, AJ rfl (AI rfl (AQ AT (AS 0 rfl (AG (AG (AE (AE (Seg.head))))))))⟩, ⟨_, rfl, AJ rfl (CX _ _ rfl fun _ => DA (by rw [AZ]; rfl) A3 rfl)⟩, trivial⟩ rfl (BI rfl (CB 81 _ [false, true, true] [nb2, nb4] _ (A6 [Ptr nb2 0, U64 0, I64 1] C4 rfl) rfl (fun w1 hw1 => FR nb2 nb4 9 cp2 10 .nilIface ((numK 8 rq 8) ++ numK 1 (4:UInt64) 1) sp2 (0:UInt64) 1 w1 (hw1.ent _ (List.mem_of_getElem? (i := 1) rfl)) (hw1.ent _ (List.mem_of_getElem? (i := 2) rfl)) (hw1.ne (i := 1) (j := 2) rfl rfl (by decide)) (show ((numK 8 rq 8) ++ numK 1 (4:UInt64) 1).length = 9 from (by rw [List.length_append, (show (numK 8 rq 8).length = 8 from (A4 _ _ _)), A4] <;> omega)) hc4 hc5 hc6 (by omega) (by unfold Szd; omega) (fun _ => by decide) (by omega)))) ?_
 rintro v1 L1 ⟨_, ⟨rfl, nb5, sp3, cp3, rfl, hc7, hc8, hc9⟩, rfl⟩
 refine ⟨[], ?_⟩
 show DP _ _ _ _ _ _ _ _ [_, ⟨nb2, [.nilIface, Slc nb5 0 10 cp3], 149, (0, 0)⟩, ⟨nb5, cu8 (((numK 8 rq 8) ++ numK 1 (4:UInt64) 1) ++ numK 1 (0:UInt64) 1) ++ sp3, 5, (0, 0)⟩]
 refine DN ⟨[3, 7, 11], [0, 1, 2, 4, 5, 6, 8, 9, 10], [0, 1, 2, 4, 5, 6, 8, 9, 10], [], []⟩ rfl rfl (by decide +kernel) rfl trivial ?_
 refine C7 (F' := [(1, Ptr nb1 0), (2, SL none 0 0), (3, .nilIface), (4, .bool (itB (0:Int) (4:Int))), (5, .bool (chB (0:Int) (4:Int) true)), (6, .bool (aB (0:Int) (4:Int) true)), (7, .bool (bB (0:Int) (4:Int) true)), (8, Ptr nb2 0)]) (by kernel_rfl) ?_
 refine AF (AK (AK (AD (AA _ (AL rfl) rfl ?_))))
 refine AN (AF (BN _ rfl (by decide +kernel) ?_))
 refine BE (AF (AK (AK (AD (AA (Ptr nb1 3) (AB 3 64 1 AM rfl D5 rfl rfl) rfl ?_)))))
 refine AA (SL aj nj cj) (AI rfl (AQ EE (AS 0 rfl (AG (AG (AE (AE (AE (Seg.head))))))))) rfl ?_
 refine AA (I64 nj) (CY CF rfl) rfl ?_
 refine AA _ (AL rfl) rfl ?_
 refine AN (AF (B2 (DV (ι := Unit) (fun _ => [(1, Ptr nb1 0), (2, SL none 0 0), (3, .nilIface), (5, .bool (chB (0:Int) (4:Int) true)), (6, .bool (aB (0:Int) (4:Int) true)), (7, .bool (bB (0:Int) (4:Int) true)), (8, Ptr nb2 0), (47, SL aj nj cj), (48, I64 nj), (49, I64 0)]) (fun _ => [⟨nb1, [U64 rq, I64 4, I64 0, SL aj nj cj, .bool true, U64 pv, U64 ep, I64 k, SL ai ni ci, SL sa ns sc, U64 bl] ++ cu8 tg ++ [SL aha nha cha, SL ahb nhb chb], 67, (0, 0)⟩, ⟨nb2, [.nilIface, Slc nb5 0 10 cp3], 149, (0, 0)⟩, ⟨nb5, cu8 (((numK 8 rq 8) ++ numK 1 (4:UInt64) 1) ++ numK 1 (0:UInt64) 1) ++ sp3, 5, (0, 0)⟩]) (fun _ => True) (fun _ => 1) () trivial (Sub.all rfl) rfl ?_)))
 rintro _ _
 show JC _ _ _ [(1, Ptr nb1 0), (2, SL none 0 0), (3, .nilIface), (5, .bool (chB (0:Int) (4:Int) true)), (6, .bool (aB (0:Int) (4:Int) true)), (7, .bool (bB (0:Int) (4:Int) true)), (8, Ptr nb2 0), (47, SL aj nj cj), (48, I64 nj), (49, I64 0)] [⟨nb1, [U64 rq, I64 4, I64 0, SL aj nj cj, .bool true, U64 pv, U64 ep, I64 k, SL ai ni ci, SL sa ns sc, U64 bl] ++ cu8 tg ++ [SL aha nha cha, SL ahb nhb chb], 67, (0, 0)⟩, ⟨nb2, [.nilIface, Slc nb5 0 10 cp3], 149, (0, 0)⟩, ⟨nb5, cu8 (((numK 8 rq 8) ++ numK 1 (4:UInt64) 1) ++ numK 1 (0:UInt64) 1) ++ sp3, 5, (0, 0)⟩]
 refine AK (AD (AA (.bool (decide ((0:Int) < ((nj:Int))))) (AU rfl rfl fun _ => CR _ _) rfl ?_))
 refine AN (AF (AK (BN _ rfl (decide_eq_false (by omega)) ?_)))
 refine DU (A5 (A5 (CQ (AF (AK (AK (AD (AA (Ptr nb1 2) (AB 2 3 1 AM rfl AR rfl rfl) rfl ?_))))))))
 refine AA (I64 0) (AI rfl (AQ AT (AS 0 rfl (AG (AG (AE (AE (Seg.head)))))))) rfl ?_
 refine AA (.bool (decide ((0:Int) = (0:Int)))) (AU rfl rfl fun _ => BO _ _) rfl ?_
 refine AA _ (AL rfl) rfl ?_
 refine AP 3 68 true _ (Ptr nb1 1) rfl rfl (by decide) (AB 1 3 1 AM rfl AR rfl rfl) rfl ?_
 refine AP 3 68 true _ (I64 4) rfl rfl (by decide) (AI rfl (AQ AT (AS 0 rfl (AG (AG (AE (Seg.head))))))) rfl ?_
 refine AP 3 68 true _ (.bool (decide ((4:Int) = (4:Int)))) rfl rfl (by decide) (AU rfl rfl fun _ => BO _ _) rfl ?_
 refine AA _ (A2 _ rfl (by decide) rfl) rfl ?_
 refine AN (AF (CO _ rfl (by decide) ?_))
 refine AD (AA _ (AL rfl) rfl ?_)
 refine AA _ (AL rfl) rfl ?_
 refine A9 (CB 96 _ [false, true, true] [nb2, nb5] _ (A6 [Ptr nb2 0, .bool (chB (0:Int) (4:Int) true)] Tryd.call96 rfl) rfl (fun w1 hw1 => flagO_c nb2 nb5 10 cp3 11 .nilIface (((numK 8 rq 8) ++ numK 1 (4:UInt64) 1) ++ numK 1 (0:UInt64) 1) sp3 (chB (0:Int) (4:Int) true) w1 (hw1.ent _ (List.mem_of_getElem? (i := 1) rfl)) (hw1.ent _ (List.mem_of_getElem? (i := 2) rfl)) (hw1.ne (i := 1) (j := 2) rfl rfl (by decide)) (show (((numK 8 rq 8) ++ numK 1 (4:UInt64) 1) ++ numK 1 (0:UInt64) 1).length = 10 from (by rw [List.length_append, (show ((numK 8 rq 8) ++ numK 1 (4:UInt64) 1).length = 9 from (by rw [List.length_append, (show (numK 8 rq 8).length = 8 from (A4 _ _ _)), A4] <;> omega)), A4] <;> omega)) hc7 hc8 hc9 (by omega) (by omega))) rfl ?_
 rintro v1 L1 ⟨_, ⟨rfl, nb6, sp4, cp4, rfl, hc10, hc11, hc12⟩, rfl⟩
 show JL _ _ _ _ ((75, Ptr nb2 0) :: _) [_, ⟨nb2, [.nilIface, Slc nb6 0 11 cp4], 149, (0, 0)⟩, ⟨nb6, cu8 ((((numK 8 rq 8) ++ numK 1 (4:UInt64) 1) ++ numK 1 (0:UInt64) 1) ++ numK 1 (bitU (chB (0:Int) (4:Int) true)) 1) ++ sp4, 5, (0, 0)⟩]
 refine AN (AF (AK (AK (AD (AA _ (AL rfl) rfl ?_)))))
 refine AN (AF (CO _ rfl (by decide +kernel) ?_))
 refine AK (AD (AA (Ptr nb1 5) (AB 5 29 22 AM rfl DJ rfl rfl) rfl ?_))
 refine AA (.agg ([U64 pv, U64 ep, I64 k, SL ai ni ci, SL sa ns sc, U64 bl] ++ cu8 tg).toArray) (AI rfl (BV ER DJ (by simp [htg]) (AS 0 rfl (C6 (p := [U64 rq, I64 4, I64 0, SL aj nj cj, .bool true]) (q := [SL aha nha cha, SL ahb nhb chb]) (vs := [U64 pv, U64 ep, I64 k, SL ai ni ci, SL sa ns sc, U64 bl] ++ cu8 tg) (by first | rfl | (simp only [List.append_assoc, List.nil_append, List.append_nil, List.cons_append]; done)) rfl)))) rfl ?_
 refine A9 (CG 47 [.agg ([U64 pv, U64 ep, I64 k, SL ai ni ci, SL sa ns sc, U64 bl] ++ cu8 tg).toArray] _ (A6 _ Tryd.call47 rfl) (fun w1 hw1 => put13_c pv ep k ai ni ci l sa ns sc ls bl tg tot w1 hl (by omega) (by omega) (by omega) (CA hw1 rfl hv) hls (by omega) (by omega) (by omega) (CA hw1 rfl hs) htg hmay hk hsm htot (by omega))) rfl ?_
 rintro v1 L1 ⟨_, ⟨nb7, sp5, cp5, rfl, rfl, hc13, hc14, hc15⟩, rfl⟩
 show JL _ _ _ _ ((80, .tuple #[Slc nb7 0 (tot + 16) cp5, .nilIface]) :: _) [_, _, _, ⟨nb7, cu8 ((tktT pv ep k l ls bl) ++ tg) ++ sp5, 5, (0, 0)⟩]
 refine AA _ (AL rfl) rfl ?_
 refine AA _ (B0 rfl rfl) rfl ?_
 refine AA _ (B0 rfl rfl) rfl ?_
 refine AA _ (AH rfl) rfl ?_
 refine AA _ (AH rfl) rfl ?_
 refine AN (AF (AK (AK (AD (AA _ (AL rfl) rfl ?_)))))
 refine AA (.bool false) (E3 _ _ _ rfl rfl (fun _ => eqGuard_nn ..) fun _ => neq_if_nil_nil DZ) rfl ?_
 refine AN (AF (BN _ rfl rfl ?_))
 refine BE (AF (AD (AA _ (AL rfl) rfl ?_)))
 refine AA _ (AL rfl) rfl ?_
 refine A9 (CB 82 _ [false, true, true, false] [nb2, nb6] _ (A6 [Ptr nb2 0, Slc nb7 0 (tot + 16) cp5] Tryd.call82 rfl) rfl (fun w1 hw1 => rawO_c nb2 nb6 11 cp4 (tot + 27) .nilIface ((((numK 8 rq 8) ++ numK 1 (4:UInt64) 1) ++ numK 1 (0:UInt64) 1) ++ numK 1 (bitU (chB (0:Int) (4:Int) true)) 1) sp4 (some ⟨nb7, 0, none⟩) (tot + 16) cp5 ((tktT pv ep k l ls bl) ++ tg) w1 (hw1.ent _ (List.mem_of_getElem? (i := 1) rfl)) (hw1.ent _ (List.mem_of_getElem? (i := 2) rfl)) (hw1.ne (i := 1) (j := 2) rfl rfl (by decide)) (show ((((numK 8 rq 8) ++ numK 1 (4:UInt64) 1) ++ numK 1 (0:UInt64) 1) ++ numK 1 (bitU (chB (0:Int) (4:Int) true)) 1).length = 11 from (by rw [List.length_append, (show (((numK 8 rq 8) ++ numK 1 (4:UInt64) 1) ++ numK 1 (0:UInt64) 1).length = 10 from (by rw [List.length_append, (show ((numK 8 rq 8) ++ numK 1 (4:UInt64) 1).length = 9 from (by rw [List.length_append, (show (numK 8 rq 8).length = 8 from (A4 _ _ _)), A4] <;> omega)), A4] <;> omega)), A4] <;> omega)) hc10 hc11 hc12 (by omega) (show ((tktT pv ep k l ls bl) ++ tg).length = (tot + 16) from (by rw [List.length_append, ((FG hl hls).trans htot), htg])) (by omega) (RdB.of hw1 (AS 3 rfl (AG (AV _))) (by intro _; simp only [List.mem_cons, List.not_mem_nil, or_false, not_or]; exact ⟨hw1.ne (i := 3) (j := 1) rfl rfl (by decide), hw1.ne (i := 3) (j := 2) rfl rfl (by decide)⟩)) (by omega))) rfl ?_
 rintro v1 L1 ⟨_, ⟨rfl, nb8, sp6, cp6, rfl, hc16, hc17, hc18⟩, rfl⟩
 show JL _ _ _ _ ((88, Ptr nb2 0) :: _) [_, _, ⟨nb2, [.nilIface, Slc nb8 0 (tot + 27) cp6], 149, (0, 0)⟩, ⟨nb8, cu8 (((((numK 8 rq 8) ++ numK 1 (4:UInt64) 1) ++ numK 1 (0:UInt64) 1) ++ numK 1 (bitU (chB (0:Int) (4:Int) true)) 1) ++ ((tktT pv ep k l ls bl) ++ tg)) ++ sp6, 5, (0, 0)⟩]
 refine AN (AF (AK (AK (AD (AA _ (AL rfl) rfl ?_)))))
 refine AN (AF (CO _ rfl (by decide +kernel) ?_))
 refine AD (AA _ (AL rfl) rfl ?_)
 refine AA (Ptr nb1 27) (AB 27 65 1 AM rfl BR rfl rfl) rfl ?_
 refine AA (SL aha nha cha) (AI rfl (AQ BU (AS 0 rfl (Seg.right 27 0 (by simp [htg]) rfl (Seg.head))))) rfl ?_
 refine A9 (CB 98 _ [false, false, true, true] [nb2, nb8] _ (A6 [Ptr nb2 0, SL aha nha cha] Tryd.call98 rfl) rfl (fun w1 hw1 => hashesO_c nb2 nb8 (tot + 27) cp6 (32*nha + tot + 29) .nilIface (((((numK 8 rq 8) ++ numK 1 (4:UInt64) 1) ++ numK 1 (0:UInt64) 1) ++ numK 1 (bitU (chB (0:Int) (4:Int) true)) 1) ++ ((tktT pv ep k l ls bl) ++ tg)) sp6 aha nha cha xha w1 (hw1.ent _ (List.mem_of_getElem? (i := 2) rfl)) (hw1.ent _ (List.mem_of_getElem? (i := 3) rfl)) (hw1.ne (i := 2) (j := 3) rfl rfl (by decide)) (show (((((numK 8 rq 8) ++ numK 1 (4:UInt64) 1) ++ numK 1 (0:UInt64) 1) ++ numK 1 (bitU (chB (0:Int) (4:Int) true)) 1) ++ ((tktT pv ep k l ls bl) ++ tg)).length = (tot + 27) from (by rw [List.length_append, (show ((((numK 8 rq 8) ++ numK 1 (4:UInt64) 1) ++ numK 1 (0:UInt64) 1) ++ numK 1 (bitU (chB (0:Int) (4:Int) true)) 1).length = 11 from (by rw [List.length_append, (show (((numK 8 rq 8) ++ numK 1 (4:UInt64) 1) ++ numK 1 (0:UInt64) 1).length = 10 from (by rw [List.length_append, (show ((numK 8 rq 8) ++ numK 1 (4:UInt64) 1).length = 9 from (by rw [List.length_append, (show (numK 8 rq 8).length = 8 from (A4 _ _ _)), A4] <;> omega)), A4] <;> omega)), A4] <;> omega)), (show ((tktT pv ep k l ls bl) ++ tg).length = (tot + 16) from (by rw [List.length_append, ((FG hl hls).trans htot), htg]))] <;> omega)) hc16 hc17 hc18 (by omega) hlha (by omega) (by omega) (by omega) (hrha.at (M' := [nb2, nb8]) hw1 (hw1.apart [2, 3] _ rfl)) (by omega) (by omega))) rfl ?_
 rintro v1 L1 ⟨_, ⟨rfl, nb9, sp7, cp7, rfl, hc19, hc20, hc21⟩, rfl⟩
 show JL _ _ _ _ ((93, .tuple #[]) :: _) [_, _, ⟨nb2, [.nilIface, Slc nb9 0 (32*nha + tot + 29) cp7], 149, (0, 0)⟩, ⟨nb9, cu8 (((((((numK 8 rq 8) ++ numK 1 (4:UInt64) 1) ++ numK 1 (0:UInt64) 1) ++ numK 1 (bitU (chB (0:Int) (4:Int) true)) 1) ++ ((tktT pv ep k l ls bl) ++ tg)) ++ numK 2 (UInt64.ofNat nha) 2) ++ xha) ++ sp7, 5, (0, 0)⟩]
 refine AN (AF (AK (AK (AD (AA _ (AL rfl) rfl ?_)))))
 refine AN (AF (CO _ rfl (by decide +kernel) ?_))
 refine AD (AA _ (AL rfl) rfl ?_)
 refine AA (Ptr nb1 28) (AB 28 65 1 AM rfl BR rfl rfl) rfl ?_
 refine AA (SL ahb nhb chb) (AI rfl (AQ BU (AS 0 rfl (Seg.right 27 1 (by simp [htg]) rfl (AE (Seg.head)))))) rfl ?_
 refine A9 (CB 98 _ [false, false, true, true] [nb2, nb9] _ (A6 [Ptr nb2 0, SL ahb nhb chb] Tryd.call98 rfl) rfl (fun w1 hw1 => hashesO_c nb2 nb9 (32*nha + tot + 29) cp7 (32*nha + 32*nhb + tot + 31) .nilIface (((((((numK 8 rq 8) ++ numK 1 (4:UInt64) 1) ++ numK 1 (0:UInt64) 1) ++ numK 1 (bitU (chB (0:Int) (4:Int) true)) 1) ++ ((tktT pv ep k l ls bl) ++ tg)) ++ numK 2 (UInt64.ofNat nha) 2) ++ xha) sp7 ahb nhb chb xhb w1 (hw1.ent _ (List.mem_of_getElem? (i := 2) rfl)) (hw1.ent _ (List.mem_of_getElem? (i := 3) rfl)) (hw1.ne (i := 2) (j := 3) rfl rfl (by decide)) (show (((((((numK 8 rq 8) ++ numK 1 (4:UInt64) 1) ++ numK 1 (0:UInt64) 1) ++ numK 1 (bitU (chB (0:Int) (4:Int) true)) 1) ++ ((tktT pv ep k l ls bl) ++ tg)) ++ numK 2 (UInt64.ofNat nha) 2) ++ xha).length = (32*nha + tot + 29) from (by rw [List.length_append, List.length_append, A4, (show (((((numK 8 rq 8) ++ numK 1 (4:UInt64) 1) ++ numK 1 (0:UInt64) 1) ++ numK 1 (bitU (chB (0:Int) (4:Int) true)) 1) ++ ((tktT pv ep k l ls bl) ++ tg)).length = (tot + 27) from (by rw [List.length_append, (show ((((numK 8 rq 8) ++ numK 1 (4:UInt64) 1) ++ numK 1 (0:UInt64) 1) ++ numK 1 (bitU (chB (0:Int) (4:Int) true)) 1).length = 11 from (by rw [List.length_append, (show (((numK 8 rq 8) ++ numK 1 (4:UInt64) 1) ++ numK 1 (0:UInt64) 1).length = 10 from (by rw [List.length_append, (show ((numK 8 rq 8) ++ numK 1 (4:UInt64) 1).length = 9 from (by rw [List.length_append, (show (numK 8 rq 8).length = 8 from (A4 _ _ _)), A4] <;> omega)), A4] <;> omega)), A4] <;> omega)), (show ((tktT pv ep k l ls bl) ++ tg).length = (tot + 16) from (by rw [List.length_append, ((FG hl hls).trans htot), htg]))] <;> omega)), hlha] <;> omega)) hc19 hc20 hc21 (by omega) hlhb (by omega) (by omega) (by omega) (hrhb.at (M' := [nb2, nb9]) hw1 (hw1.apart [2, 3] _ rfl)) (by omega) (by omega))) rfl ?_
 rintro v1 L1 ⟨_, ⟨rfl, nb10, sp8, cp8, rfl, hc22, hc23, hc24⟩, rfl⟩
 show JL _ _ _ _ ((98, .tuple #[]) :: _) [_, _, ⟨nb2, [.nilIface, Slc nb10 0 (32*nha + 32*nhb + tot + 31) cp8], 149, (0, 0)⟩, ⟨nb10, cu8 (((((((((numK 8 rq 8) ++ numK 1 (4:UInt64) 1) ++ numK 1 (0:UInt64) 1) ++ numK 1 (bitU (chB (0:Int) (4:Int) true)) 1) ++ ((tktT pv ep k l ls bl) ++ tg)) ++ numK 2 (UInt64.ofNat nha) 2) ++ xha) ++ numK 2 (UInt64.ofNat nhb) 2) ++ xhb) ++ sp8, 5, (0, 0)⟩]
 refine AN (AF (AK (AD (AA _ (AL rfl) rfl ?_))))
 refine A9 (CG 83 [Ptr nb2 0] _ (A6 _ Tryd.call83 rfl) (fun w1 hw1 => doneO_c nb2 0 nb10 (32*nha + 32*nhb + tot + 31) cp8 (((((((((numK 8 rq 8) ++ numK 1 (4:UInt64) 1) ++ numK 1 (0:UInt64) 1) ++ numK 1 (bitU (chB (0:Int) (4:Int) true)) 1) ++ ((tktT pv ep k l ls bl) ++ tg)) ++ numK 2 (UInt64.ofNat nha) 2) ++ xha) ++ numK 2 (UInt64.ofNat nhb) 2) ++ xhb) w1 (RdA.of hw1 (AS 2 rfl (AV _)) (by simp)) rfl (show (((((((((numK 8 rq 8) ++ numK 1 (4:UInt64) 1) ++ numK 1 (0:UInt64) 1) ++ numK 1 (bitU (chB (0:Int) (4:Int) true)) 1) ++ ((tktT pv ep k l ls bl) ++ tg)) ++ numK 2 (UInt64.ofNat nha) 2) ++ xha) ++ numK 2 (UInt64.ofNat nhb) 2) ++ xhb).length = (32*nha + 32*nhb + tot + 31) from (by rw [List.length_append, List.length_append, A4, (show (((((((numK 8 rq 8) ++ numK 1 (4:UInt64) 1) ++ numK 1 (0:UInt64) 1) ++ numK 1 (bitU (chB (0:Int) (4:Int) true)) 1) ++ ((tktT pv ep k l ls bl) ++ tg)) ++ numK 2 (UInt64.ofNat nha) 2) ++ xha).length = (32*nha + tot + 29) from (by rw [List.length_append, List.length_append, A4, (show (((((numK 8 rq 8) ++ numK 1 (4:UInt64) 1) ++ numK 1 (0:UInt64) 1) ++ numK 1 (bitU (chB (0:Int) (4:Int) true)) 1) ++ ((tktT pv ep k l ls bl) ++ tg)).length = (tot + 27) from (by rw [List.length_append, (show ((((numK 8 rq 8) ++ numK 1 (4:UInt64) 1) ++ numK 1 (0:UInt64) 1) ++ numK 1 (bitU (chB (0:Int) (4:Int) true)) 1).length = 11 from (by rw [List.length_append, (show (((numK 8 rq 8) ++ numK 1 (4:UInt64) 1) ++ numK 1 (0:UInt64) 1).length = 10 from (by rw [List.length_append, (show ((numK 8 rq 8) ++ numK 1 (4:UInt64) 1).length = 9 from (by rw [List.length_append, (show (numK 8 rq 8).length = 8 from (A4 _ _ _)), A4] <;> omega)), A4] <;> omega)), A4] <;> omega)), (show ((tktT pv ep k l ls bl) ++ tg).length = (tot + 16) from (by rw [List.length_append, ((FG hl hls).trans htot), htg]))] <;> omega)), hlha] <;> omega)), hlhb] <;> omega)) (by omega) (RdB.of hw1 (AS 3 rfl (AG (AV _))) (by simp)))) rfl ?_
 rintro v1 L1 ⟨_, ⟨nb11, sp9, cp9, rfl, rfl, hc25, hc26, hc27⟩, rfl⟩
 show JL _ _ _ _ ((100, .tuple #[Slc nb11 0 (32*nha + 32*nhb + tot + 31) cp9, .nilIface]) :: _) [_, _, _, _, ⟨nb11, cu8 (((((((((numK 8 rq 8) ++ numK 1 (4:UInt64) 1) ++ numK 1 (0:UInt64) 1) ++ numK 1 (bitU (chB (0:Int) (4:Int) true)) 1) ++ ((tktT pv ep k l ls bl) ++ tg)) ++ numK 2 (UInt64.ofNat nha) 2) ++ xha) ++ numK 2 (UInt64.ofNat nhb) 2) ++ xhb) ++ sp9, 5, (0, 0)⟩]
 refine AA _ (B0 rfl rfl) rfl ?_
 refine AA _ (B0 rfl rfl) rfl ?_
 refine AA _ (AH rfl) rfl ?_
 refine AA _ (AH rfl) rfl ?_
 refine AN (AF (BK (BP [false, false, false, false, true] ?_)))
 show JQ _ _ _ _ [_]
 refine BJ (.tuple #[Slc nb11 0 (32*nha + 32*nhb + tot + 31) cp9, .nilIface]) (res2 Tryd.results34 (BH rfl) (BH rfl)) fun w1 hw1 => ?_
 have hq : ((((((((numK 8 rq 8) ++ numK 1 (4:UInt64) 1) ++ numK 1 (0:UInt64) 1) ++ numK 1 (bitU (chB (0:Int) (4:Int) true)) 1) ++ ((tktT pv ep k l ls bl) ++ tg)) ++ numK 2 (UInt64.ofNat nha) 2) ++ xha) ++ numK 2 (UInt64.ofNat nhb) 2) ++ xhb = (((((((numK 8 rq 8 ++ numK 1 (4:UInt64) 1) ++ numK 1 (0:UInt64) 1) ++ numK 1 (bitU true) 1) ++ ((tktT pv ep k l ls bl) ++ tg)) ++ numK 2 (UInt64.ofNat nha) 2) ++ xha) ++ numK 2 (UInt64.ofNat nhb) 2) ++ xhb := by simp only [List.append_assoc, show chB 0 4 true = true from by decide +kernel]
 rw [hq] at hw1
 exact ⟨_, _, rfl, ⟨nb11, sp9, cp9, rfl, rfl, hc25, hc26, hc27⟩, hw1.sub (by simp) (by simp)⟩
set_option maxHeartbeats 2000000 in
theorem putRep4f_c (rq : UInt64) (aj : Option Addr) (nj cj : Nat) (lj : List ItemR) (pv ep : UInt64) (kd : Int) (ai : Option Addr) (ni ci : Nat) (l : List UInt64) (sa : Option Addr) (ns sc : Nat) (ls : List SealR) (bl : UInt64) (tg : List UInt8) (aha : Option Addr) (nha cha : Nat) (xha : List UInt8) (ahb : Option Addr) (nhb chb : Nat) (xhb : List UInt8)  (w : World) (hlj : lj.length = nj) (hnj : nj ≤ 2000000) (hdj : nj ≤ cj) (hcj : cj ≤ maxLen) (hj : RdV w aj (lj.flatMap itemC)) (hl : l.length = ni) (hnm : ni ≤ 2000000) (hnc : ni ≤ ci) (hcm : ci ≤ maxLen) (hv : RdV w ai (cu64 l)) (hls : ls.length = ns) (hnn : ns ≤ 2000000) (hnd : ns ≤ sc) (hcn : sc ≤ maxLen) (hs : RdV w sa (ls.flatMap sealC)) (htg : tg.length = 16) (hlha : xha.length = nha * 32) (hnha : nha ≤ 9000) (hdha : nha ≤ cha) (hcha : cha ≤ maxLen) (hrha : RdB w [] aha xha) (hlhb : xhb.length = nhb * 32) (hnhb : nhb ≤ 9000) (hdhb : nhb ≤ chb) (hchb : chb ≤ maxLen) (hrhb : RdB w [] ahb xhb) (hbi : ni ≤ 300) (hbs : ns ≤ 300) (hA : nha ≤ 300) (hB : nhb ≤ 300) (hR : repR (4:Int) (0:Int) false lj (blankB pv ep kd l ls bl tg) (decide (mayN pv ep kd l ls bl = 0)) nha nhb = true)  : Calls Tryd.prog 34 #[.agg ([U64 rq, I64 4, I64 0, SL aj nj cj, .bool false, U64 pv, U64 ep, I64 (kd), SL ai ni ci, SL sa ns sc, U64 bl] ++ cu8 tg ++ [SL aha nha cha, SL ahb nhb chb]).toArray] w (Post w [] (fun v L => ∃ g sp cap, v = .tuple #[Slc g 0 (11) cap, .nilIface] ∧ L = [⟨g, cu8 (((numK 8 rq 8 ++ numK 1 (4:UInt64) 1) ++ numK 1 (0:UInt64) 1) ++ numK 1 (bitU false) 1) ++ sp, 5, (0, 0)⟩] ∧ sp.length = cap - 11 ∧ 11 ≤ cap ∧ cap ≤ maxLen)) := by
 have hmx : maxLen = 9223372036854775807 := rfl
 have hf := repR_f hlj hR
 have hn0 := c2_len0 hlj (repR_2 hR (by decide +kernel))
 refine enter (P := Tryd.prog) (f := 34) (fn := Tryd.f34) w [] 103 [] [.agg ([U64 rq, I64 4, I64 0, SL aj nj cj, .bool false, U64 pv, U64 ep, I64 (kd), SL ai ni ci, SL sa ns sc, U64 bl] ++ cu8 tg ++ [SL aha nha cha, SL ahb nhb chb]).toArray] Tryd.func34 rfl rfl (by simp) (CC (by simp) (by simp) (by simp)) ?_
 show JC _ _ _ [(0, .agg ([U64 rq, I64 4, I64 0, SL aj nj cj, .bool false, U64 pv, U64 ep, I64 (kd), SL ai ni ci, SL sa ns sc, U64 bl] ++ cu8 tg ++ [SL aha nha cha, SL ahb nhb chb]).toArray)] _
 refine AK (AD (A9 (CL (.agg ([U64 rq, I64 4, I64 0, SL aj nj cj, .bool false, U64 pv, U64 ep, I64 (kd), SL ai ni ci, SL sa ns sc, U64 bl] ++ cu8 tg ++ [SL aha nha cha, SL ahb nhb chb]).toArray) ([U64 rq, I64 4, I64 0, SL aj nj cj, .bool false, U64 pv, U64 ep, I64 (kd), SL ai ni ci, SL sa ns sc, U64 bl] ++ cu8 tg ++ [SL aha nha cha, SL ahb nhb chb]) rfl (by first | rfl | simp)) rfl ?_))
 rintro v1 L1 ⟨nb1, hnb1, rfl, rfl⟩
 show JL _ _ _ _ ((1, Ptr nb1 0) :: _) [⟨nb1, [U64 rq, I64 4, I64 0, SL aj nj cj, .bool false, U64 pv, U64 ep, I64 (kd), SL ai ni ci, SL sa ns sc, U64 bl] ++ cu8 tg ++ [SL aha nha cha, SL ahb nhb chb], 67, (0, 0)⟩]
 refine AA _ (AH rfl) rfl ?_
 refine AA _ (AH rfl) rfl ?_
 refine AN (AF (AK (AK (AD (AA (.agg ([U64 rq, I64 4, I64 0, SL aj nj cj, .bool false, U64 pv, U64 ep, I64 (kd), SL ai ni ci, SL sa ns sc, U64 bl] ++ cu8 tg ++ [SL aha nha cha, SL ahb nhb chb]).toArray) (AI rfl (BV CV CH (by simp [htg]) (AS 0 rfl (AV _)))) rfl ?_)))))
 refine B1 (BG 35 [.agg ([U64 rq, I64 4, I64 0, SL aj nj cj, .bool false, U64 pv, U64 ep, I64 (kd), SL ai ni ci, SL sa ns sc, U64 bl] ++ cu8 tg ++ [SL aha nha cha, SL ahb nhb chb]).toArray] (.bool (repR (4:Int) (0:Int) false lj (blankB pv ep (kd) l ls bl tg) (decide (mayN pv ep (kd) l ls bl = 0)) nha nhb)) (A6 _ Tryd.call35 rfl) (fun w1 hw1 => FX rq (4:Int) (0:Int) aj nj cj lj false pv ep (kd) ai ni ci l sa ns sc ls bl tg aha nha cha xha ahb nhb chb xhb w1 hlj (by omega) (by omega) (by omega) (CA hw1 rfl hj) hl (by omega) (by omega) (by omega) (CA hw1 rfl hv) hls (by omega) (by omega) (by omega) (CA hw1 rfl hs) htg hlha (by omega) (by omega) (by omega) (hrha.at (M' := []) hw1 (by simp)) hlhb (by omega) (by omega) (by omega) (hrhb.at (M' := []) hw1 (by simp)) (by omega) (by omega))) rfl ?_
 show JL _ _ _ _ ((14, .bool (repR (4:Int) (0:Int) false lj (blankB pv ep (kd) l ls bl tg) (decide (mayN pv ep (kd) l ls bl = 0)) nha nhb)) :: _) [_]
 refine AA (.bool (!(repR (4:Int) (0:Int) false lj (blankB pv ep (kd) l ls bl tg) (decide (mayN pv ep (kd) l ls bl = 0)) nha nhb))) (EP rfl) rfl ?_
 refine AN (AF (BN _ rfl (bnotT hR) ?_))
 refine BE (AF (AK (AD (AA (.agg ([U64 rq, I64 4, I64 0, SL aj nj cj, .bool false, U64 pv, U64 ep, I64 (kd), SL ai ni ci, SL sa ns sc, U64 bl] ++ cu8 tg ++ [SL aha nha cha, SL ahb nhb chb]).toArray) (AI rfl (BV CV CH (by simp [htg]) (AS 0 rfl (AV _)))) rfl ?_))))
 refine B1 (BG 95 [.agg ([U64 rq, I64 4, I64 0, SL aj nj cj, .bool false, U64 pv, U64 ep, I64 (kd), SL ai ni ci, SL sa ns sc, U64 bl] ++ cu8 tg ++ [SL aha nha cha, SL ahb nhb chb]).toArray] (.tuple #[.bool (itB (0:Int) (4:Int)), .bool (chB (0:Int) (4:Int) false), .bool (aB (0:Int) (4:Int) false), .bool (bB (0:Int) (4:Int) false)]) (A6 _ Tryd.call95 rfl) (fun w1 hw1 => parts_c rq (4:Int) (0:Int) aj nj cj lj false pv ep (kd) ai ni ci l sa ns sc ls bl tg aha nha cha xha ahb nhb chb xhb w1 htg)) rfl ?_
 show JL _ _ _ _ ((19, .tuple #[.bool (itB (0:Int) (4:Int)), .bool (chB (0:Int) (4:Int) false), .bool (aB (0:Int) (4:Int) false), .bool (bB (0:Int) (4:Int) false)]) :: _) [_]
 refine AA _ (AL rfl) rfl ?_
 refine AA _ (B0 rfl rfl) rfl ?_
 refine AA _ (B0 rfl rfl) rfl ?_
 refine AA _ (B0 rfl rfl) rfl ?_
 refine AA _ (B0 rfl rfl) rfl ?_
 refine AA _ (AH rfl) rfl ?_
 refine AA _ (AH rfl) rfl ?_
 refine AA _ (AH rfl) rfl ?_
 refine AA _ (AH rfl) rfl ?_
 refine AN (AF (AK (AD (AA (.agg #[.nilIface, SL none 0 0]) (EB [] _ rfl (fun _ => by kernel_rfl)) rfl ?_))))
 refine A9 (CL (.agg #[.nilIface, SL none 0 0]) ([.nilIface, SL none 0 0]) rfl (by first | rfl | simp)) rfl ?_
 rintro v1 L1 ⟨nb2, hnb2, rfl, rfl⟩
 show JL _ _ _ _ ((25, Ptr nb2 0) :: _) [_, ⟨nb2, [.nilIface, SL none 0 0], 149, (0, 0)⟩]
 refine AA _ (AH rfl) rfl ?_
 refine AN (AF (AK (DH 103 4 [(0, Ptr nb2 0), (1, Ptr nb1 0), (2, U64 rq), (4, Ptr nb1 1), (5, I64 4), (6, U64 4), (8, Ptr nb1 2), (9, I64 0), (10, U64 0)] B8 rfl (by decide +kernel) ?_)))
 refine CZ ⟨[], [0, 1, 2, 4, 5, 6, 8, 9, 10], [], [0, 1, 2, 4, 5, 6, 8, 9, 10], [3]⟩ 3 _ rfl rfl (by decide +kernel) rfl ⟨CD rfl rfl rfl, ⟨_, rfl, AJ rfl (AB 0 22 1 AM rfl AX rfl rfl)⟩, ⟨_, rfl, AJ rfl (AI rfl (AQ AY (AS 0 rfl (AG (AG (Seg.head))))))⟩, ⟨_, rfl, AJ rfl (AB 1 3 1 AM rfl AR rfl rfl)⟩, ⟨_, rfl, AJ rfl (AI rfl (AQ AT (AS 0 rfl (AG (AG (AE (Seg.head)))))))⟩, ⟨_, rfl, AJ rfl (CX _ _ rfl fun _ => DA (by rw [AZ]; rfl) A3 rfl)⟩, ⟨_, rfl, AJ rfl (AB 2 3 1 AM rfl AR rfl rfl)⟩, ⟨_, rfl, AJ rfl (AI rfl (AQ AT (AS 0 rfl (AG (AG (AE (AE (Seg.head))))))))⟩, ⟨_, rfl, AJ rfl (CX _ _ rfl fun _ => DA (by rw [AZ]; rfl) A3 rfl)⟩, trivial⟩ rfl (BI rfl (CB 81 _ [false, true] [nb2] _ (A6 [Ptr nb2 0, U64 rq, I64 8] C4 rfl) rfl (fun w1 hw1 => numN_c nb2 8 .nilIface rq 8 w1 (hw1.ent _ (List.mem_of_getElem? (i := 1) rfl)) (by unfold Szd; omega) (fun h => absurd h (by omega)) (by omega)))) ?_
 rintro v1 L1 ⟨_, ⟨rfl, nb3, sp1, cp1, rfl, hc1, hc2, hc3⟩, rfl⟩
 refine ⟨[], ?_⟩
 show DP _ _ _ _ _ _ _ _ [_, ⟨nb2, [.nilIface, Slc nb3 0 8 cp1], 149, (0, 0)⟩, ⟨nb3, cu8 (numK 8 rq 8) ++ sp1, 5, (0, 0)⟩]
 refine CZ ⟨[3], [0, 1, 2, 4, 5, 6, 8, 9, 10], [0, 1, 2], [4, 5, 6, 8, 9, 10], [7]⟩ 7 _ rfl rfl (by decide +kernel) rfl ⟨⟨_, rfl, AJ rfl (AB 1 3 1 AM rfl AR rfl rfl)⟩, ⟨_, rfl, AJ rfl (AI rfl (AQ AT (AS 0 rfl (AG (AG (AE (Seg.head)))))))⟩, ⟨_, rfl, AJ rfl (CX _ _ rfl fun _ => DA (by rw [AZ]; rfl) A3 rfl)⟩, ⟨_, rfl, AJ rfl (AB 2 3 1 AM rfl AR rfl rfl)⟩, ⟨_, rfl, AJ rfl (AI rfl (AQ AT (AS 0 rfl (AG (AG (AE (AE (Seg.head))))))))⟩, ⟨_, rfl, AJ rfl (CX _ _ rfl fun _ => DA (by rw [AZ]; rfl) A3 rfl)⟩, trivial⟩ rfl (BI rfl (CB 81 _ [false, true, true] [nb2, nb3] _ (A6 [Ptr nb2 0, U64 4, I64 1] C4 rfl) rfl (fun w1 hw1 => FR nb2 nb3 8 cp1 9 .nilIface (numK 8 rq 8) sp1 (4:UInt64) 1 w1 (hw1.ent _ (List.mem_of_getElem? (i := 1) rfl)) (hw1.ent _ (List.mem_of_getElem? (i := 2) rfl)) (hw1.ne (i := 1) (j := 2) rfl rfl (by decide)) (show (numK 8 rq 8).length = 8 from (A4 _ _ _)) hc1 hc2 hc3 (by omega) (by unfold Szd; omega) (fun _ => by decide) (by omega)))) ?_
 rintro v1 L1 ⟨_, ⟨rfl, nb4, sp2, cp2, rfl, hc4, hc5, hc6⟩, rfl⟩
 refine ⟨[], ?_⟩
 show DP _ _ _ _ _ _ _ _ [_, ⟨nb2, [.nilIface, Slc nb4 0 9 cp2], 149, (0, 0)⟩, ⟨nb4, cu8 ((numK 8 rq 8) ++ numK 1 (4:UInt64) 1) ++ sp2, 5, (0, 0)⟩]
 refine CZ ⟨[3, 7], [0, 1, 2, 4, 5, 6, 8, 9, 10], [0, 1, 2, 4, 5, 6], [8, 9, 10], [11]⟩ 11 _ rfl rfl (by decide +kernel) rfl ⟨⟨_, rfl, AJ rfl (AB 2 3 1 AM rfl AR rfl rfl)⟩, ⟨_, rfl, AJ rfl (AI rfl (AQ AT (AS 0 rfl (AG (AG (AE (AE (Seg.head))))))))⟩, ⟨_, rfl, AJ rfl (CX _ _ rfl fun _ => DA (by rw [AZ]; rfl) A3 rfl)⟩, trivial⟩ rfl (BI rfl (CB 81 _ [false, true, true] [nb2, nb4] _ (A6 [Ptr nb2 0, U64 0, I64 1] C4 rfl) rfl (fun w1 hw1 => FR nb2 nb4 9 cp2 10 .nilIface ((numK 8 rq 8) ++ numK 1 (4:UInt64) 1) sp2 (0:UInt64) 1 w1 (hw1.ent _ (List.mem_of_getElem? (i := 1) rfl)) (hw1.ent _ (List.mem_of_getElem? (i := 2) rfl)) (hw1.ne (i := 1) (j := 2) rfl rfl (by decide)) (show ((numK 8 rq 8) ++ numK 1 (4:UInt64) 1).length = 9 from (by rw [List.length_append, (show (numK 8 rq 8).length = 8 from (A4 _ _ _)), A4] <;> omega)) hc4 hc5 hc6 (by omega) (by unfold Szd; omega) (fun _ => by decide) (by omega)))) ?_
 rintro v1 L1 ⟨_, ⟨rfl, nb5, sp3, cp3, rfl, hc7, hc8, hc9⟩, rfl⟩
 refine ⟨[], ?_⟩
 show DP _ _ _ _ _ _ _ _ [_, ⟨nb2, [.nilIface, Slc nb5 0 10 cp3], 149, (0, 0)⟩, ⟨nb5, cu8 (((numK 8 rq 8) ++ numK 1 (4:UInt64) 1) ++ numK 1 (0:UInt64) 1) ++ sp3, 5, (0, 0)⟩]
 refine DN ⟨[3, 7, 11], [0, 1, 2, 4, 5, 6, 8, 9, 10], [0, 1, 2, 4, 5, 6, 8, 9, 10], [], []⟩ rfl rfl (by decide +kernel) rfl trivial ?_
 refine C7 (F' := [(1, Ptr nb1 0), (2, SL none 0 0), (3, .nilIface), (4, .bool (itB (0:Int) (4:Int))), (5, .bool (chB (0:Int) (4:Int) false)), (6, .bool (aB (0:Int) (4:Int) false)), (7, .bool (bB (0:Int) (4:Int) false)), (8, Ptr nb2 0)]) (by kernel_rfl) ?_
 refine AF (AK (AK (AD (AA _ (AL rfl) rfl ?_))))
 refine AN (AF (BN _ rfl (by decide +kernel) ?_))
 refine BE (AF (AK (AK (AD (AA (Ptr nb1 3) (AB 3 64 1 AM rfl D5 rfl rfl) rfl ?_)))))
 refine AA (SL aj nj cj) (AI rfl (AQ EE (AS 0 rfl (AG (AG (AE (AE (AE (Seg.head))))))))) rfl ?_
 refine AA (I64 nj) (CY CF rfl) rfl ?_
 refine AA _ (AL rfl) rfl ?_
 refine AN (AF (B2 (DV (ι := Unit) (fun _ => [(1, Ptr nb1 0), (2, SL none 0 0), (3, .nilIface), (5, .bool (chB (0:Int) (4:Int) false)), (6, .bool (aB (0:Int) (4:Int) false)), (7, .bool (bB (0:Int) (4:Int) false)), (8, Ptr nb2 0), (47, SL aj nj cj), (48, I64 nj), (49, I64 0)]) (fun _ => [⟨nb1, [U64 rq, I64 4, I64 0, SL aj nj cj, .bool false, U64 pv, U64 ep, I64 (kd), SL ai ni ci, SL sa ns sc, U64 bl] ++ cu8 tg ++ [SL aha nha cha, SL ahb nhb chb], 67, (0, 0)⟩, ⟨nb2, [.nilIface, Slc nb5 0 10 cp3], 149, (0, 0)⟩, ⟨nb5, cu8 (((numK 8 rq 8) ++ numK 1 (4:UInt64) 1) ++ numK 1 (0:UInt64) 1) ++ sp3, 5, (0, 0)⟩]) (fun _ => True) (fun _ => 1) () trivial (Sub.all rfl) rfl ?_)))
 rintro _ _
 show JC _ _ _ [(1, Ptr nb1 0), (2, SL none 0 0), (3, .nilIface), (5, .bool (chB (0:Int) (4:Int) false)), (6, .bool (aB (0:Int) (4:Int) false)), (7, .bool (bB (0:Int) (4:Int) false)), (8, Ptr nb2 0), (47, SL aj nj cj), (48, I64 nj), (49, I64 0)] [⟨nb1, [U64 rq, I64 4, I64 0, SL aj nj cj, .bool false, U64 pv, U64 ep, I64 (kd), SL ai ni ci, SL sa ns sc, U64 bl] ++ cu8 tg ++ [SL aha nha cha, SL ahb nhb chb], 67, (0, 0)⟩, ⟨nb2, [.nilIface, Slc nb5 0 10 cp3], 149, (0, 0)⟩, ⟨nb5, cu8 (((numK 8 rq 8) ++ numK 1 (4:UInt64) 1) ++ numK 1 (0:UInt64) 1) ++ sp3, 5, (0, 0)⟩]
 refine AK (AD (AA (.bool (decide ((0:Int) < ((nj:Int))))) (AU rfl rfl fun _ => CR _ _) rfl ?_))
 refine AN (AF (AK (BN _ rfl (decide_eq_false (by omega)) ?_)))
 refine DU (A5 (A5 (CQ (AF (AK (AK (AD (AA (Ptr nb1 2) (AB 2 3 1 AM rfl AR rfl rfl) rfl ?_))))))))
 refine AA (I64 0) (AI rfl (AQ AT (AS 0 rfl (AG (AG (AE (AE (Seg.head)))))))) rfl ?_
 refine AA (.bool (decide ((0:Int) = (0:Int)))) (AU rfl rfl fun _ => BO _ _) rfl ?_
 refine AA _ (AL rfl) rfl ?_
 refine AP 3 68 true _ (Ptr nb1 1) rfl rfl (by decide) (AB 1 3 1 AM rfl AR rfl rfl) rfl ?_
 refine AP 3 68 true _ (I64 4) rfl rfl (by decide) (AI rfl (AQ AT (AS 0 rfl (AG (AG (AE (Seg.head))))))) rfl ?_
 refine AP 3 68 true _ (.bool (decide ((4:Int) = (4:Int)))) rfl rfl (by decide) (AU rfl rfl fun _ => BO _ _) rfl ?_
 refine AA _ (A2 _ rfl (by decide) rfl) rfl ?_
 refine AN (AF (CO _ rfl (by decide) ?_))
 refine AD (AA _ (AL rfl) rfl ?_)
 refine AA _ (AL rfl) rfl ?_
 refine A9 (CB 96 _ [false, true, true] [nb2, nb5] _ (A6 [Ptr nb2 0, .bool (chB (0:Int) (4:Int) false)] Tryd.call96 rfl) rfl (fun w1 hw1 => flagO_c nb2 nb5 10 cp3 11 .nilIface (((numK 8 rq 8) ++ numK 1 (4:UInt64) 1) ++ numK 1 (0:UInt64) 1) sp3 (chB (0:Int) (4:Int) false) w1 (hw1.ent _ (List.mem_of_getElem? (i := 1) rfl)) (hw1.ent _ (List.mem_of_getElem? (i := 2) rfl)) (hw1.ne (i := 1) (j := 2) rfl rfl (by decide)) (show (((numK 8 rq 8) ++ numK 1 (4:UInt64) 1) ++ numK 1 (0:UInt64) 1).length = 10 from (by rw [List.length_append, (show ((numK 8 rq 8) ++ numK 1 (4:UInt64) 1).length = 9 from (by rw [List.length_append, (show (numK 8 rq 8).length = 8 from (A4 _ _ _)), A4] <;> omega)), A4] <;> omega)) hc7 hc8 hc9 (by omega) (by omega))) rfl ?_
 rintro v1 L1 ⟨_, ⟨rfl, nb6, sp4, cp4, rfl, hc10, hc11, hc12⟩, rfl⟩
 show JL _ _ _ _ ((75, Ptr nb2 0) :: _) [_, ⟨nb2, [.nilIface, Slc nb6 0 11 cp4], 149, (0, 0)⟩, ⟨nb6, cu8 ((((numK 8 rq 8) ++ numK 1 (4:UInt64) 1) ++ numK 1 (0:UInt64) 1) ++ numK 1 (bitU (chB (0:Int) (4:Int) false)) 1) ++ sp4, 5, (0, 0)⟩]
 refine AN (AF (AK (AK (AD (AA _ (AL rfl) rfl ?_)))))
 refine AN (AF (BN _ rfl (by decide +kernel) ?_))
 refine BE (AF (AK (AK (AD (AA _ (AL rfl) rfl ?_)))))
 refine AN (AF (BN _ rfl (by decide +kernel) ?_))
 refine BE (AF (AK (AK (AD (AA _ (AL rfl) rfl ?_)))))
 refine AN (AF (BN _ rfl (by decide +kernel) ?_))
 refine BE (AF (AK (AD (AA _ (AL rfl) rfl ?_))))
 refine A9 (CG 83 [Ptr nb2 0] _ (A6 _ Tryd.call83 rfl) (fun w1 hw1 => doneO_c nb2 0 nb6 11 cp4 ((((numK 8 rq 8) ++ numK 1 (4:UInt64) 1) ++ numK 1 (0:UInt64) 1) ++ numK 1 (bitU (chB (0:Int) (4:Int) false)) 1) w1 (RdA.of hw1 (AS 1 rfl (AV _)) (by simp)) rfl (show ((((numK 8 rq 8) ++ numK 1 (4:UInt64) 1) ++ numK 1 (0:UInt64) 1) ++ numK 1 (bitU (chB (0:Int) (4:Int) false)) 1).length = 11 from (by rw [List.length_append, (show (((numK 8 rq 8) ++ numK 1 (4:UInt64) 1) ++ numK 1 (0:UInt64) 1).length = 10 from (by rw [List.length_append, (show ((numK 8 rq 8) ++ numK 1 (4:UInt64) 1).length = 9 from (by rw [List.length_append, (show (numK 8 rq 8).length = 8 from (A4 _ _ _)), A4] <;> omega)), A4] <;> omega)), A4] <;> omega)) (by omega) (RdB.of hw1 (AS 2 rfl (AG (AV _))) (by simp)))) rfl ?_
 rintro v1 L1 ⟨_, ⟨nb7, sp5, cp5, rfl, rfl, hc13, hc14, hc15⟩, rfl⟩
 show JL _ _ _ _ ((100, .tuple #[Slc nb7 0 11 cp5, .nilIface]) :: _) [_, _, _, ⟨nb7, cu8 ((((numK 8 rq 8) ++ numK 1 (4:UInt64) 1) ++ numK 1 (0:UInt64) 1) ++ numK 1 (bitU (chB (0:Int) (4:Int) false)) 1) ++ sp5, 5, (0, 0)⟩]
 refine AA _ (B0 rfl rfl) rfl ?_
 refine AA _ (B0 rfl rfl) rfl ?_
 refine AA _ (AH rfl) rfl ?_
 refine AA _ (AH rfl) rfl ?_
 refine AN (AF (BK (BP [false, false, false, true] ?_)))
 show JQ _ _ _ _ [_]
 refine BJ (.tuple #[Slc nb7 0 11 cp5, .nilIface]) (res2 Tryd.results34 (BH rfl) (BH rfl)) fun w1 hw1 => ?_
 have hq : (((numK 8 rq 8) ++ numK 1 (4:UInt64) 1) ++ numK 1 (0:UInt64) 1) ++ numK 1 (bitU (chB (0:Int) (4:Int) false)) 1 = ((numK 8 rq 8 ++ numK 1 (4:UInt64) 1) ++ numK 1 (0:UInt64) 1) ++ numK 1 (bitU false) 1 := by simp only [List.append_assoc, show chB 0 4 false = false from by decide +kernel]
 rw [hq] at hw1
 exact ⟨_, _, rfl, ⟨nb7, sp5, cp5, rfl, rfl, hc13, hc14, hc15⟩, hw1.sub (by simp) (by simp)⟩
set_option maxHeartbeats 2000000 in
theorem putRep5_c (rq : UInt64) (aj : Option Addr) (nj cj : Nat) (lj : List ItemR) (th : Bool) (pv ep : UInt64) (kd : Int) (ai : Option Addr) (ni ci : Nat) (l : List UInt64) (sa : Option Addr) (ns sc : Nat) (ls : List SealR) (bl : UInt64) (tg : List UInt8) (aha : Option Addr) (nha cha : Nat) (xha : List UInt8) (ahb : Option Addr) (nhb chb : Nat) (xhb : List UInt8)  (w : World) (hlj : lj.length = nj) (hnj : nj ≤ 2000000) (hdj : nj ≤ cj) (hcj : cj ≤ maxLen) (hj : RdV w aj (lj.flatMap itemC)) (hl : l.length = ni) (hnm : ni ≤ 2000000) (hnc : ni ≤ ci) (hcm : ci ≤ maxLen) (hv : RdV w ai (cu64 l)) (hls : ls.length = ns) (hnn : ns ≤ 2000000) (hnd : ns ≤ sc) (hcn : sc ≤ maxLen) (hs : RdV w sa (ls.flatMap sealC)) (htg : tg.length = 16) (hlha : xha.length = nha * 32) (hnha : nha ≤ 9000) (hdha : nha ≤ cha) (hcha : cha ≤ maxLen) (hrha : RdB w [] aha xha) (hlhb : xhb.length = nhb * 32) (hnhb : nhb ≤ 9000) (hdhb : nhb ≤ chb) (hchb : chb ≤ maxLen) (hrhb : RdB w [] ahb xhb) (hbi : ni ≤ 300) (hbs : ns ≤ 300) (hA : nha ≤ 300) (hB : nhb ≤ 300) (hR : repR (5:Int) (0:Int) th lj (blankB pv ep kd l ls bl tg) (decide (mayN pv ep kd l ls bl = 0)) nha nhb = true)  : Calls Tryd.prog 34 #[.agg ([U64 rq, I64 5, I64 0, SL aj nj cj, .bool th, U64 pv, U64 ep, I64 (kd), SL ai ni ci, SL sa ns sc, U64 bl] ++ cu8 tg ++ [SL aha nha cha, SL ahb nhb chb]).toArray] w (Post w [] (fun v L => ∃ g sp cap, v = .tuple #[Slc g 0 (10) cap, .nilIface] ∧ L = [⟨g, cu8 ((numK 8 rq 8 ++ numK 1 (5:UInt64) 1) ++ numK 1 (0:UInt64) 1) ++ sp, 5, (0, 0)⟩] ∧ sp.length = cap - 10 ∧ 10 ≤ cap ∧ cap ≤ maxLen)) := by
 have hmx : maxLen = 9223372036854775807 := rfl
 have hf := repR_f hlj hR
 have hn0 := c2_len0 hlj (repR_2 hR (by decide +kernel))
 refine enter (P := Tryd.prog) (f := 34) (fn := Tryd.f34) w [] 103 [] [.agg ([U64 rq, I64 5, I64 0, SL aj nj cj, .bool th, U64 pv, U64 ep, I64 (kd), SL ai ni ci, SL sa ns sc, U64 bl] ++ cu8 tg ++ [SL aha nha cha, SL ahb nhb chb]).toArray] Tryd.func34 rfl rfl (by simp) (CC (by simp) (by simp) (by simp)) ?_
 show JC _ _ _ [(0, .agg ([U64 rq, I64 5, I64 0, SL aj nj cj, .bool th, U64 pv, U64 ep, I64 (kd), SL ai ni ci, SL sa ns sc, U64 bl] ++ cu8 tg ++ [SL aha nha cha, SL ahb nhb chb]).toArray)] _
 refine AK (AD (A9 (CL (.agg ([U64 rq, I64 5, I64 0, SL aj nj cj, .bool th, U64 pv, U64 ep, I64 (kd), SL ai ni ci, SL sa ns sc, U64 bl] ++ cu8 tg ++ [SL aha nha cha, SL ahb nhb chb]).toArray) ([U64 rq, I64 5, I64 0, SL aj nj cj, .bool th, U64 pv, U64 ep, I64 (kd), SL ai ni ci, SL sa ns sc, U64 bl] ++ cu8 tg ++ [SL aha nha cha, SL ahb nhb chb]) rfl (by first | rfl | simp)) rfl ?_))
 rintro v1 L1 ⟨nb1, hnb1, rfl, rfl⟩
 show JL _ _ _ _ ((1, Ptr nb1 0) :: _) [⟨nb1, [U64 rq, I64 5, I64 0, SL aj nj cj, .bool th, U64 pv, U64 ep, I64 (kd), SL ai ni ci, SL sa ns sc, U64 bl] ++ cu8 tg ++ [SL aha nha cha, SL ahb nhb chb], 67, (0, 0)⟩]
 refine AA _ (AH rfl) rfl ?_
 refine AA _ (AH rfl) rfl ?_
 refine AN (AF (AK (AK (AD (AA (.agg ([U64 rq, I64 5, I64 0, SL aj nj cj, .bool th, U64 pv, U64 ep, I64 (kd), SL ai ni ci, SL sa ns sc, U64 bl] ++ cu8 tg ++ [SL aha nha cha, SL ahb nhb chb]).toArray) (AI rfl (BV CV CH (by simp [htg]) (AS 0 rfl (AV _)))) rfl ?_)))))
 refine B1 (BG 35 [.agg ([U64 rq, I64 5, I64 0, SL aj nj cj, .bool th, U64 pv, U64 ep, I64 (kd), SL ai ni ci, SL sa ns sc, U64 bl] ++ cu8 tg ++ [SL aha nha cha, SL ahb nhb chb]).toArray] (.bool (repR (5:Int) (0:Int) th lj (blankB pv ep (kd) l ls bl tg) (decide (mayN pv ep (kd) l ls bl = 0)) nha nhb)) (A6 _ Tryd.call35 rfl) (fun w1 hw1 => FX rq (5:Int) (0:Int) aj nj cj lj th pv ep (kd) ai ni ci l sa ns sc ls bl tg aha nha cha xha ahb nhb chb xhb w1 hlj (by omega) (by omega) (by omega) (CA hw1 rfl hj) hl (by omega) (by omega) (by omega) (CA hw1 rfl hv) hls (by omega) (by omega) (by omega) (CA hw1 rfl hs) htg hlha (by omega) (by omega) (by omega) (hrha.at (M' := []) hw1 (by simp)) hlhb (by omega) (by omega) (by omega) (hrhb.at (M' := []) hw1 (by simp)) (by omega) (by omega))) rfl ?_
 show JL _ _ _ _ ((14, .bool (repR (5:Int) (0:Int) th lj (blankB pv ep (kd) l ls bl tg) (decide (mayN pv ep (kd) l ls bl = 0)) nha nhb)) :: _) [_]
 refine AA (.bool (!(repR (5:Int) (0:Int) th lj (blankB pv ep (kd) l ls bl tg) (decide (mayN pv ep (kd) l ls bl = 0)) nha nhb))) (EP rfl) rfl ?_
 refine AN (AF (BN _ rfl (bnotT hR) ?_))
 refine BE (AF (AK (AD (AA (.agg ([U64 rq, I64 5, I64 0, SL aj nj cj, .bool th, U64 pv, U64 ep, I64 (kd), SL ai ni ci, SL sa ns sc, U64 bl] ++ cu8 tg ++ [SL aha nha cha, SL ahb nhb chb]).toArray) (AI rfl (BV CV CH (by simp [htg]) (AS 0 rfl (AV _)))) rfl ?_))))
 refine B1 (BG 95 [.agg ([U64 rq, I64 5, I64 0, SL aj nj cj, .bool th, U64 pv, U64 ep, I64 (kd), SL ai ni ci, SL sa ns sc, U64 bl] ++ cu8 tg ++ [SL aha nha cha, SL ahb nhb chb]).toArray] (.tuple #[.bool (itB (0:Int) (5:Int)), .bool (chB (0:Int) (5:Int) th), .bool (aB (0:Int) (5:Int) th), .bool (bB (0:Int) (5:Int) th)]) (A6 _ Tryd.call95 rfl) (fun w1 hw1 => parts_c rq (5:Int) (0:Int) aj nj cj lj th pv ep (kd) ai ni ci l sa ns sc ls bl tg aha nha cha xha ahb nhb chb xhb w1 htg)) rfl ?_
 show JL _ _ _ _ ((19, .tuple #[.bool (itB (0:Int) (5:Int)), .bool (chB (0:Int) (5:Int) th), .bool (aB (0:Int) (5:Int) th), .bool (bB (0:Int) (5:Int) th)]) :: _) [_]
 refine AA _ (AL rfl) rfl ?_
 refine AA _ (B0 rfl rfl) rfl ?_
 refine AA _ (B0 rfl rfl) rfl ?_
 refine AA _ (B0 rfl rfl) rfl ?_
 refine AA _ (B0 rfl rfl) rfl ?_
 refine AA _ (AH rfl) rfl ?_
 refine AA _ (AH rfl) rfl ?_
 refine AA _ (AH rfl) rfl ?_
 refine AA _ (AH rfl) rfl ?_
 refine AN (AF (AK (AD (AA (.agg #[.nilIface, SL none 0 0]) (EB [] _ rfl (fun _ => by kernel_rfl)) rfl ?_))))
 refine A9 (CL (.agg #[.nilIface, SL none 0 0]) ([.nilIface, SL none 0 0]) rfl (by first | rfl | simp)) rfl ?_
 rintro v1 L1 ⟨nb2, hnb2, rfl, rfl⟩
 show JL _ _ _ _ ((25, Ptr nb2 0) :: _) [_, ⟨nb2, [.nilIface, SL none 0 0], 149, (0, 0)⟩]
 refine AA _ (AH rfl) rfl ?_
 refine AN (AF (AK (DH 103 4 [(0, Ptr nb2 0), (1, Ptr nb1 0), (2, U64 rq), (4, Ptr nb1 1), (5, I64 5), (6, U64 5), (8, Ptr nb1 2), (9, I64 0), (10, U64 0)] B8 rfl (by decide +kernel) ?_)))
 refine CZ ⟨[], [0, 1, 2, 4, 5, 6, 8, 9, 10], [], [0, 1, 2, 4, 5, 6, 8, 9, 10], [3]⟩ 3 _ rfl rfl (by decide +kernel) rfl ⟨CD rfl rfl rfl, ⟨_, rfl, AJ rfl (AB 0 22 1 AM rfl AX rfl rfl)⟩, ⟨_, rfl, AJ rfl (AI rfl (AQ AY (AS 0 rfl (AG (AG (Seg.head))))))⟩, ⟨_, rfl, AJ rfl (AB 1 3 1 AM rfl AR rfl rfl)⟩, ⟨_, rfl, AJ rfl (AI rfl (AQ AT (AS 0 rfl (AG (AG (AE (Seg.head)))))))⟩, ⟨_, rfl, AJ rfl (CX _ _ rfl fun _ => DA (by rw [AZ]; rfl) A3 rfl)⟩, ⟨_, rfl, AJ rfl (AB 2 3 1 AM rfl AR rfl rfl)⟩, ⟨_, rfl, AJ rfl (AI rfl (AQ AT (AS 0 rfl (AG (AG (AE (AE (Seg.head))))))))⟩, ⟨_, rfl, AJ rfl (CX _ _ rfl fun _ => DA (by rw [AZ]; rfl) A3 rfl)⟩, trivial⟩ rfl (BI rfl (CB 81 _ [false, true] [nb2] _ (A6 [Ptr nb2 0, U64 rq, I64 8] C4 rfl) rfl (fun w1 hw1 => numN_c nb2 8 .nilIface rq 8 w1 (hw1.ent _ (List.mem_of_getElem? (i := 1) rfl)) (by unfold Szd; omega) (fun h => absurd h (by omega)) (by omega)))) ?_
 rintro v1 L1 ⟨_, ⟨rfl, nb3, sp1, cp1, rfl, hc1, hc2, hc3⟩, rfl⟩
 refine ⟨[], ?_⟩
 show DP _ _ _ _ _ _ _ _ [_, ⟨nb2, [.nilIface, Slc nb3 0 8 cp1], 149, (0, 0)⟩, ⟨nb3, cu8 (numK 8 rq 8) ++ sp1, 5, (0, 0)⟩]
 refine CZ ⟨[3], [0, 1, 2, 4, 5, 6, 8, 9, 10], [0, 1, 2], [4, 5, 6, 8, 9, 10], [7]⟩ 7 _ rfl rfl (by decide +kernel) rfl ⟨⟨_, rfl, AJ rfl (AB 1 3 1 AM rfl AR rfl rfl)⟩, ⟨_, rfl, AJ rfl (AI rfl (AQ AT (AS 0 rfl (AG (AG (AE (Seg.head)))))))⟩, ⟨_, rfl, AJ rfl (CX _ _ rfl fun _ => DA (by rw [AZ]; rfl) A3 rfl)⟩, ⟨_, rfl, AJ rfl (AB 2 3 1 AM rfl AR rfl rfl)⟩, ⟨_, rfl, AJ rfl (AI rfl (AQ AT (AS 0 rfl (AG (AG (AE (AE (Seg.head))))))))⟩, ⟨_, rfl, AJ rfl (CX _ _ rfl fun _ => DA (by rw [AZ]; rfl) A3 rfl)⟩, trivial⟩ rfl (BI rfl (CB 81 _ [false, true, true] [nb2, nb3] _ (A6 [Ptr nb2 0, U64 5, I64 1] C4 rfl) rfl (fun w1 hw1 => FR nb2 nb3 8 cp1 9 .nilIface (numK 8 rq 8) sp1 (5:UInt64) 1 w1 (hw1.ent _ (List.mem_of_getElem? (i := 1) rfl)) (hw1.ent _ (List.mem_of_getElem? (i := 2) rfl)) (hw1.ne (i := 1) (j := 2) rfl rfl (by decide)) (show (numK 8 rq 8).length = 8 from (A4 _ _ _)) hc1 hc2 hc3 (by omega) (by unfold Szd; omega) (fun _ => by decide) (by omega)))) ?_
 rintro v1 L1 ⟨_, ⟨rfl, nb4, sp2, cp2, rfl, hc4, hc5, hc6⟩, rfl⟩
 refine ⟨[], ?_⟩
 show DP _ _ _ _ _ _ _ _ [_, ⟨nb2, [.nilIface, Slc nb4 0 9 cp2], 149, (0, 0)⟩, ⟨nb4, cu8 ((numK 8 rq 8) ++ numK 1 (5:UInt64) 1) ++ sp2, 5, (0, 0)⟩]
 refine CZ ⟨[3, 7], [0, 1, 2, 4, 5, 6, 8, 9, 10], [0, 1, 2, 4, 5, 6], [8, 9, 10], [11]⟩ 11 _ rfl rfl (by decide +kernel) rfl ⟨⟨_, rfl, AJ rfl (AB 2 3 1 AM rfl AR rfl rfl)⟩, ⟨_, rfl, AJ rfl (AI rfl (AQ AT (AS 0 rfl (AG (AG (AE (AE (Seg.head))))))))⟩, ⟨_, rfl, AJ rfl (CX _ _ rfl fun _ => DA (by rw [AZ]; rfl) A3 rfl)⟩, trivial⟩ rfl (BI rfl (CB 81 _ [false, true, true] [nb2, nb4] _ (A6 [Ptr nb2 0, U64 0, I64 1] C4 rfl) rfl (fun w1 hw1 => FR nb2 nb4 9 cp2 10 .nilIface ((numK 8 rq 8) ++ numK 1 (5:UInt64) 1) sp2 (0:UInt64) 1 w1 (hw1.ent _ (List.mem_of_getElem? (i := 1) rfl)) (hw1.ent _ (List.mem_of_getElem? (i := 2) rfl)) (hw1.ne (i := 1) (j := 2) rfl rfl (by decide)) (show ((numK 8 rq 8) ++ numK 1 (5:UInt64) 1).length = 9 from (by rw [List.length_append, (show (numK 8 rq 8).length = 8 from (A4 _ _ _)), A4] <;> omega)) hc4 hc5 hc6 (by omega) (by unfold Szd; omega) (fun _ => by decide) (by omega)))) ?_
 rintro v1 L1 ⟨_, ⟨rfl, nb5, sp3, cp3, rfl, hc7, hc8, hc9⟩, rfl⟩
 refine ⟨[], ?_⟩
 show DP _ _ _ _ _ _ _ _ [_, ⟨nb2, [.nilIface, Slc nb5 0 10 cp3], 149, (0, 0)⟩, ⟨nb5, cu8 (((numK 8 rq 8) ++ numK 1 (5:UInt64) 1) ++ numK 1 (0:UInt64) 1) ++ sp3, 5, (0, 0)⟩]
 refine DN ⟨[3, 7, 11], [0, 1, 2, 4, 5, 6, 8, 9, 10], [0, 1, 2, 4, 5, 6, 8, 9, 10], [], []⟩ rfl rfl (by decide +kernel) rfl trivial ?_
 refine C7 (F' := [(1, Ptr nb1 0), (2, SL none 0 0), (3, .nilIface), (4, .bool (itB (0:Int) (5:Int))), (5, .bool (chB (0:Int) (5:Int) th)), (6, .bool (aB (0:Int) (5:Int) th)), (7, .bool (bB (0:Int) (5:Int) th)), (8, Ptr nb2 0)]) (by kernel_rfl) ?_
 refine AF (AK (AK (AD (AA _ (AL rfl) rfl ?_))))
 refine AN (AF (BN _ rfl (by decide +kernel) ?_))
 refine BE (AF (AK (AK (AD (AA (Ptr nb1 3) (AB 3 64 1 AM rfl D5 rfl rfl) rfl ?_)))))
 refine AA (SL aj nj cj) (AI rfl (AQ EE (AS 0 rfl (AG (AG (AE (AE (AE (Seg.head))))))))) rfl ?_
 refine AA (I64 nj) (CY CF rfl) rfl ?_
 refine AA _ (AL rfl) rfl ?_
 refine AN (AF (B2 (DV (ι := Unit) (fun _ => [(1, Ptr nb1 0), (2, SL none 0 0), (3, .nilIface), (5, .bool (chB (0:Int) (5:Int) th)), (6, .bool (aB (0:Int) (5:Int) th)), (7, .bool (bB (0:Int) (5:Int) th)), (8, Ptr nb2 0), (47, SL aj nj cj), (48, I64 nj), (49, I64 0)]) (fun _ => [⟨nb1, [U64 rq, I64 5, I64 0, SL aj nj cj, .bool th, U64 pv, U64 ep, I64 (kd), SL ai ni ci, SL sa ns sc, U64 bl] ++ cu8 tg ++ [SL aha nha cha, SL ahb nhb chb], 67, (0, 0)⟩, ⟨nb2, [.nilIface, Slc nb5 0 10 cp3], 149, (0, 0)⟩, ⟨nb5, cu8 (((numK 8 rq 8) ++ numK 1 (5:UInt64) 1) ++ numK 1 (0:UInt64) 1) ++ sp3, 5, (0, 0)⟩]) (fun _ => True) (fun _ => 1) () trivial (Sub.all rfl) rfl ?_)))
 rintro _ _
 show JC _ _ _ [(1, Ptr nb1 0), (2, SL none 0 0), (3, .nilIface), (5, .bool (chB (0:Int) (5:Int) th)), (6, .bool (aB (0:Int) (5:Int) th)), (7, .bool (bB (0:Int) (5:Int) th)), (8, Ptr nb2 0), (47, SL aj nj cj), (48, I64 nj), (49, I64 0)] [⟨nb1, [U64 rq, I64 5, I64 0, SL aj nj cj, .bool th, U64 pv, U64 ep, I64 (kd), SL ai ni ci, SL sa ns sc, U64 bl] ++ cu8 tg ++ [SL aha nha cha, SL ahb nhb chb], 67, (0, 0)⟩, ⟨nb2, [.nilIface, Slc nb5 0 10 cp3], 149, (0, 0)⟩, ⟨nb5, cu8 (((numK 8 rq 8) ++ numK 1 (5:UInt64) 1) ++ numK 1 (0:UInt64) 1) ++ sp3, 5, (0, 0)⟩]
 refine AK (AD (AA (.bool (decide ((0:Int) < ((nj:Int))))) (AU rfl rfl fun _ => CR _ _) rfl ?_))
 refine AN (AF (AK (BN _ rfl (decide_eq_false (by omega)) ?_)))
 refine DU (A5 (A5 (CQ (AF (AK (AK (AD (AA (Ptr nb1 2) (AB 2 3 1 AM rfl AR rfl rfl) rfl ?_))))))))
 refine AA (I64 0) (AI rfl (AQ AT (AS 0 rfl (AG (AG (AE (AE (Seg.head)))))))) rfl ?_
 refine AA (.bool (decide ((0:Int) = (0:Int)))) (AU rfl rfl fun _ => BO _ _) rfl ?_
 refine AA _ (AL rfl) rfl ?_
 refine AP 3 68 true _ (Ptr nb1 1) rfl rfl (by decide) (AB 1 3 1 AM rfl AR rfl rfl) rfl ?_
 refine AP 3 68 true _ (I64 5) rfl rfl (by decide) (AI rfl (AQ AT (AS 0 rfl (AG (AG (AE (Seg.head))))))) rfl ?_
 refine AP 3 68 true _ (.bool (decide ((5:Int) = (4:Int)))) rfl rfl (by decide) (AU rfl rfl fun _ => BO _ _) rfl ?_
 refine AA _ (A2 _ rfl (by decide) rfl) rfl ?_
 refine AN (AF (BN _ rfl (by decide) ?_))
 refine BE (AF (AK (AK (AD (AA _ (AL rfl) rfl ?_)))))
 refine AN (AF (BN _ rfl ((by decide +kernel : ∀ t : Bool, (chB (0:Int) (5:Int) t) = false) th) ?_))
 refine BE (AF (AK (AK (AD (AA _ (AL rfl) rfl ?_)))))
 refine AN (AF (BN _ rfl ((by decide +kernel : ∀ t : Bool, (aB (0:Int) (5:Int) t) = false) th) ?_))
 refine BE (AF (AK (AK (AD (AA _ (AL rfl) rfl ?_)))))
 refine AN (AF (BN _ rfl ((by decide +kernel : ∀ t : Bool, (bB (0:Int) (5:Int) t) = false) th) ?_))
 refine BE (AF (AK (AD (AA _ (AL rfl) rfl ?_))))
 refine A9 (CG 83 [Ptr nb2 0] _ (A6 _ Tryd.call83 rfl) (fun w1 hw1 => doneO_c nb2 0 nb5 10 cp3 (((numK 8 rq 8) ++ numK 1 (5:UInt64) 1) ++ numK 1 (0:UInt64) 1) w1 (RdA.of hw1 (AS 1 rfl (AV _)) (by simp)) rfl (show (((numK 8 rq 8) ++ numK 1 (5:UInt64) 1) ++ numK 1 (0:UInt64) 1).length = 10 from (by rw [List.length_append, (show ((numK 8 rq 8) ++ numK 1 (5:UInt64) 1).length = 9 from (by rw [List.length_append, (show (numK 8 rq 8).length = 8 from (A4 _ _ _)), A4] <;> omega)), A4] <;> omega)) (by omega) (RdB.of hw1 (AS 2 rfl (AG (AV _))) (by simp)))) rfl ?_
 rintro v1 L1 ⟨_, ⟨nb6, sp4, cp4, rfl, rfl, hc10, hc11, hc12⟩, rfl⟩
 show JL _ _ _ _ ((100, .tuple #[Slc nb6 0 10 cp4, .nilIface]) :: _) [_, _, _, ⟨nb6, cu8 (((numK 8 rq 8) ++ numK 1 (5:UInt64) 1) ++ numK 1 (0:UInt64) 1) ++ sp4, 5, (0, 0)⟩]
 refine AA _ (B0 rfl rfl) rfl ?_
 refine AA _ (B0 rfl rfl) rfl ?_
 refine AA _ (AH rfl) rfl ?_
 refine AA _ (AH rfl) rfl ?_
 refine AN (AF (BK (BP [false, false, false, true] ?_)))
 show JQ _ _ _ _ [_]
 refine BJ (.tuple #[Slc nb6 0 10 cp4, .nilIface]) (res2 Tryd.results34 (BH rfl) (BH rfl)) fun w1 hw1 => ?_
 skip
 exact ⟨_, _, rfl, ⟨nb6, sp4, cp4, rfl, rfl, hc10, hc11, hc12⟩, hw1.sub (by simp) (by simp)⟩
theorem putRepB_c (rq : UInt64) (rk er : Int) (aj : Option Addr) (nj cj : Nat) (lj : List ItemR) (th : Bool) (pv ep : UInt64) (kd : Int) (ai : Option Addr) (ni ci : Nat) (l : List UInt64) (sa : Option Addr) (ns sc : Nat) (ls : List SealR) (bl : UInt64) (tg : List UInt8) (aha : Option Addr) (nha cha : Nat) (xha : List UInt8) (ahb : Option Addr) (nhb chb : Nat) (xhb : List UInt8)  (w : World) (hlj : lj.length = nj) (hnj : nj ≤ 2000000) (hdj : nj ≤ cj) (hcj : cj ≤ maxLen) (hj : RdV w aj (lj.flatMap itemC)) (hl : l.length = ni) (hnm : ni ≤ 2000000) (hnc : ni ≤ ci) (hcm : ci ≤ maxLen) (hv : RdV w ai (cu64 l)) (hls : ls.length = ns) (hnn : ns ≤ 2000000) (hnd : ns ≤ sc) (hcn : sc ≤ maxLen) (hs : RdV w sa (ls.flatMap sealC)) (htg : tg.length = 16) (hlha : xha.length = nha * 32) (hnha : nha ≤ 9000) (hdha : nha ≤ cha) (hcha : cha ≤ maxLen) (hrha : RdB w [] aha xha) (hlhb : xhb.length = nhb * 32) (hnhb : nhb ≤ 9000) (hdhb : nhb ≤ chb) (hchb : chb ≤ maxLen) (hrhb : RdB w [] ahb xhb) (hbi : ni ≤ 300) (hbs : ns ≤ 300) (hR : repR rk er th lj (blankB pv ep kd l ls bl tg) (decide (mayN pv ep kd l ls bl = 0)) nha nhb = false)  : Calls Tryd.prog 34 #[.agg ([U64 rq, I64 (rk), I64 (er), SL aj nj cj, .bool th, U64 pv, U64 ep, I64 (kd), SL ai ni ci, SL sa ns sc, U64 bl] ++ cu8 tg ++ [SL aha nha cha, SL ahb nhb chb]).toArray] w (Post w [] (fun v L => v = .tuple #[SL none 0 0, .iface 50 (I64 2)] ∧ L = [])) := by
 have hmx : maxLen = 9223372036854775807 := rfl
 refine enter (P := Tryd.prog) (f := 34) (fn := Tryd.f34) w [] 103 [] [.agg ([U64 rq, I64 (rk), I64 (er), SL aj nj cj, .bool th, U64 pv, U64 ep, I64 (kd), SL ai ni ci, SL sa ns sc, U64 bl] ++ cu8 tg ++ [SL aha nha cha, SL ahb nhb chb]).toArray] Tryd.func34 rfl rfl (by simp) (CC (by simp) (by simp) (by simp)) ?_
 show JC _ _ _ [(0, .agg ([U64 rq, I64 (rk), I64 (er), SL aj nj cj, .bool th, U64 pv, U64 ep, I64 (kd), SL ai ni ci, SL sa ns sc, U64 bl] ++ cu8 tg ++ [SL aha nha cha, SL ahb nhb chb]).toArray)] _
 refine AK (AD (A9 (CL (.agg ([U64 rq, I64 (rk), I64 (er), SL aj nj cj, .bool th, U64 pv, U64 ep, I64 (kd), SL ai ni ci, SL sa ns sc, U64 bl] ++ cu8 tg ++ [SL aha nha cha, SL ahb nhb chb]).toArray) ([U64 rq, I64 (rk), I64 (er), SL aj nj cj, .bool th, U64 pv, U64 ep, I64 (kd), SL ai ni ci, SL sa ns sc, U64 bl] ++ cu8 tg ++ [SL aha nha cha, SL ahb nhb chb]) rfl (by first | rfl | simp)) rfl ?_))
 rintro v1 L1 ⟨nb1, hnb1, rfl, rfl⟩
 show JL _ _ _ _ ((1, Ptr nb1 0) :: _) [⟨nb1, [U64 rq, I64 (rk), I64 (er), SL aj nj cj, .bool th, U64 pv, U64 ep, I64 (kd), SL ai ni ci, SL sa ns sc, U64 bl] ++ cu8 tg ++ [SL aha nha cha, SL ahb nhb chb], 67, (0, 0)⟩]
 refine AA _ (AH rfl) rfl ?_
 refine AA _ (AH rfl) rfl ?_
 refine AN (AF (AK (AK (AD (AA (.agg ([U64 rq, I64 (rk), I64 (er), SL aj nj cj, .bool th, U64 pv, U64 ep, I64 (kd), SL ai ni ci, SL sa ns sc, U64 bl] ++ cu8 tg ++ [SL aha nha cha, SL ahb nhb chb]).toArray) (AI rfl (BV CV CH (by simp [htg]) (AS 0 rfl (AV _)))) rfl ?_)))))
 refine B1 (BG 35 [.agg ([U64 rq, I64 (rk), I64 (er), SL aj nj cj, .bool th, U64 pv, U64 ep, I64 (kd), SL ai ni ci, SL sa ns sc, U64 bl] ++ cu8 tg ++ [SL aha nha cha, SL ahb nhb chb]).toArray] (.bool (repR (rk) (er) th lj (blankB pv ep (kd) l ls bl tg) (decide (mayN pv ep (kd) l ls bl = 0)) nha nhb)) (A6 _ Tryd.call35 rfl) (fun w1 hw1 => FX rq (rk) (er) aj nj cj lj th pv ep (kd) ai ni ci l sa ns sc ls bl tg aha nha cha xha ahb nhb chb xhb w1 hlj (by omega) (by omega) (by omega) (CA hw1 rfl hj) hl (by omega) (by omega) (by omega) (CA hw1 rfl hv) hls (by omega) (by omega) (by omega) (CA hw1 rfl hs) htg hlha (by omega) (by omega) (by omega) (hrha.at (M' := []) hw1 (by simp)) hlhb (by omega) (by omega) (by omega) (hrhb.at (M' := []) hw1 (by simp)) (by omega) (by omega))) rfl ?_
 show JL _ _ _ _ ((14, .bool (repR (rk) (er) th lj (blankB pv ep (kd) l ls bl tg) (decide (mayN pv ep (kd) l ls bl = 0)) nha nhb)) :: _) [_]
 refine AA (.bool (!(repR (rk) (er) th lj (blankB pv ep (kd) l ls bl tg) (decide (mayN pv ep (kd) l ls bl = 0)) nha nhb))) (EP rfl) rfl ?_
 refine AN (AF (CO _ rfl (bnotF hR) ?_))
 refine AK (AD (AA (.iface 50 (I64 2)) (Ev_iface Tryd.underlying50 rfl rfl) rfl ?_))
 refine AA _ (AH rfl) rfl ?_
 refine AA _ (AH rfl) rfl ?_
 refine AN (AF (BK (A1 (BP [false] ?_))))
 show JQ _ _ _ _ []
 refine BJ (.tuple #[SL none 0 0, .iface 50 (I64 2)]) (res2 Tryd.results34 (BH rfl) (BH rfl)) fun w1 hw1 => ?_
 exact ⟨_, [], rfl, ⟨rfl, rfl⟩, hw1.sub (by simp) (by simp)⟩
end Go.Proofs.YtkdpdgpphpngeaaDoor
