import Derived.Test.YtkdpdgpphpngeaaDoorPkW2
set_option linter.unusedVariables false
set_option linter.unusedSimpArgs false
set_option maxRecDepth 100000
namespace Go.Proofs.YtkdpdgpphpngeaaDoor
open Go Go.Sx
open Go.Value renaming slice → SL
attribute [local irreducible] mid zr8 numK valK constL initL putL RightB
theorem put7_c (e : UInt64) (d t : List UInt8) (w : World) (hd : d.length = 32) (ht : t.length = 16) : Calls Tryd.prog 97 #[.agg ([U64 e] ++ cu8 d ++ cu8 t).toArray] w (Post w [] (fun v L => ∃ g sp cap, v = Slc g 0 56 cap ∧ L = [⟨g, cu8 (putL e d t) ++ sp, 5, (0, 0)⟩] ∧ sp.length = cap - 56 ∧ 56 ≤ cap ∧ cap ≤ maxLen)) := by
 have hmx : maxLen = 9223372036854775807 := rfl
 refine enter (P := Tryd.prog) (f := 97) (fn := Tryd.f97) w [] 25 [] [.agg ([U64 e] ++ cu8 d ++ cu8 t).toArray] Tryd.func97 rfl rfl (by simp) (BW (by simp) (by simp) (by simp)) ?_
 show JC _ _ _ [(0, .agg ([U64 e] ++ cu8 d ++ cu8 t).toArray)] _
 refine AH (AB (A4 (C5 (.agg ([U64 e] ++ cu8 d ++ cu8 t).toArray) ([U64 e] ++ cu8 d ++ cu8 t) rfl (by first | rfl | simp)) rfl ?_))
 rintro v1 L1 ⟨nb1, hnb1, rfl, rfl⟩
 show JL _ _ _ _ ((1, Ptr nb1 0) :: _) [⟨nb1, [U64 e] ++ cu8 d ++ cu8 t, 161, (0, 0)⟩]
 refine AA _ (AE rfl) rfl ?_
 refine AI (AC (AH (AB (AA (.agg #[.nilIface, SL none 0 0]) (CP [] _ rfl (fun _ => by kernel_rfl)) rfl ?_))))
 refine A4 (C5 (.agg #[.nilIface, SL none 0 0]) ([.nilIface, SL none 0 0]) rfl (by first | rfl | simp)) rfl ?_
 rintro v1 L1 ⟨nb2, hnb2, rfl, rfl⟩
 show JL _ _ _ _ ((7, Ptr nb2 0) :: _) [_, ⟨nb2, [.nilIface, SL none 0 0], 149, (0, 0)⟩]
 refine AA _ (AE rfl) rfl ?_
 refine AI (AC (AH (DC 25 5 [(0, Ptr nb2 0), (1, Ptr nb1 0), (2, U64 e), (4, Ptr nb1 1), (5, Slc nb1 1 32 32), (7, Ptr nb1 33), (8, Slc nb1 33 16 16)] CA rfl (by decide +kernel) ?_)))
 refine CW ⟨[], [0, 1, 2, 4, 5, 7, 8], [], [0, 1, 2, 4, 5, 7, 8], [3]⟩ 3 _ rfl rfl (by decide +kernel) rfl ⟨CG rfl rfl rfl, ⟨_, rfl, AL rfl (AD 0 22 1 CN rfl A9 rfl rfl)⟩, ⟨_, rfl, AL rfl (AO rfl (A0 BN (AU 0 rfl (AJ (AJ (Seg.head))))))⟩, ⟨_, rfl, AL rfl (AD 1 159 32 CN rfl Tryd.sizeOf159 rfl rfl)⟩, ⟨_, rfl, AL rfl (DF 32 5 1 0 32 1 32 Tryd.underlying159 BZ rfl rfl rfl (by omega) (by omega) (by omega) (by omega) (by omega) 32 (by omega))⟩, ⟨_, rfl, AL rfl (AD 33 27 16 CN rfl CI rfl rfl)⟩, ⟨_, rfl, AL rfl (DF 16 5 1 0 16 33 16 CF BZ rfl rfl rfl (by omega) (by omega) (by omega) (by omega) (by omega) 16 (by omega))⟩, trivial⟩ rfl (BO rfl (A8 81 _ [false, true] [nb2] _ (AS [Ptr nb2 0, U64 e, I64 8] B0 rfl) rfl (fun w1 hw1 => numN_c nb2 8 .nilIface e 8 w1 (hw1.ent _ (List.mem_of_getElem? (i := 1) rfl)) (by unfold Szd; omega) (fun h => absurd h (by omega)) (by omega)))) ?_
 rintro v1 L1 ⟨_, ⟨rfl, nb3, sp1, cp1, rfl, hc1, hc2, hc3⟩, rfl⟩
 refine ⟨[], ?_⟩
 show DP _ _ _ _ _ _ _ _ [_, ⟨nb2, [.nilIface, Slc nb3 0 8 cp1], 149, (0, 0)⟩, ⟨nb3, cu8 (numK 8 e 8) ++ sp1, 5, (0, 0)⟩]
 refine CW ⟨[3], [0, 1, 2, 4, 5, 7, 8], [0, 1, 2], [4, 5, 7, 8], [6]⟩ 6 _ rfl rfl (by decide +kernel) rfl ⟨⟨_, rfl, AL rfl (AD 1 159 32 CN rfl Tryd.sizeOf159 rfl rfl)⟩, ⟨_, rfl, AL rfl (DF 32 5 1 0 32 1 32 Tryd.underlying159 BZ rfl rfl rfl (by omega) (by omega) (by omega) (by omega) (by omega) 32 (by omega))⟩, ⟨_, rfl, AL rfl (AD 33 27 16 CN rfl CI rfl rfl)⟩, ⟨_, rfl, AL rfl (DF 16 5 1 0 16 33 16 CF BZ rfl rfl rfl (by omega) (by omega) (by omega) (by omega) (by omega) 16 (by omega))⟩, trivial⟩ rfl (BO rfl (A8 82 _ [false, true, true] [nb2, nb3] _ (AS [Ptr nb2 0, Slc nb1 1 32 32] Tryd.call82 rfl) rfl (fun w1 hw1 => rawO_c nb2 nb3 8 cp1 40 .nilIface (numK 8 e 8) sp1 (some ⟨nb1, 1, none⟩) 32 32 d w1 (hw1.ent _ (List.mem_of_getElem? (i := 1) rfl)) (hw1.ent _ (List.mem_of_getElem? (i := 2) rfl)) (hw1.ne (i := 1) (j := 2) rfl rfl (by decide)) (show (numK 8 e 8).length = 8 from (A5 _ _ _)) hc1 hc2 hc3 (by omega) hd (by omega) (RdB.of hw1 (AU 0 rfl (AJ (Seg.right 1 0 rfl rfl (AQ _)))) (by intro _; simp only [List.mem_cons, List.not_mem_nil, or_false, not_or]; exact ⟨hw1.ne (i := 0) (j := 1) rfl rfl (by decide), hw1.ne (i := 0) (j := 2) rfl rfl (by decide)⟩)) (by omega)))) ?_
 rintro v1 L1 ⟨_, ⟨rfl, nb4, sp2, cp2, rfl, hc4, hc5, hc6⟩, rfl⟩
 refine ⟨[], ?_⟩
 show DP _ _ _ _ _ _ _ _ [_, ⟨nb2, [.nilIface, Slc nb4 0 40 cp2], 149, (0, 0)⟩, ⟨nb4, cu8 ((numK 8 e 8) ++ d) ++ sp2, 5, (0, 0)⟩]
 refine CW ⟨[3, 6], [0, 1, 2, 4, 5, 7, 8], [0, 1, 2, 4, 5], [7, 8], [9]⟩ 9 _ rfl rfl (by decide +kernel) rfl ⟨⟨_, rfl, AL rfl (AD 33 27 16 CN rfl CI rfl rfl)⟩, ⟨_, rfl, AL rfl (DF 16 5 1 0 16 33 16 CF BZ rfl rfl rfl (by omega) (by omega) (by omega) (by omega) (by omega) 16 (by omega))⟩, trivial⟩ rfl (BO rfl (A8 82 _ [false, true, true] [nb2, nb4] _ (AS [Ptr nb2 0, Slc nb1 33 16 16] Tryd.call82 rfl) rfl (fun w1 hw1 => rawO_c nb2 nb4 40 cp2 56 .nilIface ((numK 8 e 8) ++ d) sp2 (some ⟨nb1, 33, none⟩) 16 16 t w1 (hw1.ent _ (List.mem_of_getElem? (i := 1) rfl)) (hw1.ent _ (List.mem_of_getElem? (i := 2) rfl)) (hw1.ne (i := 1) (j := 2) rfl rfl (by decide)) (show ((numK 8 e 8) ++ d).length = 40 from (by rw [List.length_append, (show (numK 8 e 8).length = 8 from (A5 _ _ _)), hd] <;> omega)) hc4 hc5 hc6 (by omega) ht (by omega) (RdB.of hw1 (AU 0 rfl (Seg.right 33 0 (by simp [hd]) rfl (AQ _))) (by intro _; simp only [List.mem_cons, List.not_mem_nil, or_false, not_or]; exact ⟨hw1.ne (i := 0) (j := 1) rfl rfl (by decide), hw1.ne (i := 0) (j := 2) rfl rfl (by decide)⟩)) (by omega)))) ?_
 rintro v1 L1 ⟨_, ⟨rfl, nb5, sp3, cp3, rfl, hc7, hc8, hc9⟩, rfl⟩
 refine ⟨[], ?_⟩
 show DP _ _ _ _ _ _ _ _ [_, ⟨nb2, [.nilIface, Slc nb5 0 56 cp3], 149, (0, 0)⟩, ⟨nb5, cu8 (((numK 8 e 8) ++ d) ++ t) ++ sp3, 5, (0, 0)⟩]
 refine CW ⟨[3, 6, 9], [0, 1, 2, 4, 5, 7, 8], [0, 1, 2, 4, 5, 7, 8], [], [10]⟩ 10 _ rfl rfl (by decide +kernel) rfl trivial rfl (BO rfl (CZ 83 [Ptr nb2 0] _ (AS _ EQ rfl) (fun w1 hw1 => FJ nb2 0 nb5 56 cp3 (((numK 8 e 8) ++ d) ++ t) w1 (RdA.of hw1 (AU 1 rfl (AQ _)) (by simp)) rfl (show (((numK 8 e 8) ++ d) ++ t).length = 56 from (by rw [List.length_append, (show ((numK 8 e 8) ++ d).length = 40 from (by rw [List.length_append, (show (numK 8 e 8).length = 8 from (A5 _ _ _)), hd] <;> omega)), ht] <;> omega)) (by omega) (RdB.of hw1 (AU 2 rfl (AJ (AQ _))) (by simp))))) ?_
 rintro v1 L1 ⟨_, ⟨nb6, sp4, cp4, rfl, rfl, hc10, hc11, hc12⟩, rfl⟩
 refine ⟨[(11, .tuple #[Slc nb6 0 56 cp4, .nilIface]), (12, Slc nb6 0 56 cp4), (13, .nilIface), (14, Slc nb6 0 56 cp4), (15, .nilIface)], ?_⟩
 show DP _ _ _ _ _ _ _ _ [_, _, _, ⟨nb6, cu8 (((numK 8 e 8) ++ d) ++ t) ++ sp4, 5, (0, 0)⟩]
 refine DU ⟨[3, 6, 9, 10], [0, 1, 2, 4, 5, 7, 8, 11, 12, 13, 14, 15], [0, 1, 2, 4, 5, 7, 8], [11, 12, 13, 14, 15], []⟩ rfl rfl (by decide +kernel) rfl ⟨CG rfl rfl rfl, ⟨_, rfl, AL rfl (BE rfl rfl)⟩, ⟨_, rfl, AL rfl (BE rfl rfl)⟩, ⟨_, rfl, AL rfl (AE rfl)⟩, ⟨_, rfl, AL rfl (AE rfl)⟩, trivial⟩ ?_
 refine C6 (F' := [(4, Slc nb6 0 56 cp4), (5, .nilIface), (2, SL none 0 0)]) (by kernel_rfl) ?_
 refine AC (AH (AH (AB (AA _ (AF rfl) rfl ?_))))
 refine AA (.bool false) (C7 _ _ _ rfl rfl (fun _ => FB ..) fun _ => E3 BB) rfl ?_
 refine AI (AC (BP _ rfl rfl ?_))
 refine BF (AC (AH (AB (AA _ (AF rfl) rfl ?_))))
 refine AA _ (AE rfl) rfl ?_
 refine AI (AC (BI (B4 [false, false, false, true] ?_)))
 show JQ _ _ _ _ [_]
 refine BH (Slc nb6 0 56 cp4) (res1 Tryd.results97 (BC rfl)) fun w1 hw1 => ?_
 have hq : ((numK 8 e 8) ++ d) ++ t = putL e d t := by rw [putL]
 rw [hq] at hw1
 exact ⟨_, _, rfl, ⟨nb6, sp4, cp4, rfl, rfl, hc10, hc11, hc12⟩, hw1.sub (by simp) (by simp)⟩
theorem text3_c (pv ep : UInt64) (k : Nat) (ai : Option Addr) (ni ci : Nat) (l : List UInt64) (sa : Option Addr) (ns sc : Nat) (ls : List SealR) (bl : UInt64) (tg : List UInt8)  (w : World) (hl : l.length = ni) (hnm : ni ≤ 2000000) (hnc : ni ≤ ci) (hcm : ci ≤ maxLen) (hv : RdV w ai (cu64 l)) (hls : ls.length = ns) (hnn : ns ≤ 2000000) (hnd : ns ≤ sc) (hcn : sc ≤ maxLen) (hs : RdV w sa (ls.flatMap sealC)) (htg : tg.length = 16) (hmay : mayN pv ep (k:Int) l ls bl = 0) (hk : k = 3)  : Calls Tryd.prog 114 #[.agg ([U64 pv, U64 ep, I64 k, SL ai ni ci, SL sa ns sc, U64 bl] ++ cu8 tg).toArray] w (Post w [] (fun v L => ∃ g sp cap, v = .tuple #[Slc g 0 25 cap, .nilIface] ∧ L = [⟨g, cu8 (tktT pv ep k l ls bl) ++ sp, 5, (0, 0)⟩] ∧ sp.length = cap - 25 ∧ 25 ≤ cap ∧ cap ≤ maxLen)) := by
 have hmx : maxLen = 9223372036854775807 := rfl
 refine enter (P := Tryd.prog) (f := 114) (fn := Tryd.f114) w [] 75 [] [.agg ([U64 pv, U64 ep, I64 k, SL ai ni ci, SL sa ns sc, U64 bl] ++ cu8 tg).toArray] Tryd.func114 rfl rfl (by simp) (BW (by simp) (by simp) (by simp)) ?_
 show JC _ _ _ [(0, .agg ([U64 pv, U64 ep, I64 k, SL ai ni ci, SL sa ns sc, U64 bl] ++ cu8 tg).toArray)] _
 refine AH (AB (A4 (C5 (.agg ([U64 pv, U64 ep, I64 k, SL ai ni ci, SL sa ns sc, U64 bl] ++ cu8 tg).toArray) ([U64 pv, U64 ep, I64 k, SL ai ni ci, SL sa ns sc, U64 bl] ++ cu8 tg) rfl (by first | rfl | simp)) rfl ?_))
 rintro v1 L1 ⟨nb1, hnb1, rfl, rfl⟩
 show JL _ _ _ _ ((1, Ptr nb1 0) :: _) [⟨nb1, [U64 pv, U64 ep, I64 k, SL ai ni ci, SL sa ns sc, U64 bl] ++ cu8 tg, 29, (0, 0)⟩]
 refine AA _ (AE rfl) rfl ?_
 refine AA _ (AE rfl) rfl ?_
 refine AI (AC (AH (AH (AB (AA (.agg ([U64 pv, U64 ep, I64 k, SL ai ni ci, SL sa ns sc, U64 bl] ++ cu8 tg).toArray) (AO rfl (BU B7 BG (by simp [htg]) (AU 0 rfl (AQ _)))) rfl ?_)))))
 refine A7 (A2 128 [.agg ([U64 pv, U64 ep, I64 k, SL ai ni ci, SL sa ns sc, U64 bl] ++ cu8 tg).toArray] (errV 50 (mayN pv ep ((k:Int)) l ls bl)) (AS _ Tryd.call128 rfl) (fun w1 hw1 => may13_c pv ep ((k:Int)) ai ni ci l sa ns sc ls bl tg w1 hl (by omega) (by omega) (by omega) (C2 hw1 rfl hv) hls (by omega) (by omega) (by omega) (C2 hw1 rfl hs) htg)) rfl ?_
 show JL _ _ _ _ ((12, errV 50 (mayN pv ep ((k:Int)) l ls bl)) :: _) [_]
 refine AA _ (AE rfl) rfl ?_
 refine AI (AC (AH (AB (AA _ (AF rfl) rfl ?_))))
 refine AA (.bool (!(decide (mayN pv ep ((k:Int)) l ls bl = 0)))) (C7 _ _ _ rfl rfl (fun _ => B6 ..) fun _ => DJ BB _ _) rfl ?_
 refine AI (AC (BP _ rfl (by rw [show (decide (mayN pv ep ((k:Int)) l ls bl = 0)) = true from (decide_eq_true hmay)] <;> rfl) ?_))
 refine BF (AC (AH (AB (AA (Ptr nb1 2) (AD 2 26 4 AV rfl BL rfl rfl) rfl ?_))))
 refine AA (.agg #[I64 k, SL ai ni ci, SL sa ns sc, U64 bl]) (AO rfl (BU EK BL rfl (AU 0 rfl (D6 (p := [U64 pv, U64 ep]) (q := cu8 tg) (vs := [I64 k, SL ai ni ci, SL sa ns sc, U64 bl]) (by first | rfl | (simp only [List.append_assoc, List.nil_append, List.append_nil, List.cons_append]; done)) rfl)))) rfl ?_
 refine A4 (C0 _ ([I64 0, SL none 0 0, SL none 0 0, U64 0]) Tryd.zeroValue26 (by kernel_rfl)) rfl ?_
 rintro v1 L1 ⟨nb2, hnb2, rfl, rfl⟩
 show JL _ _ _ _ ((5, Ptr nb2 0) :: _) [_, ⟨nb2, [I64 0, SL none 0 0, SL none 0 0, U64 0], 26, (0, 0)⟩]
 refine A7 (BQ 1 nb2 4 ([I64 0, SL none 0 0, SL none 0 0, U64 0]) 26 ([I64 k, SL ai ni ci, SL sa ns sc, U64 bl]) rfl rfl rfl BL rfl (by simp [Value.oneCell']) (Nat.le_of_ble_eq_true rfl) (BT (by simp []))) rfl ?_
 show JL _ _ _ _ _ [_, ⟨nb2, [I64 k, SL ai ni ci, SL sa ns sc, U64 bl], 26, (0, 0)⟩]
 refine AI (AC (AH (AB (AA (.agg #[.nilIface, SL none 0 0]) (CP [] _ rfl (fun _ => by kernel_rfl)) rfl ?_))))
 refine A4 (C5 (.agg #[.nilIface, SL none 0 0]) ([.nilIface, SL none 0 0]) rfl (by first | rfl | simp)) rfl ?_
 rintro v1 L1 ⟨nb3, hnb3, rfl, rfl⟩
 show JL _ _ _ _ ((19, Ptr nb3 0) :: _) [_, _, ⟨nb3, [.nilIface, SL none 0 0], 149, (0, 0)⟩]
 refine AA _ (AE rfl) rfl ?_
 refine AI (AC (AH (DC 75 4 [(0, Ptr nb3 0), (1, Ptr nb1 0), (2, U64 pv), (4, Ptr nb1 1), (5, U64 ep), (7, Ptr nb2 0), (8, I64 k), (9, U64 (UInt64.ofNat k))] CA rfl (by decide +kernel) ?_)))
 refine CW ⟨[], [0, 1, 2, 4, 5, 7, 8, 9], [], [0, 1, 2, 4, 5, 7, 8, 9], [3]⟩ 3 _ rfl rfl (by decide +kernel) rfl ⟨CG rfl rfl rfl, ⟨_, rfl, AL rfl (AD 0 22 1 AV rfl A9 rfl rfl)⟩, ⟨_, rfl, AL rfl (AO rfl (A0 BN (AU 0 rfl (AJ (Seg.head)))))⟩, ⟨_, rfl, AL rfl (AD 1 22 1 AV rfl A9 rfl rfl)⟩, ⟨_, rfl, AL rfl (AO rfl (A0 BN (AU 0 rfl (AJ (AK (Seg.head))))))⟩, ⟨_, rfl, AL rfl (AD 0 3 1 AZ rfl AT rfl rfl)⟩, ⟨_, rfl, AL rfl (AO rfl (A0 AY (AU 1 rfl (Seg.head))))⟩, ⟨_, rfl, AL rfl (CM _ _ rfl fun _ => DW (by rw [A6]; rfl) AW k _ (by omega))⟩, trivial⟩ rfl (BO rfl (A8 81 _ [false, false, true] [nb3] _ (AS [Ptr nb3 0, U64 pv, I64 8] B0 rfl) rfl (fun w1 hw1 => numN_c nb3 8 .nilIface pv 8 w1 (hw1.ent _ (List.mem_of_getElem? (i := 2) rfl)) (by unfold Szd; omega) (fun h => absurd h (by omega)) (by omega)))) ?_
 rintro v1 L1 ⟨_, ⟨rfl, nb4, sp1, cp1, rfl, hc1, hc2, hc3⟩, rfl⟩
 refine ⟨[], ?_⟩
 show DP _ _ _ _ _ _ _ _ [_, _, ⟨nb3, [.nilIface, Slc nb4 0 8 cp1], 149, (0, 0)⟩, ⟨nb4, cu8 (numK 8 pv 8) ++ sp1, 5, (0, 0)⟩]
 refine CW ⟨[3], [0, 1, 2, 4, 5, 7, 8, 9], [0, 1, 2], [4, 5, 7, 8, 9], [6]⟩ 6 _ rfl rfl (by decide +kernel) rfl ⟨⟨_, rfl, AL rfl (AD 1 22 1 AV rfl A9 rfl rfl)⟩, ⟨_, rfl, AL rfl (AO rfl (A0 BN (AU 0 rfl (AJ (AK (Seg.head))))))⟩, ⟨_, rfl, AL rfl (AD 0 3 1 AZ rfl AT rfl rfl)⟩, ⟨_, rfl, AL rfl (AO rfl (A0 AY (AU 1 rfl (Seg.head))))⟩, ⟨_, rfl, AL rfl (CM _ _ rfl fun _ => DW (by rw [A6]; rfl) AW k _ (by omega))⟩, trivial⟩ rfl (BO rfl (A8 81 _ [false, false, true, true] [nb3, nb4] _ (AS [Ptr nb3 0, U64 ep, I64 8] B0 rfl) rfl (fun w1 hw1 => EO nb3 nb4 8 cp1 16 .nilIface (numK 8 pv 8) sp1 ep 8 w1 (hw1.ent _ (List.mem_of_getElem? (i := 2) rfl)) (hw1.ent _ (List.mem_of_getElem? (i := 3) rfl)) (hw1.ne (i := 2) (j := 3) rfl rfl (by decide)) (show (numK 8 pv 8).length = 8 from (A5 _ _ _)) hc1 hc2 hc3 (by omega) (by unfold Szd; omega) (fun h => absurd h (by omega)) (by omega)))) ?_
 rintro v1 L1 ⟨_, ⟨rfl, nb5, sp2, cp2, rfl, hc4, hc5, hc6⟩, rfl⟩
 refine ⟨[], ?_⟩
 show DP _ _ _ _ _ _ _ _ [_, _, ⟨nb3, [.nilIface, Slc nb5 0 16 cp2], 149, (0, 0)⟩, ⟨nb5, cu8 ((numK 8 pv 8) ++ numK 8 ep 8) ++ sp2, 5, (0, 0)⟩]
 refine CW ⟨[3, 6], [0, 1, 2, 4, 5, 7, 8, 9], [0, 1, 2, 4, 5], [7, 8, 9], [10]⟩ 10 _ rfl rfl (by decide +kernel) rfl ⟨⟨_, rfl, AL rfl (AD 0 3 1 AZ rfl AT rfl rfl)⟩, ⟨_, rfl, AL rfl (AO rfl (A0 AY (AU 1 rfl (Seg.head))))⟩, ⟨_, rfl, AL rfl (CM _ _ rfl fun _ => DW (by rw [A6]; rfl) AW k _ (by omega))⟩, trivial⟩ rfl (BO rfl (A8 81 _ [false, false, true, true] [nb3, nb5] _ (AS [Ptr nb3 0, U64 (UInt64.ofNat k), I64 1] B0 rfl) rfl (fun w1 hw1 => EO nb3 nb5 16 cp2 17 .nilIface ((numK 8 pv 8) ++ numK 8 ep 8) sp2 (UInt64.ofNat k) 1 w1 (hw1.ent _ (List.mem_of_getElem? (i := 2) rfl)) (hw1.ent _ (List.mem_of_getElem? (i := 3) rfl)) (hw1.ne (i := 2) (j := 3) rfl rfl (by decide)) (show ((numK 8 pv 8) ++ numK 8 ep 8).length = 16 from (by rw [List.length_append, (show (numK 8 pv 8).length = 8 from (A5 _ _ _)), A5] <;> omega)) hc4 hc5 hc6 (by omega) (by unfold Szd; omega) (fun _ => shr8n (by omega)) (by omega)))) ?_
 rintro v1 L1 ⟨_, ⟨rfl, nb6, sp3, cp3, rfl, hc7, hc8, hc9⟩, rfl⟩
 refine ⟨[], ?_⟩
 show DP _ _ _ _ _ _ _ _ [_, _, ⟨nb3, [.nilIface, Slc nb6 0 17 cp3], 149, (0, 0)⟩, ⟨nb6, cu8 (((numK 8 pv 8) ++ numK 8 ep 8) ++ numK 1 (UInt64.ofNat k) 1) ++ sp3, 5, (0, 0)⟩]
 refine DU ⟨[3, 6, 10], [0, 1, 2, 4, 5, 7, 8, 9], [0, 1, 2, 4, 5, 7, 8, 9], [], []⟩ rfl rfl (by decide +kernel) rfl trivial ?_
 refine C6 (F' := [(2, SL none 0 0), (3, .nilIface), (5, Ptr nb2 0), (6, Ptr nb3 0)]) (by kernel_rfl) ?_
 refine AC (AH (AH (AB (AA (Ptr nb2 0) (AD 0 3 1 AZ rfl AT rfl rfl) rfl ?_))))
 refine AA (I64 k) (AO rfl (A0 AY (AU 1 rfl (Seg.head)))) rfl ?_
 refine AA (.bool (decide (((k:Int)) = (3:Int)))) (AR rfl rfl fun _ => BK _ _) rfl ?_
 refine AI (AC (B3 _ rfl (decide_eq_true (by omega)) ?_))
 refine AH (AB (AA _ (AF rfl) rfl ?_))
 refine AA (Ptr nb2 3) (AD 3 22 1 AZ rfl A9 rfl rfl) rfl ?_
 refine AA (U64 bl) (AO rfl (A0 BN (AU 1 rfl (AK (AK (AK (Seg.head))))))) rfl ?_
 refine A4 (A8 81 _ [false, false, true, true] [nb3, nb6] _ (AS [Ptr nb3 0, U64 bl, I64 8] B0 rfl) rfl (fun w1 hw1 => EO nb3 nb6 17 cp3 25 .nilIface (((numK 8 pv 8) ++ numK 8 ep 8) ++ numK 1 (UInt64.ofNat k) 1) sp3 bl 8 w1 (hw1.ent _ (List.mem_of_getElem? (i := 2) rfl)) (hw1.ent _ (List.mem_of_getElem? (i := 3) rfl)) (hw1.ne (i := 2) (j := 3) rfl rfl (by decide)) (show (((numK 8 pv 8) ++ numK 8 ep 8) ++ numK 1 (UInt64.ofNat k) 1).length = 17 from (by rw [List.length_append, (show ((numK 8 pv 8) ++ numK 8 ep 8).length = 16 from (by rw [List.length_append, (show (numK 8 pv 8).length = 8 from (A5 _ _ _)), A5] <;> omega)), A5] <;> omega)) hc7 hc8 hc9 (by omega) (by unfold Szd; omega) (fun h => absurd h (by omega)) (by omega))) rfl ?_
 rintro v1 L1 ⟨_, ⟨rfl, nb7, sp4, cp4, rfl, hc10, hc11, hc12⟩, rfl⟩
 show JL _ _ _ _ ((37, Ptr nb3 0) :: _) [_, _, ⟨nb3, [.nilIface, Slc nb7 0 25 cp4], 149, (0, 0)⟩, ⟨nb7, cu8 ((((numK 8 pv 8) ++ numK 8 ep 8) ++ numK 1 (UInt64.ofNat k) 1) ++ numK 8 bl 8) ++ sp4, 5, (0, 0)⟩]
 refine A4 (CZ 83 [Ptr nb3 0] _ (AS _ EQ rfl) (fun w1 hw1 => FJ nb3 0 nb7 25 cp4 ((((numK 8 pv 8) ++ numK 8 ep 8) ++ numK 1 (UInt64.ofNat k) 1) ++ numK 8 bl 8) w1 (RdA.of hw1 (AU 2 rfl (AQ _)) (by simp)) rfl (show ((((numK 8 pv 8) ++ numK 8 ep 8) ++ numK 1 (UInt64.ofNat k) 1) ++ numK 8 bl 8).length = 25 from (by rw [List.length_append, (show (((numK 8 pv 8) ++ numK 8 ep 8) ++ numK 1 (UInt64.ofNat k) 1).length = 17 from (by rw [List.length_append, (show ((numK 8 pv 8) ++ numK 8 ep 8).length = 16 from (by rw [List.length_append, (show (numK 8 pv 8).length = 8 from (A5 _ _ _)), A5] <;> omega)), A5] <;> omega)), A5] <;> omega)) (by omega) (RdB.of hw1 (AU 3 rfl (AJ (AQ _))) (by simp)))) rfl ?_
 rintro v1 L1 ⟨_, ⟨nb8, sp5, cp5, rfl, rfl, hc13, hc14, hc15⟩, rfl⟩
 show JL _ _ _ _ ((38, .tuple #[Slc nb8 0 25 cp5, .nilIface]) :: _) [_, _, _, _, ⟨nb8, cu8 ((((numK 8 pv 8) ++ numK 8 ep 8) ++ numK 1 (UInt64.ofNat k) 1) ++ numK 8 bl 8) ++ sp5, 5, (0, 0)⟩]
 refine AA _ (BE rfl rfl) rfl ?_
 refine AA _ (BE rfl rfl) rfl ?_
 refine AA _ (AE rfl) rfl ?_
 refine AA _ (AE rfl) rfl ?_
 refine AI (AC (BI (A1 (B4 [false, false, false, false, true] ?_))))
 show JQ _ _ _ _ [_]
 refine BH (.tuple #[Slc nb8 0 25 cp5, .nilIface]) (res2 Tryd.results114 (BC rfl) (BC rfl)) fun w1 hw1 => ?_
 have hq : (((numK 8 pv 8) ++ numK 8 ep 8) ++ numK 1 (UInt64.ofNat k) 1) ++ numK 8 bl 8 = tktT pv ep k l ls bl := by
  unfold tktT
  rw [if_pos hk]
 rw [hq] at hw1
 exact ⟨_, _, rfl, ⟨nb8, sp5, cp5, rfl, rfl, hc13, hc14, hc15⟩, hw1.sub (by simp) (by simp)⟩
theorem text12_c (pv ep : UInt64) (k : Nat) (ai : Option Addr) (ni ci : Nat) (l : List UInt64) (sa : Option Addr) (ns sc : Nat) (ls : List SealR) (bl : UInt64) (tg : List UInt8) (tot : Nat)  (w : World) (hl : l.length = ni) (hnm : ni ≤ 2000000) (hnc : ni ≤ ci) (hcm : ci ≤ maxLen) (hv : RdV w ai (cu64 l)) (hls : ls.length = ns) (hnn : ns ≤ 2000000) (hnd : ns ≤ sc) (hcn : sc ≤ maxLen) (hs : RdV w sa (ls.flatMap sealC)) (htg : tg.length = 16) (hmay : mayN pv ep (k:Int) l ls bl = 0) (hk : k = 1 ∨ k = 2) (hsm : ns ≤ 300) (htot : 18 + 4*ni + 56*ns = tot)  : Calls Tryd.prog 114 #[.agg ([U64 pv, U64 ep, I64 k, SL ai ni ci, SL sa ns sc, U64 bl] ++ cu8 tg).toArray] w (Post w [] (fun v L => ∃ g sp cap, v = .tuple #[Slc g 0 tot cap, .nilIface] ∧ L = [⟨g, cu8 (tktT pv ep k l ls bl) ++ sp, 5, (0, 0)⟩] ∧ sp.length = cap - tot ∧ tot ≤ cap ∧ cap ≤ maxLen)) := by
 have hmx : maxLen = 9223372036854775807 := rfl
 have hRO := mayN_right hmay
 have hRI := RightO_idx hRO (by omega)
 have hRp := RightI_pos hRI
 rw [hl] at hRp
 refine enter (P := Tryd.prog) (f := 114) (fn := Tryd.f114) w [] 75 [] [.agg ([U64 pv, U64 ep, I64 k, SL ai ni ci, SL sa ns sc, U64 bl] ++ cu8 tg).toArray] Tryd.func114 rfl rfl (by simp) (BW (by simp) (by simp) (by simp)) ?_
 show JC _ _ _ [(0, .agg ([U64 pv, U64 ep, I64 k, SL ai ni ci, SL sa ns sc, U64 bl] ++ cu8 tg).toArray)] _
 refine AH (AB (A4 (C5 (.agg ([U64 pv, U64 ep, I64 k, SL ai ni ci, SL sa ns sc, U64 bl] ++ cu8 tg).toArray) ([U64 pv, U64 ep, I64 k, SL ai ni ci, SL sa ns sc, U64 bl] ++ cu8 tg) rfl (by first | rfl | simp)) rfl ?_))
 rintro v1 L1 ⟨nb1, hnb1, rfl, rfl⟩
 show JL _ _ _ _ ((1, Ptr nb1 0) :: _) [⟨nb1, [U64 pv, U64 ep, I64 k, SL ai ni ci, SL sa ns sc, U64 bl] ++ cu8 tg, 29, (0, 0)⟩]
 refine AA _ (AE rfl) rfl ?_
 refine AA _ (AE rfl) rfl ?_
 refine AI (AC (AH (AH (AB (AA (.agg ([U64 pv, U64 ep, I64 k, SL ai ni ci, SL sa ns sc, U64 bl] ++ cu8 tg).toArray) (AO rfl (BU B7 BG (by simp [htg]) (AU 0 rfl (AQ _)))) rfl ?_)))))
 refine A7 (A2 128 [.agg ([U64 pv, U64 ep, I64 k, SL ai ni ci, SL sa ns sc, U64 bl] ++ cu8 tg).toArray] (errV 50 (mayN pv ep ((k:Int)) l ls bl)) (AS _ Tryd.call128 rfl) (fun w1 hw1 => may13_c pv ep ((k:Int)) ai ni ci l sa ns sc ls bl tg w1 hl (by omega) (by omega) (by omega) (C2 hw1 rfl hv) hls (by omega) (by omega) (by omega) (C2 hw1 rfl hs) htg)) rfl ?_
 show JL _ _ _ _ ((12, errV 50 (mayN pv ep ((k:Int)) l ls bl)) :: _) [_]
 refine AA _ (AE rfl) rfl ?_
 refine AI (AC (AH (AB (AA _ (AF rfl) rfl ?_))))
 refine AA (.bool (!(decide (mayN pv ep ((k:Int)) l ls bl = 0)))) (C7 _ _ _ rfl rfl (fun _ => B6 ..) fun _ => DJ BB _ _) rfl ?_
 refine AI (AC (BP _ rfl (by rw [show (decide (mayN pv ep ((k:Int)) l ls bl = 0)) = true from (decide_eq_true hmay)] <;> rfl) ?_))
 refine BF (AC (AH (AB (AA (Ptr nb1 2) (AD 2 26 4 AV rfl BL rfl rfl) rfl ?_))))
 refine AA (.agg #[I64 k, SL ai ni ci, SL sa ns sc, U64 bl]) (AO rfl (BU EK BL rfl (AU 0 rfl (D6 (p := [U64 pv, U64 ep]) (q := cu8 tg) (vs := [I64 k, SL ai ni ci, SL sa ns sc, U64 bl]) (by first | rfl | (simp only [List.append_assoc, List.nil_append, List.append_nil, List.cons_append]; done)) rfl)))) rfl ?_
 refine A4 (C0 _ ([I64 0, SL none 0 0, SL none 0 0, U64 0]) Tryd.zeroValue26 (by kernel_rfl)) rfl ?_
 rintro v1 L1 ⟨nb2, hnb2, rfl, rfl⟩
 show JL _ _ _ _ ((5, Ptr nb2 0) :: _) [_, ⟨nb2, [I64 0, SL none 0 0, SL none 0 0, U64 0], 26, (0, 0)⟩]
 refine A7 (BQ 1 nb2 4 ([I64 0, SL none 0 0, SL none 0 0, U64 0]) 26 ([I64 k, SL ai ni ci, SL sa ns sc, U64 bl]) rfl rfl rfl BL rfl (by simp [Value.oneCell']) (Nat.le_of_ble_eq_true rfl) (BT (by simp []))) rfl ?_
 show JL _ _ _ _ _ [_, ⟨nb2, [I64 k, SL ai ni ci, SL sa ns sc, U64 bl], 26, (0, 0)⟩]
 refine AI (AC (AH (AB (AA (.agg #[.nilIface, SL none 0 0]) (CP [] _ rfl (fun _ => by kernel_rfl)) rfl ?_))))
 refine A4 (C5 (.agg #[.nilIface, SL none 0 0]) ([.nilIface, SL none 0 0]) rfl (by first | rfl | simp)) rfl ?_
 rintro v1 L1 ⟨nb3, hnb3, rfl, rfl⟩
 show JL _ _ _ _ ((19, Ptr nb3 0) :: _) [_, _, ⟨nb3, [.nilIface, SL none 0 0], 149, (0, 0)⟩]
 refine AA _ (AE rfl) rfl ?_
 refine AI (AC (AH (DC 75 4 [(0, Ptr nb3 0), (1, Ptr nb1 0), (2, U64 pv), (4, Ptr nb1 1), (5, U64 ep), (7, Ptr nb2 0), (8, I64 k), (9, U64 (UInt64.ofNat k))] CA rfl (by decide +kernel) ?_)))
 refine CW ⟨[], [0, 1, 2, 4, 5, 7, 8, 9], [], [0, 1, 2, 4, 5, 7, 8, 9], [3]⟩ 3 _ rfl rfl (by decide +kernel) rfl ⟨CG rfl rfl rfl, ⟨_, rfl, AL rfl (AD 0 22 1 AV rfl A9 rfl rfl)⟩, ⟨_, rfl, AL rfl (AO rfl (A0 BN (AU 0 rfl (AJ (Seg.head)))))⟩, ⟨_, rfl, AL rfl (AD 1 22 1 AV rfl A9 rfl rfl)⟩, ⟨_, rfl, AL rfl (AO rfl (A0 BN (AU 0 rfl (AJ (AK (Seg.head))))))⟩, ⟨_, rfl, AL rfl (AD 0 3 1 AZ rfl AT rfl rfl)⟩, ⟨_, rfl, AL rfl (AO rfl (A0 AY (AU 1 rfl (Seg.head))))⟩, ⟨_, rfl, AL rfl (CM _ _ rfl fun _ => DW (by rw [A6]; rfl) AW k _ (by omega))⟩, trivial⟩ rfl (BO rfl (A8 81 _ [false, false, true] [nb3] _ (AS [Ptr nb3 0, U64 pv, I64 8] B0 rfl) rfl (fun w1 hw1 => numN_c nb3 8 .nilIface pv 8 w1 (hw1.ent _ (List.mem_of_getElem? (i := 2) rfl)) (by unfold Szd; omega) (fun h => absurd h (by omega)) (by omega)))) ?_
 rintro v1 L1 ⟨_, ⟨rfl, nb4, sp1, cp1, rfl, hc1, hc2, hc3⟩, rfl⟩
 refine ⟨[], ?_⟩
 show DP _ _ _ _ _ _ _ _ [_, _, ⟨nb3, [.nilIface, Slc nb4 0 8 cp1], 149, (0, 0)⟩, ⟨nb4, cu8 (numK 8 pv 8) ++ sp1, 5, (0, 0)⟩]
 refine CW ⟨[3], [0, 1, 2, 4, 5, 7, 8, 9], [0, 1, 2], [4, 5, 7, 8, 9], [6]⟩ 6 _ rfl rfl (by decide +kernel) rfl ⟨⟨_, rfl, AL rfl (AD 1 22 1 AV rfl A9 rfl rfl)⟩, ⟨_, rfl, AL rfl (AO rfl (A0 BN (AU 0 rfl (AJ (AK (Seg.head))))))⟩, ⟨_, rfl, AL rfl (AD 0 3 1 AZ rfl AT rfl rfl)⟩, ⟨_, rfl, AL rfl (AO rfl (A0 AY (AU 1 rfl (Seg.head))))⟩, ⟨_, rfl, AL rfl (CM _ _ rfl fun _ => DW (by rw [A6]; rfl) AW k _ (by omega))⟩, trivial⟩ rfl (BO rfl (A8 81 _ [false, false, true, true] [nb3, nb4] _ (AS [Ptr nb3 0, U64 ep, I64 8] B0 rfl) rfl (fun w1 hw1 => EO nb3 nb4 8 cp1 16 .nilIface (numK 8 pv 8) sp1 ep 8 w1 (hw1.ent _ (List.mem_of_getElem? (i := 2) rfl)) (hw1.ent _ (List.mem_of_getElem? (i := 3) rfl)) (hw1.ne (i := 2) (j := 3) rfl rfl (by decide)) (show (numK 8 pv 8).length = 8 from (A5 _ _ _)) hc1 hc2 hc3 (by omega) (by unfold Szd; omega) (fun h => absurd h (by omega)) (by omega)))) ?_
 rintro v1 L1 ⟨_, ⟨rfl, nb5, sp2, cp2, rfl, hc4, hc5, hc6⟩, rfl⟩
 refine ⟨[], ?_⟩
 show DP _ _ _ _ _ _ _ _ [_, _, ⟨nb3, [.nilIface, Slc nb5 0 16 cp2], 149, (0, 0)⟩, ⟨nb5, cu8 ((numK 8 pv 8) ++ numK 8 ep 8) ++ sp2, 5, (0, 0)⟩]
 refine CW ⟨[3, 6], [0, 1, 2, 4, 5, 7, 8, 9], [0, 1, 2, 4, 5], [7, 8, 9], [10]⟩ 10 _ rfl rfl (by decide +kernel) rfl ⟨⟨_, rfl, AL rfl (AD 0 3 1 AZ rfl AT rfl rfl)⟩, ⟨_, rfl, AL rfl (AO rfl (A0 AY (AU 1 rfl (Seg.head))))⟩, ⟨_, rfl, AL rfl (CM _ _ rfl fun _ => DW (by rw [A6]; rfl) AW k _ (by omega))⟩, trivial⟩ rfl (BO rfl (A8 81 _ [false, false, true, true] [nb3, nb5] _ (AS [Ptr nb3 0, U64 (UInt64.ofNat k), I64 1] B0 rfl) rfl (fun w1 hw1 => EO nb3 nb5 16 cp2 17 .nilIface ((numK 8 pv 8) ++ numK 8 ep 8) sp2 (UInt64.ofNat k) 1 w1 (hw1.ent _ (List.mem_of_getElem? (i := 2) rfl)) (hw1.ent _ (List.mem_of_getElem? (i := 3) rfl)) (hw1.ne (i := 2) (j := 3) rfl rfl (by decide)) (show ((numK 8 pv 8) ++ numK 8 ep 8).length = 16 from (by rw [List.length_append, (show (numK 8 pv 8).length = 8 from (A5 _ _ _)), A5] <;> omega)) hc4 hc5 hc6 (by omega) (by unfold Szd; omega) (fun _ => shr8n (by omega)) (by omega)))) ?_
 rintro v1 L1 ⟨_, ⟨rfl, nb6, sp3, cp3, rfl, hc7, hc8, hc9⟩, rfl⟩
 refine ⟨[], ?_⟩
 show DP _ _ _ _ _ _ _ _ [_, _, ⟨nb3, [.nilIface, Slc nb6 0 17 cp3], 149, (0, 0)⟩, ⟨nb6, cu8 (((numK 8 pv 8) ++ numK 8 ep 8) ++ numK 1 (UInt64.ofNat k) 1) ++ sp3, 5, (0, 0)⟩]
 refine DU ⟨[3, 6, 10], [0, 1, 2, 4, 5, 7, 8, 9], [0, 1, 2, 4, 5, 7, 8, 9], [], []⟩ rfl rfl (by decide +kernel) rfl trivial ?_
 refine C6 (F' := [(2, SL none 0 0), (3, .nilIface), (5, Ptr nb2 0), (6, Ptr nb3 0)]) (by kernel_rfl) ?_
 refine AC (AH (AH (AB (AA (Ptr nb2 0) (AD 0 3 1 AZ rfl AT rfl rfl) rfl ?_))))
 refine AA (I64 k) (AO rfl (A0 AY (AU 1 rfl (Seg.head)))) rfl ?_
 refine AA (.bool (decide (((k:Int)) = (3:Int)))) (AR rfl rfl fun _ => BK _ _) rfl ?_
 refine AI (AC (BP _ rfl (decide_eq_false (by omega)) ?_))
 refine BF (AC (AH (AB (AA _ (AF rfl) rfl ?_))))
 refine AA (Ptr nb2 1) (AD 1 23 1 AZ rfl B2 rfl rfl) rfl ?_
 refine AA (SL ai ni ci) (AO rfl (A0 CQ (AU 1 rfl (AK (Seg.head))))) rfl ?_
 refine AA (I64 ni) (DY BX rfl) rfl ?_
 refine AA (I64 ((ni:Int) - 1)) (AR rfl rfl fun _ => EG _ _ ((ni:Int) - 1) (by omega) (by omega)) rfl ?_
 refine AA (U64 (UInt64.ofNat (ni - 1))) (CM _ _ rfl fun _ => DW (by rw [A6]; rfl) AW (ni - 1) _ (by omega)) rfl ?_
 refine A4 (A8 81 _ [false, false, true, true] [nb3, nb6] _ (AS [Ptr nb3 0, U64 (UInt64.ofNat (ni - 1)), I64 1] B0 rfl) rfl (fun w1 hw1 => EO nb3 nb6 17 cp3 18 .nilIface (((numK 8 pv 8) ++ numK 8 ep 8) ++ numK 1 (UInt64.ofNat k) 1) sp3 (UInt64.ofNat (ni - 1)) 1 w1 (hw1.ent _ (List.mem_of_getElem? (i := 2) rfl)) (hw1.ent _ (List.mem_of_getElem? (i := 3) rfl)) (hw1.ne (i := 2) (j := 3) rfl rfl (by decide)) (show (((numK 8 pv 8) ++ numK 8 ep 8) ++ numK 1 (UInt64.ofNat k) 1).length = 17 from (by rw [List.length_append, (show ((numK 8 pv 8) ++ numK 8 ep 8).length = 16 from (by rw [List.length_append, (show (numK 8 pv 8).length = 8 from (A5 _ _ _)), A5] <;> omega)), A5] <;> omega)) hc7 hc8 hc9 (by omega) (by unfold Szd; omega) (fun _ => shr8n (by omega)) (by omega))) rfl ?_
 rintro v1 L1 ⟨_, ⟨rfl, nb7, sp4, cp4, rfl, hc10, hc11, hc12⟩, rfl⟩
 show JL _ _ _ _ ((47, Ptr nb3 0) :: _) [_, _, ⟨nb3, [.nilIface, Slc nb7 0 18 cp4], 149, (0, 0)⟩, ⟨nb7, cu8 ((((numK 8 pv 8) ++ numK 8 ep 8) ++ numK 1 (UInt64.ofNat k) 1) ++ numK 1 (UInt64.ofNat (ni - 1)) 1) ++ sp4, 5, (0, 0)⟩]
 refine AI (AC (AH (AH (AB (AA (Ptr nb2 1) (AD 1 23 1 AZ rfl B2 rfl rfl) rfl ?_)))))
 refine AA (SL ai ni ci) (AO rfl (A0 CQ (AU 1 rfl (AK (Seg.head))))) rfl ?_
 refine AA (I64 ni) (DY BX rfl) rfl ?_
 refine AA _ (AF rfl) rfl ?_
 refine AI (AC (B5 ?_))
 skip
 refine B4 [false, true, true, true] ?_
 show JC _ _ _ _ [_, _, _]
 refine EM (ι := Nat × List UInt8 × Nat × List Value × Nat) (fun ⟨i, oqi, gqi, spqi, cpqi⟩ => [(2, SL none 0 0), (3, .nilIface), (5, Ptr nb2 0), (6, Ptr nb3 0), (49, SL ai ni ci), (50, I64 ni), (51, I64 i)]) (fun ⟨i, oqi, gqi, spqi, cpqi⟩ => [⟨nb2, [I64 k, SL ai ni ci, SL sa ns sc, U64 bl], 26, (0, 0)⟩, ⟨nb3, [.nilIface, Slc gqi 0 (4*i + 18) cpqi], 149, (0, 0)⟩, ⟨gqi, cu8 oqi ++ spqi, 5, (0, 0)⟩]) (fun ⟨i, oqi, gqi, spqi, cpqi⟩ => i ≤ ni ∧ oqi = (((numK 8 pv 8 ++ numK 8 ep 8) ++ numK 1 (UInt64.ofNat k) 1) ++ numK 1 (UInt64.ofNat (ni - 1)) 1) ++ idxT l i ∧ oqi.length = (4*i + 18) ∧ spqi.length = cpqi - ((4*i + 18)) ∧ (4*i + 18) ≤ cpqi ∧ cpqi ≤ maxLen) (fun ⟨i, oqi, gqi, spqi, cpqi⟩ => ni - i) (0, (((numK 8 pv 8) ++ numK 8 ep 8) ++ numK 1 (UInt64.ofNat k) 1) ++ numK 1 (UInt64.ofNat (ni - 1)) 1, nb7, sp4, cp4) ⟨by omega, by rw [idxT_zero, List.append_nil], (by have h := (show ((((numK 8 pv 8) ++ numK 8 ep 8) ++ numK 1 (UInt64.ofNat k) 1) ++ numK 1 (UInt64.ofNat (ni - 1)) 1).length = 18 from (by rw [List.length_append, (show (((numK 8 pv 8) ++ numK 8 ep 8) ++ numK 1 (UInt64.ofNat k) 1).length = 17 from (by rw [List.length_append, (show ((numK 8 pv 8) ++ numK 8 ep 8).length = 16 from (by rw [List.length_append, (show (numK 8 pv 8).length = 8 from (A5 _ _ _)), A5] <;> omega)), A5] <;> omega)), A5] <;> omega)); omega), (by have h := hc10; omega), by omega, by omega⟩ (Sub.all rfl) (by first | rfl | (simp; done)) ?_
 rintro ⟨i, oqi, gqi, spqi, cpqi⟩ ⟨hi1, hi2, hi3, hi4, hi5, hi6⟩
 show JC _ _ _ [(2, SL none 0 0), (3, .nilIface), (5, Ptr nb2 0), (6, Ptr nb3 0), (49, SL ai ni ci), (50, I64 ni), (51, I64 i)] [⟨nb2, [I64 k, SL ai ni ci, SL sa ns sc, U64 bl], 26, (0, 0)⟩, ⟨nb3, [.nilIface, Slc gqi 0 (4*i + 18) cpqi], 149, (0, 0)⟩, ⟨gqi, cu8 oqi ++ spqi, 5, (0, 0)⟩]
 refine AH (AB (AA (.bool (decide (((i:Int)) < ((ni:Int))))) (AR rfl rfl fun _ => CH _ _) rfl ?_))
 refine AI (AC (AH (B9 (decide (((i:Int)) < ((ni:Int)))) rfl (fun hb1 => ?_) (fun hb1 => ?_))))
 ·
  have hp1 : ((i:Int)) < ((ni:Int)) := of_decide_eq_true hb1
  refine BF (AC (AH (B5 (AH (AB ?_)))))
  obtain ⟨bz1, oz1, hz1, hm1⟩ := RdV.pos hv (by rw [cu64_length, hl]; omega)
  refine AA (Ptr bz1 (i + oz1)) (EA 22 1 (i + oz1) BX A9 rfl hz1 rfl (by omega) (by omega) (by omega)) rfl ?_
  refine AA (U64 (g64 l i)) (AO rfl (A0 BN (DB (hm1.mem (by simp)) (Seg.get (g64_get (i := i) (by rw [hl]; omega))) (by first | omega | (simp; done) | (simp; omega))))) rfl ?_
  refine AA _ (AE rfl) rfl ?_
  refine AI (AC (AB (AA _ (AF rfl) rfl ?_)))
  refine AA _ (AF rfl) rfl ?_
  refine A4 (A8 81 _ [false, true, true] [nb3, gqi] _ (AS [Ptr nb3 0, U64 (g64 l i), I64 4] B0 rfl) rfl (fun w1 hw1 => EO nb3 gqi (4*i + 18) cpqi (4*i + 22) .nilIface oqi spqi (g64 l i) 4 w1 (hw1.ent _ (List.mem_of_getElem? (i := 1) rfl)) (hw1.ent _ (List.mem_of_getElem? (i := 2) rfl)) (hw1.ne (i := 1) (j := 2) rfl rfl (by decide)) hi3 hi4 hi5 hi6 (by omega) (by unfold Szd; omega) (fun _ => idx_fit hRI (by omega)) (by omega))) rfl ?_
  rintro v1 L1 ⟨_, ⟨rfl, nb8, sp5, cp5, rfl, hc13, hc14, hc15⟩, rfl⟩
  show JL _ _ _ _ ((57, Ptr nb3 0) :: _) [_, ⟨nb3, [.nilIface, Slc nb8 0 (4*i + 22) cp5], 149, (0, 0)⟩, ⟨nb8, cu8 (oqi ++ numK 4 (g64 l i) 4) ++ sp5, 5, (0, 0)⟩]
  refine AI (BS (AC (AB (AA (I64 ((i:Int) + 1)) (AR rfl rfl fun _ => DQ _ _ ((i:Int) + 1) (by omega) (by omega)) rfl ?_))))
  refine AA _ (AF rfl) rfl ?_
  refine AI (D0 (EV (i + 1, oqi ++ numK 4 (g64 l i) 4, nb8, sp5, cp5) ⟨by omega, by rw [hi2, idxT_succ, List.append_assoc], (by have h := (show (oqi ++ numK 4 (g64 l i) 4).length = (4*i + 22) from (by rw [List.length_append, hi3, A5] <;> omega)); omega), (by have h := hc13; omega), by omega, by omega⟩ (by first | (simp; omega) | simp | (dsimp only; omega) | omega) (Sub.all rfl) (by first | rfl | rw [show (4*i + 22) = (4*(i + 1) + 18) by omega])))
 ·
  have hp1 : ¬ (((i:Int)) < ((ni:Int))) := of_decide_eq_false hb1
  refine ED (BJ (BJ (C1 (AC (AH (AH (AB (AA (Ptr nb2 2) (AD 2 24 1 AZ rfl DE rfl rfl) rfl ?_))))))))
  refine AA (SL sa ns sc) (AO rfl (A0 D9 (AU 0 rfl (AK (AK (Seg.head)))))) rfl ?_
  refine AA (I64 ns) (DY C4 rfl) rfl ?_
  refine AA _ (AF rfl) rfl ?_
  refine AI (AC (B5 ?_))
  have ei : ni = i := by omega
  subst ei
  show JC _ _ _ _ [⟨nb2, [I64 k, SL ai ni ci, SL sa ns sc, U64 bl], 26, (0, 0)⟩, ⟨nb3, [.nilIface, Slc gqi 0 (4*ni + 18) cpqi], 149, (0, 0)⟩, ⟨gqi, cu8 oqi ++ spqi, 5, (0, 0)⟩]
  refine B4 [false, true, true] ?_
  show JC _ _ _ _ [_, _]
  refine EM (ι := Nat × List UInt8 × Nat × List Value × Nat) (fun ⟨j, oqj, gqj, spqj, cpqj⟩ => [(2, SL none 0 0), (3, .nilIface), (6, Ptr nb3 0), (60, SL sa ns sc), (61, I64 ns), (62, I64 j)]) (fun ⟨j, oqj, gqj, spqj, cpqj⟩ => [⟨nb3, [.nilIface, Slc gqj 0 (56*j + 4*ni + 18) cpqj], 149, (0, 0)⟩, ⟨gqj, cu8 oqj ++ spqj, 5, (0, 0)⟩]) (fun ⟨j, oqj, gqj, spqj, cpqj⟩ => j ≤ ns ∧ oqj = ((((numK 8 pv 8 ++ numK 8 ep 8) ++ numK 1 (UInt64.ofNat k) 1) ++ numK 1 (UInt64.ofNat (ni - 1)) 1) ++ idxT l ni) ++ selT (ls.take j) ∧ oqj.length = (56*j + 4*ni + 18) ∧ spqj.length = cpqj - ((56*j + 4*ni + 18)) ∧ (56*j + 4*ni + 18) ≤ cpqj ∧ cpqj ≤ maxLen) (fun ⟨j, oqj, gqj, spqj, cpqj⟩ => ns - j) (0, oqi, gqi, spqi, cpqi) ⟨by omega, by rw [hi2]; simp [selT_nil], (by have h := hi3; omega), (by have h := hi4; omega), by omega, by omega⟩ (Sub.all rfl) (by first | rfl | (simp; done)) ?_
  rintro ⟨j, oqj, gqj, spqj, cpqj⟩ ⟨hj1, hj2, hj3, hj4, hj5, hj6⟩
  show JC _ _ _ [(2, SL none 0 0), (3, .nilIface), (6, Ptr nb3 0), (60, SL sa ns sc), (61, I64 ns), (62, I64 j)] [⟨nb3, [.nilIface, Slc gqj 0 (56*j + 4*ni + 18) cpqj], 149, (0, 0)⟩, ⟨gqj, cu8 oqj ++ spqj, 5, (0, 0)⟩]
  refine AH (AB (AA (.bool (decide (((j:Int)) < ((ns:Int))))) (AR rfl rfl fun _ => CH _ _) rfl ?_))
  refine AI (AC (AH (B9 (decide (((j:Int)) < ((ns:Int)))) rfl (fun hb2 => ?_) (fun hb2 => ?_))))
  ·
   have hp2 : ((j:Int)) < ((ns:Int)) := of_decide_eq_true hb2
   refine BF (AC (AH (B5 (AH (AB ?_)))))
   obtain ⟨x1, hx1⟩ : ∃ x, ls[j]? = some x := ⟨_, List.getElem?_eq_getElem (by rw [hls]; omega)⟩
   obtain ⟨bz2, oz2, hz2, hm2⟩ := rows_at FM (by decide) hs hx1
   refine AA (Ptr bz2 (49*j + oz2)) (EA 161 49 (49*j + oz2) C4 B1 rfl hz2 rfl (by omega) (by omega) (by omega)) rfl ?_
   refine AA (.agg ([U64 x1.e] ++ cu8 x1.d ++ cu8 x1.t).toArray) (AO rfl (BU D5 B1 (by simp [x1.hd, x1.ht]) (DB (hm2.mem (by simp)) (AQ _) (by first | omega | (simp; done) | (simp; omega))))) rfl ?_
   refine A4 (C0 _ ([U64 0] ++ cu8 (zr8 32) ++ cu8 (zr8 16)) Tryd.zeroValue161 (by kernel_rfl)) rfl ?_
   rintro v1 L1 ⟨nb9, hnb9, rfl, rfl⟩
   show JL _ _ _ _ ((10, Ptr nb9 0) :: _) [_, _, ⟨nb9, [U64 0] ++ cu8 (zr8 32) ++ cu8 (zr8 16), 161, (0, 0)⟩]
   refine A7 (BQ 2 nb9 49 ([U64 0] ++ cu8 (zr8 32) ++ cu8 (zr8 16)) 161 ([U64 x1.e] ++ cu8 x1.d ++ cu8 x1.t) rfl rfl rfl B1 (by simp [x1.hd, x1.ht]) (BY (BY (by simp [Value.oneCell']) CT) CT) (by simp [(AN 32), (AN 16)]) (BT (by simp [(AN 32), (AN 16), x1.hd, x1.ht]))) rfl ?_
   show JL _ _ _ _ _ [_, _, ⟨nb9, [U64 x1.e] ++ cu8 x1.d ++ cu8 x1.t, 161, (0, 0)⟩]
   refine AI (AC (AB (AA _ (AF rfl) rfl ?_)))
   refine AA (.agg ([U64 x1.e] ++ cu8 x1.d ++ cu8 x1.t).toArray) (AO rfl (BU D5 B1 (by simp [x1.hd, x1.ht]) (AU 2 rfl (AQ _)))) rfl ?_
   refine A4 (CZ 97 [.agg ([U64 x1.e] ++ cu8 x1.d ++ cu8 x1.t).toArray] _ (AS _ Tryd.call97 rfl) (fun w1 hw1 => put7_c x1.e x1.d x1.t w1 x1.hd x1.ht)) rfl ?_
   rintro v1 L1 ⟨_, ⟨nb10, sp6, cp6, rfl, rfl, hc16, hc17, hc18⟩, rfl⟩
   show JL _ _ _ _ ((68, Slc nb10 0 56 cp6) :: _) [_, _, _, ⟨nb10, cu8 (putL x1.e x1.d x1.t) ++ sp6, 5, (0, 0)⟩]
   refine A4 (A8 82 _ [true, true, false, false] [nb3, gqj] _ (AS [Ptr nb3 0, Slc nb10 0 56 cp6] Tryd.call82 rfl) rfl (fun w1 hw1 => rawO_c nb3 gqj (56*j + 4*ni + 18) cpqj (56*j + 4*ni + 74) .nilIface oqj spqj (some ⟨nb10, 0, none⟩) 56 cp6 (putL x1.e x1.d x1.t) w1 (hw1.ent _ (List.mem_of_getElem? (i := 0) rfl)) (hw1.ent _ (List.mem_of_getElem? (i := 1) rfl)) (hw1.ne (i := 0) (j := 1) rfl rfl (by decide)) hj3 hj4 hj5 hj6 (by omega) (show (putL x1.e x1.d x1.t).length = 56 from (putL_len x1.hd x1.ht)) (by omega) (RdB.of hw1 (AU 3 rfl (AJ (AQ _))) (by intro _; simp only [List.mem_cons, List.not_mem_nil, or_false, not_or]; exact ⟨hw1.ne (i := 3) (j := 0) rfl rfl (by decide), hw1.ne (i := 3) (j := 1) rfl rfl (by decide)⟩)) (by omega))) rfl ?_
   rintro v1 L1 ⟨_, ⟨rfl, nb11, sp7, cp7, rfl, hc19, hc20, hc21⟩, rfl⟩
   show JL _ _ _ _ ((69, Ptr nb3 0) :: _) [_, _, ⟨nb3, [.nilIface, Slc nb11 0 (56*j + 4*ni + 74) cp7], 149, (0, 0)⟩, ⟨nb11, cu8 (oqj ++ (putL x1.e x1.d x1.t)) ++ sp7, 5, (0, 0)⟩]
   refine AI (BS (AC (AB (AA (I64 ((j:Int) + 1)) (AR rfl rfl fun _ => DQ _ _ ((j:Int) + 1) (by omega) (by omega)) rfl ?_))))
   refine AA _ (AF rfl) rfl ?_
   refine AI (D0 (B4 [false, false, true, true] ?_))
   show K _ _ [_, _] _
   refine EV (j + 1, oqj ++ (putL x1.e x1.d x1.t), nb11, sp7, cp7) ⟨by omega, by rw [hj2, ← take_step hx1, selT_app, List.append_assoc], (by have h := (show (oqj ++ (putL x1.e x1.d x1.t)).length = (56*j + 4*ni + 74) from (by rw [List.length_append, hj3, (show (putL x1.e x1.d x1.t).length = 56 from (putL_len x1.hd x1.ht))] <;> omega)); omega), (by have h := hc19; omega), by omega, by omega⟩ (by first | (simp; omega) | simp | (dsimp only; omega) | omega) (Sub.all rfl) (by first | rfl | rw [show (56*j + 4*ni + 74) = (56*(j + 1) + 4*ni + 18) by omega])
  ·
   have hp2 : ¬ (((j:Int)) < ((ns:Int))) := of_decide_eq_false hb2
   refine ED (BJ (BJ (C1 (AC (AH (AB (AA _ (AF rfl) rfl ?_)))))))
   refine A4 (CZ 83 [Ptr nb3 0] _ (AS _ EQ rfl) (fun w1 hw1 => FJ nb3 0 gqj (56*j + 4*ni + 18) cpqj oqj w1 (RdA.of hw1 (AU 0 rfl (AQ _)) (by simp)) rfl hj3 (by omega) (RdB.of hw1 (AU 1 rfl (AJ (AQ _))) (by simp)))) rfl ?_
   rintro v1 L1 ⟨_, ⟨nb12, sp8, cp8, rfl, rfl, hc22, hc23, hc24⟩, rfl⟩
   show JL _ _ _ _ ((72, .tuple #[Slc nb12 0 (56*j + 4*ni + 18) cp8, .nilIface]) :: _) [_, _, ⟨nb12, cu8 oqj ++ sp8, 5, (0, 0)⟩]
   refine AA _ (BE rfl rfl) rfl ?_
   refine AA _ (BE rfl rfl) rfl ?_
   refine AA _ (AE rfl) rfl ?_
   refine AA _ (AE rfl) rfl ?_
   refine AI (AC (BI (B4 [false, false, true] ?_)))
   show JQ _ _ _ _ [_]
   refine BH (.tuple #[Slc nb12 0 (56*j + 4*ni + 18) cp8, .nilIface]) (res2 Tryd.results114 (BC rfl) (BC rfl)) fun w1 hw1 => ?_
   obtain rfl : j = ns := by omega
   have hq : oqj = tktT pv ep k l ls bl := by
    unfold tktT
    rw [if_neg (by omega), hl, hj2, List.take_of_length_le (by omega)]
   rw [hq] at hw1
   obtain rfl : tot = (56*j + 4*ni + 18) := by omega
   exact ⟨_, _, rfl, ⟨nb12, sp8, cp8, rfl, rfl, hc22, hc23, hc24⟩, hw1.sub (by simp) (by simp)⟩
attribute [local irreducible] tktT mayN idxT selT
theorem text_w (pv ep : UInt64) (k : Nat) (ai : Option Addr) (ni ci : Nat) (l : List UInt64) (sa : Option Addr) (ns sc : Nat) (ls : List SealR) (bl : UInt64) (tg : List UInt8) (tot : Nat) (w : World) (hl : l.length = ni) (hnm : ni ≤ 2000000) (hnc : ni ≤ ci) (hcm : ci ≤ maxLen) (hv : RdV w ai (cu64 l)) (hls : ls.length = ns) (hnn : ns ≤ 2000000) (hnd : ns ≤ sc) (hcn : sc ≤ maxLen) (hs : RdV w sa (ls.flatMap sealC)) (htg : tg.length = 16) (hmay : mayN pv ep (k:Int) l ls bl = 0) (hk : k = 1 ∨ k = 2 ∨ k = 3) (hsm : ns ≤ 300) (htot : tktN k ni ns = tot) : Calls Tryd.prog 114 #[.agg ([U64 pv, U64 ep, I64 k, SL ai ni ci, SL sa ns sc, U64 bl] ++ cu8 tg).toArray] w (Post w [] (fun v L => ∃ g sp cap, v = .tuple #[Slc g 0 tot cap, .nilIface] ∧ L = [⟨g, cu8 (tktT pv ep k l ls bl) ++ sp, 5, (0, 0)⟩] ∧ sp.length = cap - tot ∧ tot ≤ cap ∧ cap ≤ maxLen)) := by
  by_cases h3 : k = 3
  · have e : tot = 25 := by rw [← htot]; unfold tktN; rw [if_pos h3]
    subst e
    exact text3_c pv ep k ai ni ci l sa ns sc ls bl tg w hl hnm hnc hcm hv hls hnn hnd hcn hs htg hmay h3
  · exact text12_c pv ep k ai ni ci l sa ns sc ls bl tg tot w hl hnm hnc hcm hv hls hnn hnd hcn hs htg hmay (by omega) hsm (by rw [← htot]; unfold tktN; rw [if_neg h3])
theorem textB_c (pv ep : UInt64) (kd : Int) (ai : Option Addr) (ni ci : Nat) (l : List UInt64) (sa : Option Addr) (ns sc : Nat) (ls : List SealR) (bl : UInt64) (tg : List UInt8)  (w : World) (hl : l.length = ni) (hnm : ni ≤ 2000000) (hnc : ni ≤ ci) (hcm : ci ≤ maxLen) (hv : RdV w ai (cu64 l)) (hls : ls.length = ns) (hnn : ns ≤ 2000000) (hnd : ns ≤ sc) (hcn : sc ≤ maxLen) (hs : RdV w sa (ls.flatMap sealC)) (htg : tg.length = 16) (hm : mayN pv ep kd l ls bl ≠ 0)  : Calls Tryd.prog 114 #[.agg ([U64 pv, U64 ep, I64 (kd), SL ai ni ci, SL sa ns sc, U64 bl] ++ cu8 tg).toArray] w (Post w [] (fun v L => v = .tuple #[SL none 0 0, errV 50 (mayN pv ep kd l ls bl)] ∧ L = [])) := by
 have hmx : maxLen = 9223372036854775807 := rfl
 refine enter (P := Tryd.prog) (f := 114) (fn := Tryd.f114) w [] 75 [] [.agg ([U64 pv, U64 ep, I64 (kd), SL ai ni ci, SL sa ns sc, U64 bl] ++ cu8 tg).toArray] Tryd.func114 rfl rfl (by simp) (BW (by simp) (by simp) (by simp)) ?_
 show JC _ _ _ [(0, .agg ([U64 pv, U64 ep, I64 (kd), SL ai ni ci, SL sa ns sc, U64 bl] ++ cu8 tg).toArray)] _
 refine AH (AB (A4 (C5 (.agg ([U64 pv, U64 ep, I64 (kd), SL ai ni ci, SL sa ns sc, U64 bl] ++ cu8 tg).toArray) ([U64 pv, U64 ep, I64 (kd), SL ai ni ci, SL sa ns sc, U64 bl] ++ cu8 tg) rfl (by first | rfl | simp)) rfl ?_))
 rintro v1 L1 ⟨nb1, hnb1, rfl, rfl⟩
 show JL _ _ _ _ ((1, Ptr nb1 0) :: _) [⟨nb1, [U64 pv, U64 ep, I64 (kd), SL ai ni ci, SL sa ns sc, U64 bl] ++ cu8 tg, 29, (0, 0)⟩]
 refine AA _ (AE rfl) rfl ?_
 refine AA _ (AE rfl) rfl ?_
 refine AI (AC (AH (AH (AB (AA (.agg ([U64 pv, U64 ep, I64 (kd), SL ai ni ci, SL sa ns sc, U64 bl] ++ cu8 tg).toArray) (AO rfl (BU B7 BG (by simp [htg]) (AU 0 rfl (AQ _)))) rfl ?_)))))
 refine A7 (A2 128 [.agg ([U64 pv, U64 ep, I64 (kd), SL ai ni ci, SL sa ns sc, U64 bl] ++ cu8 tg).toArray] (errV 50 (mayN pv ep (kd) l ls bl)) (AS _ Tryd.call128 rfl) (fun w1 hw1 => may13_c pv ep (kd) ai ni ci l sa ns sc ls bl tg w1 hl (by omega) (by omega) (by omega) (C2 hw1 rfl hv) hls (by omega) (by omega) (by omega) (C2 hw1 rfl hs) htg)) rfl ?_
 show JL _ _ _ _ ((12, errV 50 (mayN pv ep (kd) l ls bl)) :: _) [_]
 refine AA _ (AE rfl) rfl ?_
 refine AI (AC (AH (AB (AA _ (AF rfl) rfl ?_))))
 refine AA (.bool (!(decide (mayN pv ep (kd) l ls bl = 0)))) (C7 _ _ _ rfl rfl (fun _ => B6 ..) fun _ => DJ BB _ _) rfl ?_
 refine AI (AC (B3 _ rfl (by rw [show (decide (mayN pv ep (kd) l ls bl = 0)) = false from (decide_eq_false hm)] <;> rfl) ?_))
 refine AH (AB (AA _ (AF rfl) rfl ?_))
 refine AA _ (AE rfl) rfl ?_
 refine AA _ (AE rfl) rfl ?_
 refine AI (AC (BI (A1 (B4 [false] ?_))))
 show JQ _ _ _ _ []
 refine BH (.tuple #[SL none 0 0, errV 50 (mayN pv ep (kd) l ls bl)]) (res2 Tryd.results114 (BC rfl) (BC rfl)) fun w1 hw1 => ?_
 exact ⟨_, [], rfl, ⟨rfl, rfl⟩, hw1.sub (by simp) (by simp)⟩
theorem put13_c (pv ep : UInt64) (k : Nat) (ai : Option Addr) (ni ci : Nat) (l : List UInt64) (sa : Option Addr) (ns sc : Nat) (ls : List SealR) (bl : UInt64) (tg : List UInt8) (tot : Nat)  (w : World) (hl : l.length = ni) (hnm : ni ≤ 2000000) (hnc : ni ≤ ci) (hcm : ci ≤ maxLen) (hv : RdV w ai (cu64 l)) (hls : ls.length = ns) (hnn : ns ≤ 2000000) (hnd : ns ≤ sc) (hcn : sc ≤ maxLen) (hs : RdV w sa (ls.flatMap sealC)) (htg : tg.length = 16) (hmay : mayN pv ep (k:Int) l ls bl = 0) (hk : k = 1 ∨ k = 2 ∨ k = 3) (hsm : ns ≤ 300) (htot : tktN k ni ns = tot) (htb : tot ≤ 30000)  : Calls Tryd.prog 47 #[.agg ([U64 pv, U64 ep, I64 k, SL ai ni ci, SL sa ns sc, U64 bl] ++ cu8 tg).toArray] w (Post w [] (fun v L => ∃ g sp cap, v = .tuple #[Slc g 0 (tot + 16) cap, .nilIface] ∧ L = [⟨g, cu8 ((tktT pv ep k l ls bl) ++ tg) ++ sp, 5, (0, 0)⟩] ∧ sp.length = cap - (tot + 16) ∧ (tot + 16) ≤ cap ∧ cap ≤ maxLen)) := by
 have hmx : maxLen = 9223372036854775807 := rfl
 refine enter (P := Tryd.prog) (f := 47) (fn := Tryd.f47) w [] 18 [] [.agg ([U64 pv, U64 ep, I64 k, SL ai ni ci, SL sa ns sc, U64 bl] ++ cu8 tg).toArray] Tryd.func47 rfl rfl (by simp) (BW (by simp) (by simp) (by simp)) ?_
 show JC _ _ _ [(0, .agg ([U64 pv, U64 ep, I64 k, SL ai ni ci, SL sa ns sc, U64 bl] ++ cu8 tg).toArray)] _
 refine AH (AB (A4 (C5 (.agg ([U64 pv, U64 ep, I64 k, SL ai ni ci, SL sa ns sc, U64 bl] ++ cu8 tg).toArray) ([U64 pv, U64 ep, I64 k, SL ai ni ci, SL sa ns sc, U64 bl] ++ cu8 tg) rfl (by first | rfl | simp)) rfl ?_))
 rintro v1 L1 ⟨nb1, hnb1, rfl, rfl⟩
 show JL _ _ _ _ ((1, Ptr nb1 0) :: _) [⟨nb1, [U64 pv, U64 ep, I64 k, SL ai ni ci, SL sa ns sc, U64 bl] ++ cu8 tg, 29, (0, 0)⟩]
 refine AA _ (AE rfl) rfl ?_
 refine AA _ (AE rfl) rfl ?_
 refine AI (AC (AH (AB (AA (.agg ([U64 pv, U64 ep, I64 k, SL ai ni ci, SL sa ns sc, U64 bl] ++ cu8 tg).toArray) (AO rfl (BU B7 BG (by simp [htg]) (AU 0 rfl (AQ _)))) rfl ?_))))
 refine A4 (CZ 114 [.agg ([U64 pv, U64 ep, I64 k, SL ai ni ci, SL sa ns sc, U64 bl] ++ cu8 tg).toArray] _ (AS _ Tryd.call114 rfl) (fun w1 hw1 => text_w pv ep k ai ni ci l sa ns sc ls bl tg tot w1 hl (by omega) (by omega) (by omega) (C2 hw1 rfl hv) hls (by omega) (by omega) (by omega) (C2 hw1 rfl hs) htg hmay hk hsm htot)) rfl ?_
 rintro v1 L1 ⟨_, ⟨nb2, sp1, cp1, rfl, rfl, hc1, hc2, hc3⟩, rfl⟩
 show JL _ _ _ _ ((8, .tuple #[Slc nb2 0 tot cp1, .nilIface]) :: _) [_, ⟨nb2, cu8 (tktT pv ep k l ls bl) ++ sp1, 5, (0, 0)⟩]
 refine AA _ (AF rfl) rfl ?_
 refine AA _ (BE rfl rfl) rfl ?_
 refine AA _ (BE rfl rfl) rfl ?_
 refine AA _ (AE rfl) rfl ?_
 refine AA _ (AE rfl) rfl ?_
 refine AI (AC (AH (AH (AB (AA _ (AF rfl) rfl ?_)))))
 refine AA (.bool false) (C7 _ _ _ rfl rfl (fun _ => FB ..) fun _ => E3 BB) rfl ?_
 refine AI (AC (BP _ rfl rfl ?_))
 refine BF (AC (AH (AB (AA _ (AF rfl) rfl ?_))))
 refine AA (Ptr nb1 6) (AD 6 27 16 AV rfl CI rfl rfl) rfl ?_
 refine AA (Slc nb1 6 16 16) (DF 16 5 1 0 16 6 16 CF BZ rfl rfl rfl (by omega) (by omega) (by omega) (by omega) (by omega) 16 (by omega)) rfl ?_
 refine A4 (FF 43 5 [false, true] (Slc nb2 0 tot cp1) tot (tktT pv ep k l ls bl) tg (some ⟨nb1, 6, none⟩) 16 16 (tot + 16) BA FE rfl (.inr ⟨nb2, sp1, cp1, rfl, rfl, (by first | exact (show (tktT pv ep k l ls bl).length = tot from ((FD hl hls).trans htot)) | simp [(show (tktT pv ep k l ls bl).length = tot from ((FD hl hls).trans htot))]), hc1, (by omega), (by omega)⟩) rfl (by first | exact htg | simp [htg]; try omega) (SrcAt.mem (AU 0 rfl (Seg.right 6 0 rfl rfl (AQ _)))) (by omega) (by unfold maxLen; omega) (by omega)) rfl ?_
 rintro v1 L1 ⟨nb3, sp2, cp2, hg1, rfl, rfl, ha1, ha2, ha3, ha4⟩
 show JL _ _ _ _ ((17, Slc nb3 0 (tot + 16) cp2) :: _) [_, ⟨nb3, cu8 ((tktT pv ep k l ls bl) ++ tg) ++ sp2, 5, (0, 0)⟩]
 refine AA _ (AE rfl) rfl ?_
 refine AA _ (AE rfl) rfl ?_
 refine AI (AC (BI (B4 [false, true] ?_)))
 show JQ _ _ _ _ [_]
 refine BH (.tuple #[Slc nb3 0 (tot + 16) cp2, .nilIface]) (res2 Tryd.results47 (BC rfl) (BC rfl)) fun w1 hw1 => ?_
 exact ⟨_, _, rfl, ⟨nb3, sp2, cp2, rfl, rfl, ha2, ha3, ha4⟩, hw1.sub (by simp) (by simp)⟩
theorem putB_c (pv ep : UInt64) (kd : Int) (ai : Option Addr) (ni ci : Nat) (l : List UInt64) (sa : Option Addr) (ns sc : Nat) (ls : List SealR) (bl : UInt64) (tg : List UInt8)  (w : World) (hl : l.length = ni) (hnm : ni ≤ 2000000) (hnc : ni ≤ ci) (hcm : ci ≤ maxLen) (hv : RdV w ai (cu64 l)) (hls : ls.length = ns) (hnn : ns ≤ 2000000) (hnd : ns ≤ sc) (hcn : sc ≤ maxLen) (hs : RdV w sa (ls.flatMap sealC)) (htg : tg.length = 16) (hm : mayN pv ep kd l ls bl ≠ 0)  : Calls Tryd.prog 47 #[.agg ([U64 pv, U64 ep, I64 (kd), SL ai ni ci, SL sa ns sc, U64 bl] ++ cu8 tg).toArray] w (Post w [] (fun v L => v = .tuple #[SL none 0 0, errV 50 (mayN pv ep kd l ls bl)] ∧ L = [])) := by
 have hmx : maxLen = 9223372036854775807 := rfl
 refine enter (P := Tryd.prog) (f := 47) (fn := Tryd.f47) w [] 18 [] [.agg ([U64 pv, U64 ep, I64 (kd), SL ai ni ci, SL sa ns sc, U64 bl] ++ cu8 tg).toArray] Tryd.func47 rfl rfl (by simp) (BW (by simp) (by simp) (by simp)) ?_
 show JC _ _ _ [(0, .agg ([U64 pv, U64 ep, I64 (kd), SL ai ni ci, SL sa ns sc, U64 bl] ++ cu8 tg).toArray)] _
 refine AH (AB (A4 (C5 (.agg ([U64 pv, U64 ep, I64 (kd), SL ai ni ci, SL sa ns sc, U64 bl] ++ cu8 tg).toArray) ([U64 pv, U64 ep, I64 (kd), SL ai ni ci, SL sa ns sc, U64 bl] ++ cu8 tg) rfl (by first | rfl | simp)) rfl ?_))
 rintro v1 L1 ⟨nb1, hnb1, rfl, rfl⟩
 show JL _ _ _ _ ((1, Ptr nb1 0) :: _) [⟨nb1, [U64 pv, U64 ep, I64 (kd), SL ai ni ci, SL sa ns sc, U64 bl] ++ cu8 tg, 29, (0, 0)⟩]
 refine AA _ (AE rfl) rfl ?_
 refine AA _ (AE rfl) rfl ?_
 refine AI (AC (AH (AB (AA (.agg ([U64 pv, U64 ep, I64 (kd), SL ai ni ci, SL sa ns sc, U64 bl] ++ cu8 tg).toArray) (AO rfl (BU B7 BG (by simp [htg]) (AU 0 rfl (AQ _)))) rfl ?_))))
 refine A7 (A2 114 [.agg ([U64 pv, U64 ep, I64 (kd), SL ai ni ci, SL sa ns sc, U64 bl] ++ cu8 tg).toArray] (.tuple #[SL none 0 0, errV 50 (mayN pv ep (kd) l ls bl)]) (AS _ Tryd.call114 rfl) (fun w1 hw1 => textB_c pv ep (kd) ai ni ci l sa ns sc ls bl tg w1 hl (by omega) (by omega) (by omega) (C2 hw1 rfl hv) hls (by omega) (by omega) (by omega) (C2 hw1 rfl hs) htg hm)) rfl ?_
 show JL _ _ _ _ ((8, .tuple #[SL none 0 0, errV 50 (mayN pv ep (kd) l ls bl)]) :: _) [_]
 refine AA _ (AF rfl) rfl ?_
 refine AA _ (BE rfl rfl) rfl ?_
 refine AA _ (BE rfl rfl) rfl ?_
 refine AA _ (AE rfl) rfl ?_
 refine AA _ (AE rfl) rfl ?_
 refine AI (AC (AH (AH (AB (AA _ (AF rfl) rfl ?_)))))
 refine AA (.bool (!(decide (mayN pv ep (kd) l ls bl = 0)))) (C7 _ _ _ rfl rfl (fun _ => B6 ..) fun _ => DJ BB _ _) rfl ?_
 refine AI (AC (B3 _ rfl (by rw [show (decide (mayN pv ep (kd) l ls bl = 0)) = false from (decide_eq_false hm)] <;> rfl) ?_))
 refine AH (AB (AA _ (AF rfl) rfl ?_))
 refine AA _ (AE rfl) rfl ?_
 refine AA _ (AE rfl) rfl ?_
 refine AI (AC (BI (A1 (B4 [false] ?_))))
 show JQ _ _ _ _ []
 refine BH (.tuple #[SL none 0 0, errV 50 (mayN pv ep (kd) l ls bl)]) (res2 Tryd.results47 (BC rfl) (BC rfl)) fun w1 hw1 => ?_
 exact ⟨_, [], rfl, ⟨rfl, rfl⟩, hw1.sub (by simp) (by simp)⟩
attribute [local irreducible] blankB spanB reqR
theorem spanA_c (fs : UInt64) (mn : Int)  (w : World) (h : mn < 1)  : Calls Tryd.prog 86 #[I64 32, U64 fs, I64 (mn)] w (Post w [] (fun v L => v = .bool (spanB fs mn) ∧ L = [])) := by
 refine enter w [] 35 [] [I64 32, U64 fs, I64 (mn)] Tryd.func86 rfl rfl (by simp) (BW (by simp) (by simp) (by simp)) ?_
 show JC _ _ _ [(0, I64 32), (1, U64 fs), (2, I64 (mn))] _
 refine AH (AB (AA _ (AE rfl) rfl ?_))
 refine AI (AC (AH (AH (AB (AA _ (AF rfl) rfl ?_)))))
 refine AA (.bool (decide ((32:Int) < (0:Int)))) (AR rfl rfl fun _ => CH _ _) rfl ?_
 refine AA _ (AF rfl) rfl ?_
 refine AP 2 10 false _ _ rfl rfl (by decide) (AF rfl) rfl ?_
 refine AP 2 10 false _ (.bool (decide ((32:Int) < (32:Int)))) rfl rfl (by decide) (AR rfl rfl fun _ => DD _ _) rfl ?_
 refine AA _ (A3 _ rfl (by decide) rfl) rfl ?_
 refine AA _ (AF rfl) rfl ?_
 refine AP 6 14 false _ _ rfl rfl (by decide) (AF rfl) rfl ?_
 refine AP 6 14 false _ (.bool (decide ((mn) < (1:Int)))) rfl rfl (by decide) (AR rfl rfl fun _ => CH _ _) rfl ?_
 refine AA _ (A3 _ rfl (by decide) rfl) rfl ?_
 refine AA _ (AF rfl) rfl ?_
 refine AG 10 18 false _ rfl rfl (decide_eq_true (by omega)) rfl ?_
 refine AG 10 18 false _ rfl rfl (decide_eq_true (by omega)) rfl ?_
 refine AA _ (BD _ rfl (decide_eq_true (by omega)) rfl) rfl ?_
 refine AI (AC (B3 _ rfl rfl ?_))
 refine AH (AB (AA _ (AE rfl) rfl ?_))
 refine AI (AC (BI (A1 (BH (.bool false) (res1 Tryd.results86 (BC rfl)) fun w1 hw1 => ?_))))
 exact ⟨_, [], rfl, ⟨congrArg Value.bool (spanB_no (by omega)).symm, rfl⟩, hw1.sub (by simp) (by simp)⟩
theorem spanB_c (fs : UInt64) (mn : Int)  (w : World) (h : 256 < mn)  : Calls Tryd.prog 86 #[I64 32, U64 fs, I64 (mn)] w (Post w [] (fun v L => v = .bool (spanB fs mn) ∧ L = [])) := by
 refine enter w [] 35 [] [I64 32, U64 fs, I64 (mn)] Tryd.func86 rfl rfl (by simp) (BW (by simp) (by simp) (by simp)) ?_
 show JC _ _ _ [(0, I64 32), (1, U64 fs), (2, I64 (mn))] _
 refine AH (AB (AA _ (AE rfl) rfl ?_))
 refine AI (AC (AH (AH (AB (AA _ (AF rfl) rfl ?_)))))
 refine AA (.bool (decide ((32:Int) < (0:Int)))) (AR rfl rfl fun _ => CH _ _) rfl ?_
 refine AA _ (AF rfl) rfl ?_
 refine AP 2 10 false _ _ rfl rfl (by decide) (AF rfl) rfl ?_
 refine AP 2 10 false _ (.bool (decide ((32:Int) < (32:Int)))) rfl rfl (by decide) (AR rfl rfl fun _ => DD _ _) rfl ?_
 refine AA _ (A3 _ rfl (by decide) rfl) rfl ?_
 refine AA _ (AF rfl) rfl ?_
 refine AP 6 14 false _ _ rfl rfl (by decide) (AF rfl) rfl ?_
 refine AP 6 14 false _ (.bool (decide ((mn) < (1:Int)))) rfl rfl (by decide) (AR rfl rfl fun _ => CH _ _) rfl ?_
 refine AA _ (A3 _ rfl (by decide) rfl) rfl ?_
 refine AA _ (AF rfl) rfl ?_
 refine AP 10 18 false _ _ rfl rfl (decide_eq_false (by omega)) (AF rfl) rfl ?_
 refine AP 10 18 false _ (.bool (decide ((256:Int) < (mn)))) rfl rfl (decide_eq_false (by omega)) (AR rfl rfl fun _ => DD _ _) rfl ?_
 refine AA _ (A3 _ rfl (decide_eq_false (by omega)) rfl) rfl ?_
 refine AI (AC (B3 _ rfl (decide_eq_true (by omega)) ?_))
 refine AH (AB (AA _ (AE rfl) rfl ?_))
 refine AI (AC (BI (A1 (BH (.bool false) (res1 Tryd.results86 (BC rfl)) fun w1 hw1 => ?_))))
 exact ⟨_, [], rfl, ⟨congrArg Value.bool (spanB_no (by omega)).symm, rfl⟩, hw1.sub (by simp) (by simp)⟩
theorem spanC_c (fs : UInt64) (mn : Nat)  (w : World) (h1 : 1 ≤ mn) (h2 : mn ≤ 256)  : Calls Tryd.prog 86 #[I64 32, U64 fs, I64 mn] w (Post w [] (fun v L => v = .bool (spanB fs (mn:Int)) ∧ L = [])) := by
 have hmx : maxLen = 9223372036854775807 := rfl
 refine enter w [] 35 [] [I64 32, U64 fs, I64 mn] Tryd.func86 rfl rfl (by simp) (BW (by simp) (by simp) (by simp)) ?_
 show JC _ _ _ [(0, I64 32), (1, U64 fs), (2, I64 mn)] _
 refine AH (AB (AA _ (AE rfl) rfl ?_))
 refine AI (AC (AH (AH (AB (AA _ (AF rfl) rfl ?_)))))
 refine AA (.bool (decide ((32:Int) < (0:Int)))) (AR rfl rfl fun _ => CH _ _) rfl ?_
 refine AA _ (AF rfl) rfl ?_
 refine AP 2 10 false _ _ rfl rfl (by decide) (AF rfl) rfl ?_
 refine AP 2 10 false _ (.bool (decide ((32:Int) < (32:Int)))) rfl rfl (by decide) (AR rfl rfl fun _ => DD _ _) rfl ?_
 refine AA _ (A3 _ rfl (by decide) rfl) rfl ?_
 refine AA _ (AF rfl) rfl ?_
 refine AP 6 14 false _ _ rfl rfl (by decide) (AF rfl) rfl ?_
 refine AP 6 14 false _ (.bool (decide (((mn:Int)) < (1:Int)))) rfl rfl (by decide) (AR rfl rfl fun _ => CH _ _) rfl ?_
 refine AA _ (A3 _ rfl (by decide) rfl) rfl ?_
 refine AA _ (AF rfl) rfl ?_
 refine AP 10 18 false _ _ rfl rfl (decide_eq_false (by omega)) (AF rfl) rfl ?_
 refine AP 10 18 false _ (.bool (decide ((256:Int) < ((mn:Int))))) rfl rfl (decide_eq_false (by omega)) (AR rfl rfl fun _ => DD _ _) rfl ?_
 refine AA _ (A3 _ rfl (decide_eq_false (by omega)) rfl) rfl ?_
 refine AI (AC (BP _ rfl (decide_eq_false (by omega)) ?_))
 refine BF (AC (AH (AB (AA _ (AF rfl) rfl ?_))))
 refine AA (U64 ((1:UInt64) <<< (32:UInt64))) (AR rfl rfl fun _ => bin_shl_u64 (1:UInt64) _ _ 32 (by decide) rfl) rfl ?_
 refine AA _ (AE rfl) rfl ?_
 refine AI (AC (AH (AB (AA _ (AF rfl) rfl ?_))))
 refine AA _ (AF rfl) rfl ?_
 refine AA (.bool (decide (fs < ((1:UInt64) <<< (32:UInt64))))) (AR rfl rfl fun _ => bin_lss_u64 fs ((1:UInt64) <<< (32:UInt64))) rfl ?_
 refine AA _ (AF rfl) rfl ?_
 rcases Bool.eq_false_or_eq_true (decide (fs < ((1:UInt64) <<< (32:UInt64)))) with hb1 | hb1
 ·
  have hp1 : fs < ((1:UInt64) <<< (32:UInt64)) := of_decide_eq_true hb1
  refine AP 3 27 true _ _ rfl rfl hb1 (AF rfl) rfl ?_
  refine AP 3 27 true _ (U64 (UInt64.ofNat mn)) rfl rfl hb1 (CM _ _ rfl fun _ => DW (by rw [A6]; rfl) AW mn _ (by omega)) rfl ?_
  refine AP 3 27 true _ _ rfl rfl hb1 (AF rfl) rfl ?_
  refine AP 3 27 true _ _ rfl rfl hb1 (AF rfl) rfl ?_
  refine AP 3 27 true _ (U64 (((1:UInt64) <<< (32:UInt64)) - fs)) rfl rfl hb1 (AR rfl rfl fun _ => bin_sub_u64 ((1:UInt64) <<< (32:UInt64)) fs) rfl ?_
  refine AP 3 27 true _ (.bool (decide ((UInt64.ofNat mn) ≤ (((1:UInt64) <<< (32:UInt64)) - fs)))) rfl rfl hb1 (AR rfl rfl fun _ => bin_leq_u64 (UInt64.ofNat mn) (((1:UInt64) <<< (32:UInt64)) - fs)) rfl ?_
  refine AA _ (BD _ rfl hb1 rfl) rfl ?_
  refine AA _ (AE rfl) rfl ?_
  refine AI (AC (BI (BH (.bool (decide ((UInt64.ofNat mn) ≤ (((1:UInt64) <<< (32:UInt64)) - fs)))) (res1 Tryd.results86 (BC rfl)) fun w1 hw1 => ?_)))
  refine ⟨_, [], rfl, ⟨congrArg Value.bool ?_, rfl⟩, hw1.sub (by simp) (by simp)⟩
  rw [span_ok h1 h2]
  first | exact (decide_eq_false (span_no (by assumption) h1)).symm | exact decide_eq_decide.2 ⟨fun h => span_hi (by assumption) h h2, fun e => Classical.byContradiction (fun hn => span_lo (by assumption) hn h2 e)⟩
 ·
  have hp1 : ¬ (fs < ((1:UInt64) <<< (32:UInt64))) := of_decide_eq_false hb1
  refine AG 3 27 true _ rfl rfl hb1 rfl ?_
  refine AG 3 27 true _ rfl rfl hb1 rfl ?_
  refine AG 3 27 true _ rfl rfl hb1 rfl ?_
  refine AG 3 27 true _ rfl rfl hb1 rfl ?_
  refine AG 3 27 true _ rfl rfl hb1 rfl ?_
  refine AG 3 27 true _ rfl rfl hb1 rfl ?_
  refine AA _ (A3 _ rfl hb1 rfl) rfl ?_
  refine AA _ (AE rfl) rfl ?_
  refine AI (AC (BI (BH (.bool false) (res1 Tryd.results86 (BC rfl)) fun w1 hw1 => ?_)))
  refine ⟨_, [], rfl, ⟨congrArg Value.bool ?_, rfl⟩, hw1.sub (by simp) (by simp)⟩
  rw [span_ok h1 h2]
  first | exact (decide_eq_false (span_no (by assumption) h1)).symm | exact decide_eq_decide.2 ⟨fun h => span_hi (by assumption) h h2, fun e => Classical.byContradiction (fun hn => span_lo (by assumption) hn h2 e)⟩
theorem span_w (fs : UInt64) (mn : Int) (w : World) : Calls Tryd.prog 86 #[I64 32, U64 fs, I64 mn] w (Post w [] (fun v L => v = .bool (spanB fs mn) ∧ L = [])) := by
  by_cases h1 : mn < 1
  · exact spanA_c fs mn w h1
  by_cases h2 : 256 < mn
  · exact spanB_c fs mn w h2
  · obtain ⟨k, rfl⟩ : ∃ k : Nat, mn = k := ⟨mn.toNat, by omega⟩
    exact spanC_c fs k w (by omega) (by omega)
theorem blank_c (pv ep : UInt64) (kd : Int) (ai : Option Addr) (ni ci : Nat) (l : List UInt64) (sa : Option Addr) (ns sc : Nat) (ls : List SealR) (bl : UInt64) (tg : List UInt8)  (w : World) (hl : l.length = ni) (hnm : ni ≤ 2000000) (hnc : ni ≤ ci) (hcm : ci ≤ maxLen) (hv : RdV w ai (cu64 l)) (hls : ls.length = ns) (hnn : ns ≤ 2000000) (hnd : ns ≤ sc) (hcn : sc ≤ maxLen) (hs : RdV w sa (ls.flatMap sealC)) (htg : tg.length = 16)  : Calls Tryd.prog 84 #[.agg ([U64 pv, U64 ep, I64 (kd), SL ai ni ci, SL sa ns sc, U64 bl] ++ cu8 tg).toArray] w (Post w [] (fun v L => v = .bool (blankB pv ep kd l ls bl tg) ∧ L = [])) := by
 have hmx : maxLen = 9223372036854775807 := rfl
 refine enter (P := Tryd.prog) (f := 84) (fn := Tryd.f84) w [] 6 [] [.agg ([U64 pv, U64 ep, I64 (kd), SL ai ni ci, SL sa ns sc, U64 bl] ++ cu8 tg).toArray] Tryd.func84 rfl rfl (by simp) (BW (by simp) (by simp) (by simp)) ?_
 show JC _ _ _ [(0, .agg ([U64 pv, U64 ep, I64 (kd), SL ai ni ci, SL sa ns sc, U64 bl] ++ cu8 tg).toArray)] _
 refine AH (AB (A4 (C5 (.agg ([U64 pv, U64 ep, I64 (kd), SL ai ni ci, SL sa ns sc, U64 bl] ++ cu8 tg).toArray) ([U64 pv, U64 ep, I64 (kd), SL ai ni ci, SL sa ns sc, U64 bl] ++ cu8 tg) rfl (by first | rfl | simp)) rfl ?_))
 rintro v1 L1 ⟨nb1, hnb1, rfl, rfl⟩
 show JL _ _ _ _ ((1, Ptr nb1 0) :: _) [⟨nb1, [U64 pv, U64 ep, I64 (kd), SL ai ni ci, SL sa ns sc, U64 bl] ++ cu8 tg, 29, (0, 0)⟩]
 refine AA _ (AE rfl) rfl ?_
 refine AI (AC (AH (AB (AA (.agg ([U64 pv, U64 ep, I64 (kd), SL ai ni ci, SL sa ns sc, U64 bl] ++ cu8 tg).toArray) (AO rfl (BU B7 BG (by simp [htg]) (AU 0 rfl (AQ _)))) rfl ?_))))
 refine AA (.agg ([U64 0, U64 0, I64 0, SL none 0 0, SL none 0 0, U64 0] ++ cu8 (zr8 16)).toArray) (CP [] _ rfl (fun _ => by kernel_rfl)) rfl ?_
 refine A7 (A2 49 [.agg ([U64 pv, U64 ep, I64 (kd), SL ai ni ci, SL sa ns sc, U64 bl] ++ cu8 tg).toArray, .agg ([U64 0, U64 0, I64 0, SL none 0 0, SL none 0 0, U64 0] ++ cu8 (zr8 16)).toArray] (.bool (decide (pv = (0:UInt64) ∧ ep = (0:UInt64) ∧ tg = (zr8 16) ∧ (kd) = (0:Int) ∧ bl = (0:UInt64) ∧ l = ([] : List UInt64) ∧ ls = ([] : List SealR)))) (AS _ Tryd.call49 rfl) (fun w1 hw1 => same13_c pv ep (kd) ai ni ci l sa ns sc ls bl tg (0:UInt64) (0:UInt64) (0:Int) none 0 0 ([] : List UInt64) none 0 0 ([] : List SealR) (0:UInt64) (zr8 16) w1 hl (by omega) (by omega) (by omega) (C2 hw1 rfl hv) hls (by omega) (by omega) (by omega) (C2 hw1 rfl hs) htg rfl (by omega) (by omega) (by omega) RdV.nil rfl (by omega) (by omega) (by omega) RdV.nil (AN 16))) rfl ?_
 show JL _ _ _ _ ((5, .bool (decide (pv = (0:UInt64) ∧ ep = (0:UInt64) ∧ tg = (zr8 16) ∧ (kd) = (0:Int) ∧ bl = (0:UInt64) ∧ l = ([] : List UInt64) ∧ ls = ([] : List SealR)))) :: _) [_]
 refine AA _ (AE rfl) rfl ?_
 refine AI (AC (BI (B4 [false] ?_)))
 show JQ _ _ _ _ []
 refine BH (.bool (decide (pv = (0:UInt64) ∧ ep = (0:UInt64) ∧ tg = (zr8 16) ∧ (kd) = (0:Int) ∧ bl = (0:UInt64) ∧ l = ([] : List UInt64) ∧ ls = ([] : List SealR)))) (res1 Tryd.results84 (BC rfl)) fun w1 hw1 => ?_
 exact ⟨_, [], rfl, ⟨congrArg Value.bool (show _ = _ from by unfold blankB; rfl), rfl⟩, hw1.sub (by simp) (by simp)⟩
theorem wmayK_c (pv ep : UInt64) (k : Nat) (ai : Option Addr) (ni ci : Nat) (l : List UInt64) (sa : Option Addr) (ns sc : Nat) (ls : List SealR) (bl : UInt64) (tg : List UInt8) (tot : Nat)  (w : World) (hl : l.length = ni) (hnm : ni ≤ 2000000) (hnc : ni ≤ ci) (hcm : ci ≤ maxLen) (hv : RdV w ai (cu64 l)) (hls : ls.length = ns) (hnn : ns ≤ 2000000) (hnd : ns ≤ sc) (hcn : sc ≤ maxLen) (hs : RdV w sa (ls.flatMap sealC)) (htg : tg.length = 16) (hmay : mayN pv ep (k:Int) l ls bl = 0) (hk : k = 1 ∨ k = 2 ∨ k = 3) (hsm : ns ≤ 300) (htot : tktN k ni ns = tot) (htb : tot ≤ 30000)  : Calls Tryd.prog 87 #[.agg ([U64 pv, U64 ep, I64 k, SL ai ni ci, SL sa ns sc, U64 bl] ++ cu8 tg).toArray] w (Post w [] (fun v L => v = .bool true ∧ L = [])) := by
 have hmx : maxLen = 9223372036854775807 := rfl
 refine enter (P := Tryd.prog) (f := 87) (fn := Tryd.f87) w [] 12 [] [.agg ([U64 pv, U64 ep, I64 k, SL ai ni ci, SL sa ns sc, U64 bl] ++ cu8 tg).toArray] Tryd.func87 rfl rfl (by simp) (BW (by simp) (by simp) (by simp)) ?_
 show JC _ _ _ [(0, .agg ([U64 pv, U64 ep, I64 k, SL ai ni ci, SL sa ns sc, U64 bl] ++ cu8 tg).toArray)] _
 refine AH (AB (A4 (C5 (.agg ([U64 pv, U64 ep, I64 k, SL ai ni ci, SL sa ns sc, U64 bl] ++ cu8 tg).toArray) ([U64 pv, U64 ep, I64 k, SL ai ni ci, SL sa ns sc, U64 bl] ++ cu8 tg) rfl (by first | rfl | simp)) rfl ?_))
 rintro v1 L1 ⟨nb1, hnb1, rfl, rfl⟩
 show JL _ _ _ _ ((1, Ptr nb1 0) :: _) [⟨nb1, [U64 pv, U64 ep, I64 k, SL ai ni ci, SL sa ns sc, U64 bl] ++ cu8 tg, 29, (0, 0)⟩]
 refine AA _ (AE rfl) rfl ?_
 refine AI (AC (AH (AB (AA (.agg ([U64 pv, U64 ep, I64 k, SL ai ni ci, SL sa ns sc, U64 bl] ++ cu8 tg).toArray) (AO rfl (BU B7 BG (by simp [htg]) (AU 0 rfl (AQ _)))) rfl ?_))))
 refine A4 (CZ 47 [.agg ([U64 pv, U64 ep, I64 k, SL ai ni ci, SL sa ns sc, U64 bl] ++ cu8 tg).toArray] _ (AS _ Tryd.call47 rfl) (fun w1 hw1 => put13_c pv ep k ai ni ci l sa ns sc ls bl tg tot w1 hl (by omega) (by omega) (by omega) (C2 hw1 rfl hv) hls (by omega) (by omega) (by omega) (C2 hw1 rfl hs) htg hmay hk hsm htot (by omega))) rfl ?_
 rintro v1 L1 ⟨_, ⟨nb2, sp1, cp1, rfl, rfl, hc1, hc2, hc3⟩, rfl⟩
 show JL _ _ _ _ ((7, .tuple #[Slc nb2 0 (tot + 16) cp1, .nilIface]) :: _) [_, ⟨nb2, cu8 ((tktT pv ep k l ls bl) ++ tg) ++ sp1, 5, (0, 0)⟩]
 refine AA _ (AF rfl) rfl ?_
 refine AA _ (BE rfl rfl) rfl ?_
 refine AA _ (BE rfl rfl) rfl ?_
 refine AA _ (AE rfl) rfl ?_
 refine AA _ (AE rfl) rfl ?_
 refine AI (AC (AH (AB (AA _ (AF rfl) rfl ?_))))
 refine AA (.bool true) (C7 _ _ _ rfl rfl (fun _ => FB ..) fun _ => FG BB) rfl ?_
 refine AA _ (AE rfl) rfl ?_
 refine AI (AC (BI (B4 [false, false] ?_)))
 show JQ _ _ _ _ []
 refine BH (.bool true) (res1 Tryd.results87 (BC rfl)) fun w1 hw1 => ?_
 exact ⟨_, [], rfl, ⟨rfl, rfl⟩, hw1.sub (by simp) (by simp)⟩
theorem wmayB_c (pv ep : UInt64) (kd : Int) (ai : Option Addr) (ni ci : Nat) (l : List UInt64) (sa : Option Addr) (ns sc : Nat) (ls : List SealR) (bl : UInt64) (tg : List UInt8)  (w : World) (hl : l.length = ni) (hnm : ni ≤ 2000000) (hnc : ni ≤ ci) (hcm : ci ≤ maxLen) (hv : RdV w ai (cu64 l)) (hls : ls.length = ns) (hnn : ns ≤ 2000000) (hnd : ns ≤ sc) (hcn : sc ≤ maxLen) (hs : RdV w sa (ls.flatMap sealC)) (htg : tg.length = 16) (hm : mayN pv ep kd l ls bl ≠ 0)  : Calls Tryd.prog 87 #[.agg ([U64 pv, U64 ep, I64 (kd), SL ai ni ci, SL sa ns sc, U64 bl] ++ cu8 tg).toArray] w (Post w [] (fun v L => v = .bool false ∧ L = [])) := by
 have hmx : maxLen = 9223372036854775807 := rfl
 refine enter (P := Tryd.prog) (f := 87) (fn := Tryd.f87) w [] 12 [] [.agg ([U64 pv, U64 ep, I64 (kd), SL ai ni ci, SL sa ns sc, U64 bl] ++ cu8 tg).toArray] Tryd.func87 rfl rfl (by simp) (BW (by simp) (by simp) (by simp)) ?_
 show JC _ _ _ [(0, .agg ([U64 pv, U64 ep, I64 (kd), SL ai ni ci, SL sa ns sc, U64 bl] ++ cu8 tg).toArray)] _
 refine AH (AB (A4 (C5 (.agg ([U64 pv, U64 ep, I64 (kd), SL ai ni ci, SL sa ns sc, U64 bl] ++ cu8 tg).toArray) ([U64 pv, U64 ep, I64 (kd), SL ai ni ci, SL sa ns sc, U64 bl] ++ cu8 tg) rfl (by first | rfl | simp)) rfl ?_))
 rintro v1 L1 ⟨nb1, hnb1, rfl, rfl⟩
 show JL _ _ _ _ ((1, Ptr nb1 0) :: _) [⟨nb1, [U64 pv, U64 ep, I64 (kd), SL ai ni ci, SL sa ns sc, U64 bl] ++ cu8 tg, 29, (0, 0)⟩]
 refine AA _ (AE rfl) rfl ?_
 refine AI (AC (AH (AB (AA (.agg ([U64 pv, U64 ep, I64 (kd), SL ai ni ci, SL sa ns sc, U64 bl] ++ cu8 tg).toArray) (AO rfl (BU B7 BG (by simp [htg]) (AU 0 rfl (AQ _)))) rfl ?_))))
 refine A7 (A2 47 [.agg ([U64 pv, U64 ep, I64 (kd), SL ai ni ci, SL sa ns sc, U64 bl] ++ cu8 tg).toArray] (.tuple #[SL none 0 0, errV 50 (mayN pv ep (kd) l ls bl)]) (AS _ Tryd.call47 rfl) (fun w1 hw1 => putB_c pv ep (kd) ai ni ci l sa ns sc ls bl tg w1 hl (by omega) (by omega) (by omega) (C2 hw1 rfl hv) hls (by omega) (by omega) (by omega) (C2 hw1 rfl hs) htg hm)) rfl ?_
 show JL _ _ _ _ ((7, .tuple #[SL none 0 0, errV 50 (mayN pv ep (kd) l ls bl)]) :: _) [_]
 refine AA _ (AF rfl) rfl ?_
 refine AA _ (BE rfl rfl) rfl ?_
 refine AA _ (BE rfl rfl) rfl ?_
 refine AA _ (AE rfl) rfl ?_
 refine AA _ (AE rfl) rfl ?_
 refine AI (AC (AH (AB (AA _ (AF rfl) rfl ?_))))
 refine AA (.bool (decide (mayN pv ep (kd) l ls bl = 0))) (C7 _ _ _ rfl rfl (fun _ => B6 ..) fun _ => eql_errV BB _ _) rfl ?_
 refine AA _ (AE rfl) rfl ?_
 refine AI (AC (BI (B4 [false] ?_)))
 show JQ _ _ _ _ []
 refine BH (.bool (decide (mayN pv ep (kd) l ls bl = 0))) (res1 Tryd.results87 (BC rfl)) fun w1 hw1 => ?_
 exact ⟨_, [], rfl, ⟨congrArg Value.bool (decide_eq_false hm), rfl⟩, hw1.sub (by simp) (by simp)⟩
theorem wmay_w (pv ep : UInt64) (kd : Int) (ai : Option Addr) (ni ci : Nat) (l : List UInt64) (sa : Option Addr) (ns sc : Nat) (ls : List SealR) (bl : UInt64) (tg : List UInt8) (w : World) (hl : l.length = ni) (hnm : ni ≤ 2000000) (hnc : ni ≤ ci) (hcm : ci ≤ maxLen) (hv : RdV w ai (cu64 l)) (hls : ls.length = ns) (hnn : ns ≤ 2000000) (hnd : ns ≤ sc) (hcn : sc ≤ maxLen) (hs : RdV w sa (ls.flatMap sealC)) (htg : tg.length = 16) (hbi : ni ≤ 300) (hbs : ns ≤ 300) : Calls Tryd.prog 87 #[.agg ([U64 pv, U64 ep, I64 (kd), SL ai ni ci, SL sa ns sc, U64 bl] ++ cu8 tg).toArray] w (Post w [] (fun v L => v = .bool (decide (mayN pv ep kd l ls bl = 0)) ∧ L = [])) := by
  by_cases hm : mayN pv ep kd l ls bl = 0
  · obtain ⟨k, rfl, hk⟩ : ∃ k : Nat, kd = k ∧ (k = 1 ∨ k = 2 ∨ k = 3) := by
      rcases RightO_cases (mayN_right hm) with ⟨rfl, _⟩ | ⟨rfl, _⟩ | ⟨rfl, _⟩
      · exact ⟨1, rfl, .inl rfl⟩
      · exact ⟨2, rfl, .inr (.inl rfl)⟩
      · exact ⟨3, rfl, .inr (.inr rfl)⟩
    rw [decide_eq_true hm]
    exact wmayK_c pv ep k ai ni ci l sa ns sc ls bl tg (tktN k ni ns) w hl hnm hnc hcm hv hls hnn hnd hcn hs htg hm hk hbs rfl (tktN_le (by omega) (by omega))
  · rw [decide_eq_false hm]
    exact wmayB_c pv ep kd ai ni ci l sa ns sc ls bl tg w hl hnm hnc hcm hv hls hnn hnd hcn hs htg hm
set_option maxHeartbeats 4000000 in
theorem FA (sq : UInt64) (qk : Int) (aiq : Option Addr) (niq ciq : Nat) (lq : List UInt64) (fs : UInt64) (mn : Int) (pv ep : UInt64) (kd : Int) (ai : Option Addr) (ni ci : Nat) (l : List UInt64) (sa : Option Addr) (ns sc : Nat) (ls : List SealR) (bl : UInt64) (tg : List UInt8) (eq : UInt64)  (w : World) (hlq : lq.length = niq) (hnmq : niq ≤ 2000000) (hncq : niq ≤ ciq) (hcmq : ciq ≤ maxLen) (hvq : RdV w aiq (cu64 lq)) (hl : l.length = ni) (hnm : ni ≤ 2000000) (hnc : ni ≤ ci) (hcm : ci ≤ maxLen) (hv : RdV w ai (cu64 l)) (hls : ls.length = ns) (hnn : ns ≤ 2000000) (hnd : ns ≤ sc) (hcn : sc ≤ maxLen) (hs : RdV w sa (ls.flatMap sealC)) (htg : tg.length = 16) (hbi : ni ≤ 300) (hbs : ns ≤ 300)  : Calls Tryd.prog 22 #[.agg ([U64 sq, I64 (qk), SL aiq niq ciq, U64 fs, I64 (mn), U64 pv, U64 ep, I64 (kd), SL ai ni ci, SL sa ns sc, U64 bl] ++ cu8 tg ++ [U64 eq]).toArray] w (Post w [] (fun v L => v = .bool (reqR qk lq fs mn eq (blankB pv ep kd l ls bl tg) (decide (mayN pv ep kd l ls bl = 0))) ∧ L = [])) := by
 have hmx : maxLen = 9223372036854775807 := rfl
 refine enter (P := Tryd.prog) (f := 22) (fn := Tryd.f22) w [] 86 [] [.agg ([U64 sq, I64 (qk), SL aiq niq ciq, U64 fs, I64 (mn), U64 pv, U64 ep, I64 (kd), SL ai ni ci, SL sa ns sc, U64 bl] ++ cu8 tg ++ [U64 eq]).toArray] Tryd.func22 rfl rfl (by simp) (BW (by simp) (by simp) (by simp)) ?_
 show JC _ _ _ [(0, .agg ([U64 sq, I64 (qk), SL aiq niq ciq, U64 fs, I64 (mn), U64 pv, U64 ep, I64 (kd), SL ai ni ci, SL sa ns sc, U64 bl] ++ cu8 tg ++ [U64 eq]).toArray)] _
 refine AH (AB (A4 (C5 (.agg ([U64 sq, I64 (qk), SL aiq niq ciq, U64 fs, I64 (mn), U64 pv, U64 ep, I64 (kd), SL ai ni ci, SL sa ns sc, U64 bl] ++ cu8 tg ++ [U64 eq]).toArray) ([U64 sq, I64 (qk), SL aiq niq ciq, U64 fs, I64 (mn), U64 pv, U64 ep, I64 (kd), SL ai ni ci, SL sa ns sc, U64 bl] ++ cu8 tg ++ [U64 eq]) rfl (by first | rfl | simp)) rfl ?_))
 rintro v1 L1 ⟨nb1, hnb1, rfl, rfl⟩
 show JL _ _ _ _ ((1, Ptr nb1 0) :: _) [⟨nb1, [U64 sq, I64 (qk), SL aiq niq ciq, U64 fs, I64 (mn), U64 pv, U64 ep, I64 (kd), SL ai ni ci, SL sa ns sc, U64 bl] ++ cu8 tg ++ [U64 eq], 31, (0, 0)⟩]
 refine AA _ (AE rfl) rfl ?_
 refine AI (AC (AH ?_))
 rcases Bool.eq_false_or_eq_true (decide ((0:UInt64) < fs)) with hb1 | hb1
 ·
  have hp1 : (0:UInt64) < fs := of_decide_eq_true hb1
  refine DC 86 2 [(0, Ptr nb1 2), (1, SL aiq niq ciq), (2, I64 niq), (3, .bool (decide ((0:Int) < ((niq:Int))))), (4, Ptr nb1 3), (5, U64 fs), (6, .bool (decide ((0:UInt64) < fs))), (7, .bool (decide ((0:UInt64) < fs))), (8, undef), (9, undef), (10, undef), (11, .bool true), (12, Ptr nb1 5), (13, .agg ([U64 pv, U64 ep, I64 (kd), SL ai ni ci, SL sa ns sc, U64 bl] ++ cu8 tg).toArray), (16, Ptr nb1 27), (17, U64 eq), (18, .bool (decide ((0:UInt64) < eq)))] CA rfl (by decide +kernel) ?_
  refine CW ⟨[], [0, 1, 2, 3, 4, 5, 6, 7, 8, 9, 10, 11, 12, 13, 16, 17, 18], [], [0, 1, 2, 3, 4, 5, 6, 7, 8, 9, 10, 11, 12, 13, 16, 17, 18], [14]⟩ 14 _ rfl rfl (by decide +kernel) rfl ⟨⟨_, rfl, AL rfl (AD 2 23 1 AX rfl B2 rfl rfl)⟩, ⟨_, rfl, AL rfl (AO rfl (A0 CQ (AU 0 rfl (AJ (AJ (AK (AK (Seg.head))))))))⟩, ⟨_, rfl, AL rfl (DY BX rfl)⟩, ⟨_, rfl, AL rfl (AR rfl rfl fun _ => DD _ _)⟩, ⟨_, rfl, AL rfl (AD 3 22 1 AX rfl A9 rfl rfl)⟩, ⟨_, rfl, AL rfl (AO rfl (A0 BN (AU 0 rfl (AJ (AJ (AK (AK (AK (Seg.head)))))))))⟩, ⟨_, rfl, AL rfl (AR rfl rfl fun _ => bin_gtr_u64 fs (0:UInt64))⟩, CG rfl rfl rfl, ⟨_, rfl, DN 7 14 false _ rfl rfl rfl hb1⟩, ⟨_, rfl, DN 7 14 false _ rfl rfl rfl hb1⟩, ⟨_, rfl, DN 7 14 false _ rfl rfl rfl hb1⟩, ⟨_, rfl, AL rfl (BD _ rfl hb1 rfl)⟩, ⟨_, rfl, AL rfl (AD 5 29 22 AX rfl BG rfl rfl)⟩, ⟨_, rfl, AL rfl (AO rfl (BU B7 BG (by simp [htg]) (AU 0 rfl (D6 (p := [U64 sq, I64 (qk), SL aiq niq ciq, U64 fs, I64 (mn)]) (q := [U64 eq]) (vs := [U64 pv, U64 ep, I64 (kd), SL ai ni ci, SL sa ns sc, U64 bl] ++ cu8 tg) (by first | rfl | (simp only [List.append_assoc, List.nil_append, List.append_nil, List.cons_append]; done)) rfl))))⟩, ⟨_, rfl, AL rfl (AD 27 22 1 AX rfl A9 rfl rfl)⟩, ⟨_, rfl, AL rfl (AO rfl (A0 BN (AU 0 rfl (Seg.right 27 0 (by simp [htg]) rfl (Seg.head)))))⟩, ⟨_, rfl, AL rfl (AR rfl rfl fun _ => bin_gtr_u64 eq (0:UInt64))⟩, trivial⟩ rfl (BO rfl (A2 84 [.agg ([U64 pv, U64 ep, I64 (kd), SL ai ni ci, SL sa ns sc, U64 bl] ++ cu8 tg).toArray] (.bool (blankB pv ep (kd) l ls bl tg)) (AS _ Tryd.call84 rfl) (fun w1 hw1 => blank_c pv ep (kd) ai ni ci l sa ns sc ls bl tg w1 hl (by omega) (by omega) (by omega) (C2 hw1 rfl hv) hls (by omega) (by omega) (by omega) (C2 hw1 rfl hs) htg))) ?_
  rintro v1 L1 ⟨rfl, rfl⟩
  refine ⟨[(15, .bool (!(blankB pv ep (kd) l ls bl tg))), (19, .bool (decide ((0:Int) < ((niq:Int))))), (20, .bool true), (21, .bool (!(blankB pv ep (kd) l ls bl tg))), (22, .bool (decide ((0:UInt64) < eq)))], ?_⟩
  show DP _ _ _ _ _ _ _ _ [_]
  refine DU ⟨[14], [0, 1, 2, 3, 4, 5, 6, 7, 8, 9, 10, 11, 12, 13, 15, 16, 17, 18, 19, 20, 21, 22], [4, 5, 6, 7, 12, 13], [0, 1, 2, 3, 8, 9, 10, 11, 15, 16, 17, 18, 19, 20, 21, 22], []⟩ rfl rfl (by decide +kernel) rfl ⟨⟨_, rfl, AL rfl (AD 2 23 1 AX rfl B2 rfl rfl)⟩, ⟨_, rfl, AL rfl (AO rfl (A0 CQ (AU 0 rfl (AJ (AJ (AK (AK (Seg.head))))))))⟩, ⟨_, rfl, AL rfl (DY BX rfl)⟩, ⟨_, rfl, AL rfl (AR rfl rfl fun _ => DD _ _)⟩, ⟨_, rfl, DN 7 14 false _ rfl rfl rfl hb1⟩, ⟨_, rfl, DN 7 14 false _ rfl rfl rfl hb1⟩, ⟨_, rfl, DN 7 14 false _ rfl rfl rfl hb1⟩, ⟨_, rfl, AL rfl (BD _ rfl hb1 rfl)⟩, ⟨_, rfl, AL rfl (DG rfl)⟩, ⟨_, rfl, AL rfl (AD 27 22 1 AX rfl A9 rfl rfl)⟩, ⟨_, rfl, AL rfl (AO rfl (A0 BN (AU 0 rfl (Seg.right 27 0 (by simp [htg]) rfl (Seg.head)))))⟩, ⟨_, rfl, AL rfl (AR rfl rfl fun _ => bin_gtr_u64 eq (0:UInt64))⟩, ⟨_, rfl, AL rfl (AE rfl)⟩, ⟨_, rfl, AL rfl (AE rfl)⟩, ⟨_, rfl, AL rfl (AE rfl)⟩, ⟨_, rfl, AL rfl (AE rfl)⟩, trivial⟩ ?_
  refine C6 (F' := [(3, .bool (decide ((0:Int) < ((niq:Int))))), (4, .bool true), (5, .bool (!(blankB pv ep (kd) l ls bl tg))), (6, .bool (decide ((0:UInt64) < eq))), (1, Ptr nb1 0), (2, .bool false)]) (by kernel_rfl) ?_
  refine AC (AH (AH (AB (AA (Ptr nb1 1) (AD 1 3 1 AX rfl AT rfl rfl) rfl ?_))))
  refine AA (I64 (qk)) (AO rfl (A0 AY (AU 0 rfl (AJ (AJ (AK (Seg.head))))))) rfl ?_
  refine AI (AC (B5 (AH (AB (AA (.bool (decide ((qk) = (1:Int)))) (AR rfl rfl fun _ => BK _ _) rfl ?_)))))
  refine AA _ (AE rfl) rfl ?_
  refine AI (AC (B9 (decide ((qk) = (1:Int))) rfl (fun hb2 => ?_) (fun hb2 => ?_)))
  ·
   have hp2 : (qk) = (1:Int) := of_decide_eq_true hb2
   refine AH (AB (AA _ (AF rfl) rfl ?_))
   refine AA (.bool (!true)) (DG rfl) rfl ?_
   refine AA _ (AF rfl) rfl ?_
   refine AG 2 32 true _ rfl rfl rfl rfl ?_
   refine AG 2 32 true _ rfl rfl rfl rfl ?_
   refine AA _ (A3 _ rfl rfl rfl) rfl ?_
   refine AA _ (AF rfl) rfl ?_
   refine AG 6 36 true _ rfl rfl rfl rfl ?_
   refine AG 6 36 true _ rfl rfl rfl rfl ?_
   refine AG 6 36 true _ rfl rfl rfl rfl ?_
   refine AA _ (A3 _ rfl rfl rfl) rfl ?_
   refine AA _ (AE rfl) rfl ?_
   refine AI (AC (BI (CD (A1 (B4 [false] ?_)))))
   show JQ _ _ _ _ []
   refine BH (.bool false) (res1 CO (BC rfl)) fun w1 hw1 => ?_
   refine ⟨_, [], rfl, ⟨congrArg Value.bool ?_, rfl⟩, hw1.sub (by simp) (by simp)⟩
   unfold reqR
   rw [hlq]
   first | (simp [CJ, *]; done) | (simp [CJ, *] at *; simp [*]; done) | (simp_all [CJ]; done) | (simp_all [CJ]; omega)
  ·
   have hp2 : ¬ ((qk) = (1:Int)) := of_decide_eq_false hb2
   refine AH (AB (AA (.bool (decide ((qk) = (2:Int)))) (AR rfl rfl fun _ => BK _ _) rfl ?_))
   refine AA _ (AE rfl) rfl ?_
   refine AI (AC (B9 (decide ((qk) = (2:Int))) rfl (fun hb3 => ?_) (fun hb3 => ?_)))
   ·
    have hp3 : (qk) = (2:Int) := of_decide_eq_true hb3
    refine AH (AB (AA _ (AF rfl) rfl ?_))
    refine AA (.bool (!(decide ((0:Int) < ((niq:Int)))))) (DG rfl) rfl ?_
    refine AA _ (AF rfl) rfl ?_
    rcases Bool.eq_false_or_eq_true (decide ((0:Int) < ((niq:Int)))) with hb4 | hb4
    ·
     have hp4 : (0:Int) < ((niq:Int)) := of_decide_eq_true hb4
     refine AG 2 45 true _ rfl rfl (bnotT hb4) rfl ?_
     refine AG 2 45 true _ rfl rfl (bnotT hb4) rfl ?_
     refine AA _ (A3 _ rfl (bnotT hb4) rfl) rfl ?_
     refine AA _ (AF rfl) rfl ?_
     refine AG 6 49 true _ rfl rfl rfl rfl ?_
     refine AG 6 49 true _ rfl rfl rfl rfl ?_
     refine AG 6 49 true _ rfl rfl rfl rfl ?_
     refine AG 6 49 true _ rfl rfl rfl rfl ?_
     refine AG 6 49 true _ rfl rfl rfl rfl ?_
     refine AA _ (A3 _ rfl rfl rfl) rfl ?_
     refine AA _ (AE rfl) rfl ?_
     refine AI (AC (BI (CD (A1 (B4 [false] ?_)))))
     show JQ _ _ _ _ []
     refine BH (.bool false) (res1 CO (BC rfl)) fun w1 hw1 => ?_
     refine ⟨_, [], rfl, ⟨congrArg Value.bool ?_, rfl⟩, hw1.sub (by simp) (by simp)⟩
     have h9 : niq ≠ 0 := by omega
     unfold reqR
     rw [hlq]
     first | (simp [CJ, *]; done) | (simp [CJ, *] at *; simp [*]; done) | (simp_all [CJ]; done) | (simp_all [CJ]; omega)
    ·
     have hp4 : ¬ ((0:Int) < ((niq:Int))) := of_decide_eq_false hb4
     refine AP 2 45 true _ _ rfl rfl (bnotF hb4) (AF rfl) rfl ?_
     refine AP 2 45 true _ (.bool (!(!(blankB pv ep (kd) l ls bl tg)))) rfl rfl (bnotF hb4) (DG rfl) rfl ?_
     refine AA _ (BD _ rfl (bnotF hb4) rfl) rfl ?_
     refine AA _ (AF rfl) rfl ?_
     rcases Bool.eq_false_or_eq_true (blankB pv ep (kd) l ls bl tg) with hb5 | hb5
     ·
      refine AP 6 49 true _ (Ptr nb1 3) rfl rfl (bnotF (bnotT hb5)) (AD 3 22 1 AX rfl A9 rfl rfl) rfl ?_
      refine AP 6 49 true _ (U64 fs) rfl rfl (bnotF (bnotT hb5)) (AO rfl (A0 BN (AU 0 rfl (AJ (AJ (AK (AK (AK (Seg.head))))))))) rfl ?_
      refine AP 6 49 true _ (Ptr nb1 4) rfl rfl (bnotF (bnotT hb5)) (AD 4 3 1 AX rfl AT rfl rfl) rfl ?_
      refine AP 6 49 true _ (I64 (mn)) rfl rfl (bnotF (bnotT hb5)) (AO rfl (A0 AY (AU 0 rfl (AJ (AJ (AK (AK (AK (AK (Seg.head)))))))))) rfl ?_
      refine DL 6 49 true _ rfl rfl (bnotF (bnotT hb5)) (A2 86 [I64 32, U64 fs, I64 (mn)] (.bool (spanB fs (mn))) (AS _ Tryd.call86 rfl) (fun w1 hw1 => span_w fs (mn) w1 )) rfl ?_
      rintro v1 L1 ⟨rfl, rfl⟩
      show JL _ _ _ _ ((54, .bool (spanB fs (mn))) :: _) [_]
      refine AA _ (BD _ rfl (bnotF (bnotT hb5)) rfl) rfl ?_
      refine AA _ (AE rfl) rfl ?_
      refine AI (AC (BI (CD (A1 (B4 [false] ?_)))))
      show JQ _ _ _ _ []
      refine BH (.bool (spanB fs (mn))) (res1 CO (BC rfl)) fun w1 hw1 => ?_
      refine ⟨_, [], rfl, ⟨congrArg Value.bool ?_, rfl⟩, hw1.sub (by simp) (by simp)⟩
      unfold reqR
      rw [hlq]
      first | (simp [CJ, *]; done) | (simp [CJ, *] at *; simp [*]; done) | (simp_all [CJ]; done) | (simp_all [CJ]; omega)
     ·
      refine AG 6 49 true _ rfl rfl (bnotT (bnotF hb5)) rfl ?_
      refine AG 6 49 true _ rfl rfl (bnotT (bnotF hb5)) rfl ?_
      refine AG 6 49 true _ rfl rfl (bnotT (bnotF hb5)) rfl ?_
      refine AG 6 49 true _ rfl rfl (bnotT (bnotF hb5)) rfl ?_
      refine AG 6 49 true _ rfl rfl (bnotT (bnotF hb5)) rfl ?_
      refine AA _ (A3 _ rfl (bnotT (bnotF hb5)) rfl) rfl ?_
      refine AA _ (AE rfl) rfl ?_
      refine AI (AC (BI (CD (A1 (B4 [false] ?_)))))
      show JQ _ _ _ _ []
      refine BH (.bool false) (res1 CO (BC rfl)) fun w1 hw1 => ?_
      refine ⟨_, [], rfl, ⟨congrArg Value.bool ?_, rfl⟩, hw1.sub (by simp) (by simp)⟩
      unfold reqR
      rw [hlq]
      first | (simp [CJ, *]; done) | (simp [CJ, *] at *; simp [*]; done) | (simp_all [CJ]; done) | (simp_all [CJ]; omega)
   ·
    have hp3 : ¬ ((qk) = (2:Int)) := of_decide_eq_false hb3
    refine AH (AB (AA (.bool (decide ((qk) = (3:Int)))) (AR rfl rfl fun _ => BK _ _) rfl ?_))
    refine AA _ (AE rfl) rfl ?_
    refine AI (AC (B9 (decide ((qk) = (3:Int))) rfl (fun hb6 => ?_) (fun hb6 => ?_)))
    ·
     have hp6 : (qk) = (3:Int) := of_decide_eq_true hb6
     refine AH (AB (AA _ (AF rfl) rfl ?_))
     refine AA (.bool (!(decide ((0:Int) < ((niq:Int)))))) (DG rfl) rfl ?_
     refine AA _ (AF rfl) rfl ?_
     rcases Bool.eq_false_or_eq_true (decide ((0:Int) < ((niq:Int)))) with hb7 | hb7
     ·
      have hp7 : (0:Int) < ((niq:Int)) := of_decide_eq_true hb7
      refine AG 2 60 true _ rfl rfl (bnotT hb7) rfl ?_
      refine AG 2 60 true _ rfl rfl (bnotT hb7) rfl ?_
      refine AA _ (A3 _ rfl (bnotT hb7) rfl) rfl ?_
      refine AA _ (AF rfl) rfl ?_
      refine AG 6 64 true _ rfl rfl rfl rfl ?_
      refine AG 6 64 true _ rfl rfl rfl rfl ?_
      refine AA _ (A3 _ rfl rfl rfl) rfl ?_
      refine AA _ (AF rfl) rfl ?_
      refine AG 10 68 true _ rfl rfl rfl rfl ?_
      refine AG 10 68 true _ rfl rfl rfl rfl ?_
      refine AG 10 68 true _ rfl rfl rfl rfl ?_
      refine AA _ (A3 _ rfl rfl rfl) rfl ?_
      refine AA _ (AE rfl) rfl ?_
      refine AI (AC (BI (CD (A1 (B4 [false] ?_)))))
      show JQ _ _ _ _ []
      refine BH (.bool false) (res1 CO (BC rfl)) fun w1 hw1 => ?_
      refine ⟨_, [], rfl, ⟨congrArg Value.bool ?_, rfl⟩, hw1.sub (by simp) (by simp)⟩
      have h9 : niq ≠ 0 := by omega
      unfold reqR
      rw [hlq]
      first | (simp [CJ, *]; done) | (simp [CJ, *] at *; simp [*]; done) | (simp_all [CJ]; done) | (simp_all [CJ]; omega)
     ·
      have hp7 : ¬ ((0:Int) < ((niq:Int))) := of_decide_eq_false hb7
      refine AP 2 60 true _ _ rfl rfl (bnotF hb7) (AF rfl) rfl ?_
      refine AP 2 60 true _ (.bool (!true)) rfl rfl (bnotF hb7) (DG rfl) rfl ?_
      refine AA _ (BD _ rfl (bnotF hb7) rfl) rfl ?_
      refine AA _ (AF rfl) rfl ?_
      refine AG 6 64 true _ rfl rfl rfl rfl ?_
      refine AG 6 64 true _ rfl rfl rfl rfl ?_
      refine AA _ (A3 _ rfl rfl rfl) rfl ?_
      refine AA _ (AF rfl) rfl ?_
      refine AG 10 68 true _ rfl rfl rfl rfl ?_
      refine AG 10 68 true _ rfl rfl rfl rfl ?_
      refine AG 10 68 true _ rfl rfl rfl rfl ?_
      refine AA _ (A3 _ rfl rfl rfl) rfl ?_
      refine AA _ (AE rfl) rfl ?_
      refine AI (AC (BI (CD (A1 (B4 [false] ?_)))))
      show JQ _ _ _ _ []
      refine BH (.bool false) (res1 CO (BC rfl)) fun w1 hw1 => ?_
      refine ⟨_, [], rfl, ⟨congrArg Value.bool ?_, rfl⟩, hw1.sub (by simp) (by simp)⟩
      unfold reqR
      rw [hlq]
      first | (simp [CJ, *]; done) | (simp [CJ, *] at *; simp [*]; done) | (simp_all [CJ]; done) | (simp_all [CJ]; omega)
    ·
     have hp6 : ¬ ((qk) = (3:Int)) := of_decide_eq_false hb6
     refine AH (AH (AB (AA (.bool (decide ((qk) = (4:Int)))) (AR rfl rfl fun _ => BK _ _) rfl ?_)))
     refine AA _ (AE rfl) rfl ?_
     refine AI (AC (B9 (decide ((qk) = (4:Int))) rfl (fun hb8 => ?_) (fun hb8 => ?_)))
     ·
      have hp8 : (qk) = (4:Int) := of_decide_eq_true hb8
      refine BF (AC (B3 _ rfl hb8 ?_))
      refine AH (AB (AA _ (AF rfl) rfl ?_))
      refine AA (.bool (!(decide ((0:Int) < ((niq:Int)))))) (DG rfl) rfl ?_
      refine AA _ (AF rfl) rfl ?_
      rcases Bool.eq_false_or_eq_true (decide ((0:Int) < ((niq:Int)))) with hb9 | hb9
      ·
       have hp9 : (0:Int) < ((niq:Int)) := of_decide_eq_true hb9
       refine AG 2 78 true _ rfl rfl (bnotT hb9) rfl ?_
       refine AG 2 78 true _ rfl rfl (bnotT hb9) rfl ?_
       refine AA _ (A3 _ rfl (bnotT hb9) rfl) rfl ?_
       refine AA _ (AF rfl) rfl ?_
       refine AG 6 82 true _ rfl rfl rfl rfl ?_
       refine AG 6 82 true _ rfl rfl rfl rfl ?_
       refine AA _ (A3 _ rfl rfl rfl) rfl ?_
       refine AA _ (AE rfl) rfl ?_
       refine AI (AC (BI (CD (A1 (B4 [false] ?_)))))
       show JQ _ _ _ _ []
       refine BH (.bool false) (res1 CO (BC rfl)) fun w1 hw1 => ?_
       refine ⟨_, [], rfl, ⟨congrArg Value.bool ?_, rfl⟩, hw1.sub (by simp) (by simp)⟩
       have h9 : niq ≠ 0 := by omega
       unfold reqR
       rw [hlq]
       first | (simp [CJ, *]; done) | (simp [CJ, *] at *; simp [*]; done) | (simp_all [CJ]; done) | (simp_all [CJ]; omega)
      ·
       have hp9 : ¬ ((0:Int) < ((niq:Int))) := of_decide_eq_false hb9
       refine AP 2 78 true _ _ rfl rfl (bnotF hb9) (AF rfl) rfl ?_
       refine AP 2 78 true _ (.bool (!true)) rfl rfl (bnotF hb9) (DG rfl) rfl ?_
       refine AA _ (BD _ rfl (bnotF hb9) rfl) rfl ?_
       refine AA _ (AF rfl) rfl ?_
       refine AG 6 82 true _ rfl rfl rfl rfl ?_
       refine AG 6 82 true _ rfl rfl rfl rfl ?_
       refine AA _ (A3 _ rfl rfl rfl) rfl ?_
       refine AA _ (AE rfl) rfl ?_
       refine AI (AC (BI (CD (A1 (B4 [false] ?_)))))
       show JQ _ _ _ _ []
       refine BH (.bool false) (res1 CO (BC rfl)) fun w1 hw1 => ?_
       refine ⟨_, [], rfl, ⟨congrArg Value.bool ?_, rfl⟩, hw1.sub (by simp) (by simp)⟩
       unfold reqR
       rw [hlq]
       first | (simp [CJ, *]; done) | (simp [CJ, *] at *; simp [*]; done) | (simp_all [CJ]; done) | (simp_all [CJ]; omega)
     ·
      have hp8 : ¬ ((qk) = (4:Int)) := of_decide_eq_false hb8
      refine AB (AA (.bool (decide ((qk) = (5:Int)))) (AR rfl rfl fun _ => BK _ _) rfl ?_)
      refine AA _ (AE rfl) rfl ?_
      refine AI (AC (B9 (decide ((qk) = (5:Int))) rfl (fun hb10 => ?_) (fun hb10 => ?_)))
      ·
       have hp10 : (qk) = (5:Int) := of_decide_eq_true hb10
       refine AH (AB (AA _ (AF rfl) rfl ?_))
       refine AA (.bool (!(decide ((0:Int) < ((niq:Int)))))) (DG rfl) rfl ?_
       refine AA _ (AF rfl) rfl ?_
       rcases Bool.eq_false_or_eq_true (decide ((0:Int) < ((niq:Int)))) with hb11 | hb11
       ·
        have hp11 : (0:Int) < ((niq:Int)) := of_decide_eq_true hb11
        refine AG 2 78 true _ rfl rfl (bnotT hb11) rfl ?_
        refine AG 2 78 true _ rfl rfl (bnotT hb11) rfl ?_
        refine AA _ (A3 _ rfl (bnotT hb11) rfl) rfl ?_
        refine AA _ (AF rfl) rfl ?_
        refine AG 6 82 true _ rfl rfl rfl rfl ?_
        refine AG 6 82 true _ rfl rfl rfl rfl ?_
        refine AA _ (A3 _ rfl rfl rfl) rfl ?_
        refine AA _ (AE rfl) rfl ?_
        refine AI (AC (BI (CD (A1 (B4 [false] ?_)))))
        show JQ _ _ _ _ []
        refine BH (.bool false) (res1 CO (BC rfl)) fun w1 hw1 => ?_
        refine ⟨_, [], rfl, ⟨congrArg Value.bool ?_, rfl⟩, hw1.sub (by simp) (by simp)⟩
        have h9 : niq ≠ 0 := by omega
        unfold reqR
        rw [hlq]
        first | (simp [CJ, *]; done) | (simp [CJ, *] at *; simp [*]; done) | (simp_all [CJ]; done) | (simp_all [CJ]; omega)
       ·
        have hp11 : ¬ ((0:Int) < ((niq:Int))) := of_decide_eq_false hb11
        refine AP 2 78 true _ _ rfl rfl (bnotF hb11) (AF rfl) rfl ?_
        refine AP 2 78 true _ (.bool (!true)) rfl rfl (bnotF hb11) (DG rfl) rfl ?_
        refine AA _ (BD _ rfl (bnotF hb11) rfl) rfl ?_
        refine AA _ (AF rfl) rfl ?_
        refine AG 6 82 true _ rfl rfl rfl rfl ?_
        refine AG 6 82 true _ rfl rfl rfl rfl ?_
        refine AA _ (A3 _ rfl rfl rfl) rfl ?_
        refine AA _ (AE rfl) rfl ?_
        refine AI (AC (BI (CD (A1 (B4 [false] ?_)))))
        show JQ _ _ _ _ []
        refine BH (.bool false) (res1 CO (BC rfl)) fun w1 hw1 => ?_
        refine ⟨_, [], rfl, ⟨congrArg Value.bool ?_, rfl⟩, hw1.sub (by simp) (by simp)⟩
        unfold reqR
        rw [hlq]
        first | (simp [CJ, *]; done) | (simp [CJ, *] at *; simp [*]; done) | (simp_all [CJ]; done) | (simp_all [CJ]; omega)
      ·
       have hp10 : ¬ ((qk) = (5:Int)) := of_decide_eq_false hb10
       refine BF (BS (AC (AH (AB (AA _ (AE rfl) rfl ?_)))))
       refine AI (AC (BI (B4 [false] ?_)))
       show JQ _ _ _ _ []
       refine BH (.bool false) (res1 CO (BC rfl)) fun w1 hw1 => ?_
       refine ⟨_, [], rfl, ⟨congrArg Value.bool ?_, rfl⟩, hw1.sub (by simp) (by simp)⟩
       unfold reqR
       rw [hlq]
       first | (simp [CJ, *]; done) | (simp [CJ, *] at *; simp [*]; done) | (simp_all [CJ]; done) | (simp_all [CJ]; omega)
 ·
  have hp1 : ¬ ((0:UInt64) < fs) := of_decide_eq_false hb1
  refine DC 86 2 [(0, Ptr nb1 2), (1, SL aiq niq ciq), (2, I64 niq), (3, .bool (decide ((0:Int) < ((niq:Int))))), (4, Ptr nb1 3), (5, U64 fs), (6, .bool (decide ((0:UInt64) < fs))), (7, .bool (decide ((0:UInt64) < fs))), (8, Ptr nb1 4), (9, I64 (mn)), (10, .bool (decide ((mn) ≠ (0:Int)))), (11, .bool (decide ((mn) ≠ (0:Int)))), (12, Ptr nb1 5), (13, .agg ([U64 pv, U64 ep, I64 (kd), SL ai ni ci, SL sa ns sc, U64 bl] ++ cu8 tg).toArray), (16, Ptr nb1 27), (17, U64 eq), (18, .bool (decide ((0:UInt64) < eq)))] CA rfl (by decide +kernel) ?_
  refine CW ⟨[], [0, 1, 2, 3, 4, 5, 6, 7, 8, 9, 10, 11, 12, 13, 16, 17, 18], [], [0, 1, 2, 3, 4, 5, 6, 7, 8, 9, 10, 11, 12, 13, 16, 17, 18], [14]⟩ 14 _ rfl rfl (by decide +kernel) rfl ⟨⟨_, rfl, AL rfl (AD 2 23 1 AX rfl B2 rfl rfl)⟩, ⟨_, rfl, AL rfl (AO rfl (A0 CQ (AU 0 rfl (AJ (AJ (AK (AK (Seg.head))))))))⟩, ⟨_, rfl, AL rfl (DY BX rfl)⟩, ⟨_, rfl, AL rfl (AR rfl rfl fun _ => DD _ _)⟩, ⟨_, rfl, AL rfl (AD 3 22 1 AX rfl A9 rfl rfl)⟩, ⟨_, rfl, AL rfl (AO rfl (A0 BN (AU 0 rfl (AJ (AJ (AK (AK (AK (Seg.head)))))))))⟩, ⟨_, rfl, AL rfl (AR rfl rfl fun _ => bin_gtr_u64 fs (0:UInt64))⟩, CG rfl rfl rfl, ⟨_, rfl, C3 7 14 false _ rfl rfl rfl hb1 (AD 4 3 1 AX rfl AT rfl rfl)⟩, ⟨_, rfl, C3 7 14 false _ rfl rfl rfl hb1 (AO rfl (A0 AY (AU 0 rfl (AJ (AJ (AK (AK (AK (AK (Seg.head))))))))))⟩, ⟨_, rfl, C3 7 14 false _ rfl rfl rfl hb1 (AR rfl rfl fun _ => FO _ _)⟩, ⟨_, rfl, AL rfl (A3 _ rfl hb1 rfl)⟩, ⟨_, rfl, AL rfl (AD 5 29 22 AX rfl BG rfl rfl)⟩, ⟨_, rfl, AL rfl (AO rfl (BU B7 BG (by simp [htg]) (AU 0 rfl (D6 (p := [U64 sq, I64 (qk), SL aiq niq ciq, U64 fs, I64 (mn)]) (q := [U64 eq]) (vs := [U64 pv, U64 ep, I64 (kd), SL ai ni ci, SL sa ns sc, U64 bl] ++ cu8 tg) (by first | rfl | (simp only [List.append_assoc, List.nil_append, List.append_nil, List.cons_append]; done)) rfl))))⟩, ⟨_, rfl, AL rfl (AD 27 22 1 AX rfl A9 rfl rfl)⟩, ⟨_, rfl, AL rfl (AO rfl (A0 BN (AU 0 rfl (Seg.right 27 0 (by simp [htg]) rfl (Seg.head)))))⟩, ⟨_, rfl, AL rfl (AR rfl rfl fun _ => bin_gtr_u64 eq (0:UInt64))⟩, trivial⟩ rfl (BO rfl (A2 84 [.agg ([U64 pv, U64 ep, I64 (kd), SL ai ni ci, SL sa ns sc, U64 bl] ++ cu8 tg).toArray] (.bool (blankB pv ep (kd) l ls bl tg)) (AS _ Tryd.call84 rfl) (fun w1 hw1 => blank_c pv ep (kd) ai ni ci l sa ns sc ls bl tg w1 hl (by omega) (by omega) (by omega) (C2 hw1 rfl hv) hls (by omega) (by omega) (by omega) (C2 hw1 rfl hs) htg))) ?_
  rintro v1 L1 ⟨rfl, rfl⟩
  refine ⟨[(15, .bool (!(blankB pv ep (kd) l ls bl tg))), (19, .bool (decide ((0:Int) < ((niq:Int))))), (20, .bool (decide ((mn) ≠ (0:Int)))), (21, .bool (!(blankB pv ep (kd) l ls bl tg))), (22, .bool (decide ((0:UInt64) < eq)))], ?_⟩
  show DP _ _ _ _ _ _ _ _ [_]
  refine DU ⟨[14], [0, 1, 2, 3, 4, 5, 6, 7, 8, 9, 10, 11, 12, 13, 15, 16, 17, 18, 19, 20, 21, 22], [4, 5, 6, 7, 12, 13], [0, 1, 2, 3, 8, 9, 10, 11, 15, 16, 17, 18, 19, 20, 21, 22], []⟩ rfl rfl (by decide +kernel) rfl ⟨⟨_, rfl, AL rfl (AD 2 23 1 AX rfl B2 rfl rfl)⟩, ⟨_, rfl, AL rfl (AO rfl (A0 CQ (AU 0 rfl (AJ (AJ (AK (AK (Seg.head))))))))⟩, ⟨_, rfl, AL rfl (DY BX rfl)⟩, ⟨_, rfl, AL rfl (AR rfl rfl fun _ => DD _ _)⟩, ⟨_, rfl, C3 7 14 false _ rfl rfl rfl hb1 (AD 4 3 1 AX rfl AT rfl rfl)⟩, ⟨_, rfl, C3 7 14 false _ rfl rfl rfl hb1 (AO rfl (A0 AY (AU 0 rfl (AJ (AJ (AK (AK (AK (AK (Seg.head))))))))))⟩, ⟨_, rfl, C3 7 14 false _ rfl rfl rfl hb1 (AR rfl rfl fun _ => FO _ _)⟩, ⟨_, rfl, AL rfl (A3 _ rfl hb1 rfl)⟩, ⟨_, rfl, AL rfl (DG rfl)⟩, ⟨_, rfl, AL rfl (AD 27 22 1 AX rfl A9 rfl rfl)⟩, ⟨_, rfl, AL rfl (AO rfl (A0 BN (AU 0 rfl (Seg.right 27 0 (by simp [htg]) rfl (Seg.head)))))⟩, ⟨_, rfl, AL rfl (AR rfl rfl fun _ => bin_gtr_u64 eq (0:UInt64))⟩, ⟨_, rfl, AL rfl (AE rfl)⟩, ⟨_, rfl, AL rfl (AE rfl)⟩, ⟨_, rfl, AL rfl (AE rfl)⟩, ⟨_, rfl, AL rfl (AE rfl)⟩, trivial⟩ ?_
  refine C6 (F' := [(3, .bool (decide ((0:Int) < ((niq:Int))))), (4, .bool (decide ((mn) ≠ (0:Int)))), (5, .bool (!(blankB pv ep (kd) l ls bl tg))), (6, .bool (decide ((0:UInt64) < eq))), (1, Ptr nb1 0), (2, .bool false)]) (by kernel_rfl) ?_
  refine AC (AH (AH (AB (AA (Ptr nb1 1) (AD 1 3 1 AX rfl AT rfl rfl) rfl ?_))))
  refine AA (I64 (qk)) (AO rfl (A0 AY (AU 0 rfl (AJ (AJ (AK (Seg.head))))))) rfl ?_
  refine AI (AC (B5 (AH (AB (AA (.bool (decide ((qk) = (1:Int)))) (AR rfl rfl fun _ => BK _ _) rfl ?_)))))
  refine AA _ (AE rfl) rfl ?_
  refine AI (AC (B9 (decide ((qk) = (1:Int))) rfl (fun hb12 => ?_) (fun hb12 => ?_)))
  ·
   have hp12 : (qk) = (1:Int) := of_decide_eq_true hb12
   refine AH (AB (AA _ (AF rfl) rfl ?_))
   refine AA (.bool (!(decide ((mn) ≠ (0:Int))))) (DG rfl) rfl ?_
   refine AA _ (AF rfl) rfl ?_
   rcases Bool.eq_false_or_eq_true (decide ((mn) ≠ (0:Int))) with hb13 | hb13
   ·
    have hp13 : (mn) ≠ (0:Int) := of_decide_eq_true hb13
    refine AG 2 32 true _ rfl rfl (bnotT hb13) rfl ?_
    refine AG 2 32 true _ rfl rfl (bnotT hb13) rfl ?_
    refine AA _ (A3 _ rfl (bnotT hb13) rfl) rfl ?_
    refine AA _ (AF rfl) rfl ?_
    refine AG 6 36 true _ rfl rfl rfl rfl ?_
    refine AG 6 36 true _ rfl rfl rfl rfl ?_
    refine AG 6 36 true _ rfl rfl rfl rfl ?_
    refine AA _ (A3 _ rfl rfl rfl) rfl ?_
    refine AA _ (AE rfl) rfl ?_
    refine AI (AC (BI (CD (A1 (B4 [false] ?_)))))
    show JQ _ _ _ _ []
    refine BH (.bool false) (res1 CO (BC rfl)) fun w1 hw1 => ?_
    refine ⟨_, [], rfl, ⟨congrArg Value.bool ?_, rfl⟩, hw1.sub (by simp) (by simp)⟩
    unfold reqR
    rw [hlq]
    first | (simp [CJ, *]; done) | (simp [CJ, *] at *; simp [*]; done) | (simp_all [CJ]; done) | (simp_all [CJ]; omega)
   ·
    have hp13 : ¬ ((mn) ≠ (0:Int)) := of_decide_eq_false hb13
    refine AP 2 32 true _ _ rfl rfl (bnotF hb13) (AF rfl) rfl ?_
    refine AP 2 32 true _ (.bool (!(!(blankB pv ep (kd) l ls bl tg)))) rfl rfl (bnotF hb13) (DG rfl) rfl ?_
    refine AA _ (BD _ rfl (bnotF hb13) rfl) rfl ?_
    refine AA _ (AF rfl) rfl ?_
    rcases Bool.eq_false_or_eq_true (blankB pv ep (kd) l ls bl tg) with hb14 | hb14
    ·
     refine AP 6 36 true _ (Ptr nb1 2) rfl rfl (bnotF (bnotT hb14)) (AD 2 23 1 AX rfl B2 rfl rfl) rfl ?_
     refine AP 6 36 true _ (SL aiq niq ciq) rfl rfl (bnotF (bnotT hb14)) (AO rfl (A0 CQ (AU 0 rfl (AJ (AJ (AK (AK (Seg.head)))))))) rfl ?_
     refine DL 6 36 true _ rfl rfl (bnotF (bnotT hb14)) (A2 85 [I64 32, SL aiq niq ciq] (.bool (decide (RightI lq))) (AS _ Tryd.call85 rfl) (fun w1 hw1 => pright_c aiq niq ciq lq w1 hlq (by omega) (by omega) (by omega) (C2 hw1 rfl hvq))) rfl ?_
     rintro v1 L1 ⟨rfl, rfl⟩
     show JL _ _ _ _ ((39, .bool (decide (RightI lq))) :: _) [_]
     refine AA _ (BD _ rfl (bnotF (bnotT hb14)) rfl) rfl ?_
     refine AA _ (AE rfl) rfl ?_
     refine AI (AC (BI (CD (A1 (B4 [false] ?_)))))
     show JQ _ _ _ _ []
     refine BH (.bool (decide (RightI lq))) (res1 CO (BC rfl)) fun w1 hw1 => ?_
     refine ⟨_, [], rfl, ⟨congrArg Value.bool ?_, rfl⟩, hw1.sub (by simp) (by simp)⟩
     unfold reqR
     rw [hlq]
     first | (simp [CJ, *]; done) | (simp [CJ, *] at *; simp [*]; done) | (simp_all [CJ]; done) | (simp_all [CJ]; omega)
    ·
     refine AG 6 36 true _ rfl rfl (bnotT (bnotF hb14)) rfl ?_
     refine AG 6 36 true _ rfl rfl (bnotT (bnotF hb14)) rfl ?_
     refine AG 6 36 true _ rfl rfl (bnotT (bnotF hb14)) rfl ?_
     refine AA _ (A3 _ rfl (bnotT (bnotF hb14)) rfl) rfl ?_
     refine AA _ (AE rfl) rfl ?_
     refine AI (AC (BI (CD (A1 (B4 [false] ?_)))))
     show JQ _ _ _ _ []
     refine BH (.bool false) (res1 CO (BC rfl)) fun w1 hw1 => ?_
     refine ⟨_, [], rfl, ⟨congrArg Value.bool ?_, rfl⟩, hw1.sub (by simp) (by simp)⟩
     unfold reqR
     rw [hlq]
     first | (simp [CJ, *]; done) | (simp [CJ, *] at *; simp [*]; done) | (simp_all [CJ]; done) | (simp_all [CJ]; omega)
  ·
   have hp12 : ¬ ((qk) = (1:Int)) := of_decide_eq_false hb12
   refine AH (AB (AA (.bool (decide ((qk) = (2:Int)))) (AR rfl rfl fun _ => BK _ _) rfl ?_))
   refine AA _ (AE rfl) rfl ?_
   refine AI (AC (B9 (decide ((qk) = (2:Int))) rfl (fun hb15 => ?_) (fun hb15 => ?_)))
   ·
    have hp15 : (qk) = (2:Int) := of_decide_eq_true hb15
    refine AH (AB (AA _ (AF rfl) rfl ?_))
    refine AA (.bool (!(decide ((0:Int) < ((niq:Int)))))) (DG rfl) rfl ?_
    refine AA _ (AF rfl) rfl ?_
    rcases Bool.eq_false_or_eq_true (decide ((0:Int) < ((niq:Int)))) with hb16 | hb16
    ·
     have hp16 : (0:Int) < ((niq:Int)) := of_decide_eq_true hb16
     refine AG 2 45 true _ rfl rfl (bnotT hb16) rfl ?_
     refine AG 2 45 true _ rfl rfl (bnotT hb16) rfl ?_
     refine AA _ (A3 _ rfl (bnotT hb16) rfl) rfl ?_
     refine AA _ (AF rfl) rfl ?_
     refine AG 6 49 true _ rfl rfl rfl rfl ?_
     refine AG 6 49 true _ rfl rfl rfl rfl ?_
     refine AG 6 49 true _ rfl rfl rfl rfl ?_
     refine AG 6 49 true _ rfl rfl rfl rfl ?_
     refine AG 6 49 true _ rfl rfl rfl rfl ?_
     refine AA _ (A3 _ rfl rfl rfl) rfl ?_
     refine AA _ (AE rfl) rfl ?_
     refine AI (AC (BI (CD (A1 (B4 [false] ?_)))))
     show JQ _ _ _ _ []
     refine BH (.bool false) (res1 CO (BC rfl)) fun w1 hw1 => ?_
     refine ⟨_, [], rfl, ⟨congrArg Value.bool ?_, rfl⟩, hw1.sub (by simp) (by simp)⟩
     have h9 : niq ≠ 0 := by omega
     unfold reqR
     rw [hlq]
     first | (simp [CJ, *]; done) | (simp [CJ, *] at *; simp [*]; done) | (simp_all [CJ]; done) | (simp_all [CJ]; omega)
    ·
     have hp16 : ¬ ((0:Int) < ((niq:Int))) := of_decide_eq_false hb16
     refine AP 2 45 true _ _ rfl rfl (bnotF hb16) (AF rfl) rfl ?_
     refine AP 2 45 true _ (.bool (!(!(blankB pv ep (kd) l ls bl tg)))) rfl rfl (bnotF hb16) (DG rfl) rfl ?_
     refine AA _ (BD _ rfl (bnotF hb16) rfl) rfl ?_
     refine AA _ (AF rfl) rfl ?_
     rcases Bool.eq_false_or_eq_true (blankB pv ep (kd) l ls bl tg) with hb17 | hb17
     ·
      refine AP 6 49 true _ (Ptr nb1 3) rfl rfl (bnotF (bnotT hb17)) (AD 3 22 1 AX rfl A9 rfl rfl) rfl ?_
      refine AP 6 49 true _ (U64 fs) rfl rfl (bnotF (bnotT hb17)) (AO rfl (A0 BN (AU 0 rfl (AJ (AJ (AK (AK (AK (Seg.head))))))))) rfl ?_
      refine AP 6 49 true _ (Ptr nb1 4) rfl rfl (bnotF (bnotT hb17)) (AD 4 3 1 AX rfl AT rfl rfl) rfl ?_
      refine AP 6 49 true _ (I64 (mn)) rfl rfl (bnotF (bnotT hb17)) (AO rfl (A0 AY (AU 0 rfl (AJ (AJ (AK (AK (AK (AK (Seg.head)))))))))) rfl ?_
      refine DL 6 49 true _ rfl rfl (bnotF (bnotT hb17)) (A2 86 [I64 32, U64 fs, I64 (mn)] (.bool (spanB fs (mn))) (AS _ Tryd.call86 rfl) (fun w1 hw1 => span_w fs (mn) w1 )) rfl ?_
      rintro v1 L1 ⟨rfl, rfl⟩
      show JL _ _ _ _ ((54, .bool (spanB fs (mn))) :: _) [_]
      refine AA _ (BD _ rfl (bnotF (bnotT hb17)) rfl) rfl ?_
      refine AA _ (AE rfl) rfl ?_
      refine AI (AC (BI (CD (A1 (B4 [false] ?_)))))
      show JQ _ _ _ _ []
      refine BH (.bool (spanB fs (mn))) (res1 CO (BC rfl)) fun w1 hw1 => ?_
      refine ⟨_, [], rfl, ⟨congrArg Value.bool ?_, rfl⟩, hw1.sub (by simp) (by simp)⟩
      unfold reqR
      rw [hlq]
      first | (simp [CJ, *]; done) | (simp [CJ, *] at *; simp [*]; done) | (simp_all [CJ]; done) | (simp_all [CJ]; omega)
     ·
      refine AG 6 49 true _ rfl rfl (bnotT (bnotF hb17)) rfl ?_
      refine AG 6 49 true _ rfl rfl (bnotT (bnotF hb17)) rfl ?_
      refine AG 6 49 true _ rfl rfl (bnotT (bnotF hb17)) rfl ?_
      refine AG 6 49 true _ rfl rfl (bnotT (bnotF hb17)) rfl ?_
      refine AG 6 49 true _ rfl rfl (bnotT (bnotF hb17)) rfl ?_
      refine AA _ (A3 _ rfl (bnotT (bnotF hb17)) rfl) rfl ?_
      refine AA _ (AE rfl) rfl ?_
      refine AI (AC (BI (CD (A1 (B4 [false] ?_)))))
      show JQ _ _ _ _ []
      refine BH (.bool false) (res1 CO (BC rfl)) fun w1 hw1 => ?_
      refine ⟨_, [], rfl, ⟨congrArg Value.bool ?_, rfl⟩, hw1.sub (by simp) (by simp)⟩
      unfold reqR
      rw [hlq]
      first | (simp [CJ, *]; done) | (simp [CJ, *] at *; simp [*]; done) | (simp_all [CJ]; done) | (simp_all [CJ]; omega)
   ·
    have hp15 : ¬ ((qk) = (2:Int)) := of_decide_eq_false hb15
    refine AH (AB (AA (.bool (decide ((qk) = (3:Int)))) (AR rfl rfl fun _ => BK _ _) rfl ?_))
    refine AA _ (AE rfl) rfl ?_
    refine AI (AC (B9 (decide ((qk) = (3:Int))) rfl (fun hb18 => ?_) (fun hb18 => ?_)))
    ·
     have hp18 : (qk) = (3:Int) := of_decide_eq_true hb18
     refine AH (AB (AA _ (AF rfl) rfl ?_))
     refine AA (.bool (!(decide ((0:Int) < ((niq:Int)))))) (DG rfl) rfl ?_
     refine AA _ (AF rfl) rfl ?_
     rcases Bool.eq_false_or_eq_true (decide ((0:Int) < ((niq:Int)))) with hb19 | hb19
     ·
      have hp19 : (0:Int) < ((niq:Int)) := of_decide_eq_true hb19
      refine AG 2 60 true _ rfl rfl (bnotT hb19) rfl ?_
      refine AG 2 60 true _ rfl rfl (bnotT hb19) rfl ?_
      refine AA _ (A3 _ rfl (bnotT hb19) rfl) rfl ?_
      refine AA _ (AF rfl) rfl ?_
      refine AG 6 64 true _ rfl rfl rfl rfl ?_
      refine AG 6 64 true _ rfl rfl rfl rfl ?_
      refine AA _ (A3 _ rfl rfl rfl) rfl ?_
      refine AA _ (AF rfl) rfl ?_
      refine AG 10 68 true _ rfl rfl rfl rfl ?_
      refine AG 10 68 true _ rfl rfl rfl rfl ?_
      refine AG 10 68 true _ rfl rfl rfl rfl ?_
      refine AA _ (A3 _ rfl rfl rfl) rfl ?_
      refine AA _ (AE rfl) rfl ?_
      refine AI (AC (BI (CD (A1 (B4 [false] ?_)))))
      show JQ _ _ _ _ []
      refine BH (.bool false) (res1 CO (BC rfl)) fun w1 hw1 => ?_
      refine ⟨_, [], rfl, ⟨congrArg Value.bool ?_, rfl⟩, hw1.sub (by simp) (by simp)⟩
      have h9 : niq ≠ 0 := by omega
      unfold reqR
      rw [hlq]
      first | (simp [CJ, *]; done) | (simp [CJ, *] at *; simp [*]; done) | (simp_all [CJ]; done) | (simp_all [CJ]; omega)
     ·
      have hp19 : ¬ ((0:Int) < ((niq:Int))) := of_decide_eq_false hb19
      refine AP 2 60 true _ _ rfl rfl (bnotF hb19) (AF rfl) rfl ?_
      refine AP 2 60 true _ (.bool (!(decide ((mn) ≠ (0:Int))))) rfl rfl (bnotF hb19) (DG rfl) rfl ?_
      refine AA _ (BD _ rfl (bnotF hb19) rfl) rfl ?_
      refine AA _ (AF rfl) rfl ?_
      rcases Bool.eq_false_or_eq_true (decide ((mn) ≠ (0:Int))) with hb20 | hb20
      ·
       have hp20 : (mn) ≠ (0:Int) := of_decide_eq_true hb20
       refine AG 6 64 true _ rfl rfl (bnotT hb20) rfl ?_
       refine AG 6 64 true _ rfl rfl (bnotT hb20) rfl ?_
       refine AA _ (A3 _ rfl (bnotT hb20) rfl) rfl ?_
       refine AA _ (AF rfl) rfl ?_
       refine AG 10 68 true _ rfl rfl rfl rfl ?_
       refine AG 10 68 true _ rfl rfl rfl rfl ?_
       refine AG 10 68 true _ rfl rfl rfl rfl ?_
       refine AA _ (A3 _ rfl rfl rfl) rfl ?_
       refine AA _ (AE rfl) rfl ?_
       refine AI (AC (BI (CD (A1 (B4 [false] ?_)))))
       show JQ _ _ _ _ []
       refine BH (.bool false) (res1 CO (BC rfl)) fun w1 hw1 => ?_
       refine ⟨_, [], rfl, ⟨congrArg Value.bool ?_, rfl⟩, hw1.sub (by simp) (by simp)⟩
       unfold reqR
       rw [hlq]
       first | (simp [CJ, *]; done) | (simp [CJ, *] at *; simp [*]; done) | (simp_all [CJ]; done) | (simp_all [CJ]; omega)
      ·
       have hp20 : ¬ ((mn) ≠ (0:Int)) := of_decide_eq_false hb20
       refine AP 6 64 true _ _ rfl rfl (bnotF hb20) (AF rfl) rfl ?_
       refine AP 6 64 true _ (.bool (!(decide ((0:UInt64) < eq)))) rfl rfl (bnotF hb20) (DG rfl) rfl ?_
       refine AA _ (BD _ rfl (bnotF hb20) rfl) rfl ?_
       refine AA _ (AF rfl) rfl ?_
       rcases Bool.eq_false_or_eq_true (decide ((0:UInt64) < eq)) with hb21 | hb21
       ·
        have hp21 : (0:UInt64) < eq := of_decide_eq_true hb21
        refine AG 10 68 true _ rfl rfl (bnotT hb21) rfl ?_
        refine AG 10 68 true _ rfl rfl (bnotT hb21) rfl ?_
        refine AG 10 68 true _ rfl rfl (bnotT hb21) rfl ?_
        refine AA _ (A3 _ rfl (bnotT hb21) rfl) rfl ?_
        refine AA _ (AE rfl) rfl ?_
        refine AI (AC (BI (CD (A1 (B4 [false] ?_)))))
        show JQ _ _ _ _ []
        refine BH (.bool false) (res1 CO (BC rfl)) fun w1 hw1 => ?_
        refine ⟨_, [], rfl, ⟨congrArg Value.bool ?_, rfl⟩, hw1.sub (by simp) (by simp)⟩
        unfold reqR
        rw [hlq]
        first | (simp [CJ, *]; done) | (simp [CJ, *] at *; simp [*]; done) | (simp_all [CJ]; done) | (simp_all [CJ]; omega)
       ·
        have hp21 : ¬ ((0:UInt64) < eq) := of_decide_eq_false hb21
        refine AP 10 68 true _ (Ptr nb1 5) rfl rfl (bnotF hb21) (AD 5 29 22 AX rfl BG rfl rfl) rfl ?_
        refine AP 10 68 true _ (.agg ([U64 pv, U64 ep, I64 (kd), SL ai ni ci, SL sa ns sc, U64 bl] ++ cu8 tg).toArray) rfl rfl (bnotF hb21) (AO rfl (BU B7 BG (by simp [htg]) (AU 0 rfl (D6 (p := [U64 sq, I64 (qk), SL aiq niq ciq, U64 fs, I64 (mn)]) (q := [U64 eq]) (vs := [U64 pv, U64 ep, I64 (kd), SL ai ni ci, SL sa ns sc, U64 bl] ++ cu8 tg) (by first | rfl | (simp only [List.append_assoc, List.nil_append, List.append_nil, List.cons_append]; done)) rfl)))) rfl ?_
        refine DL 10 68 true _ rfl rfl (bnotF hb21) (A2 87 [.agg ([U64 pv, U64 ep, I64 (kd), SL ai ni ci, SL sa ns sc, U64 bl] ++ cu8 tg).toArray] (.bool (decide (mayN pv ep (kd) l ls bl = 0))) (AS _ Tryd.call87 rfl) (fun w1 hw1 => wmay_w pv ep (kd) ai ni ci l sa ns sc ls bl tg w1 hl (by omega) (by omega) (by omega) (C2 hw1 rfl hv) hls (by omega) (by omega) (by omega) (C2 hw1 rfl hs) htg (by omega) (by omega))) rfl ?_
        rintro v1 L1 ⟨rfl, rfl⟩
        show JL _ _ _ _ ((71, .bool (decide (mayN pv ep (kd) l ls bl = 0))) :: _) [_]
        refine AA _ (BD _ rfl (bnotF hb21) rfl) rfl ?_
        refine AA _ (AE rfl) rfl ?_
        refine AI (AC (BI (CD (A1 (B4 [false] ?_)))))
        show JQ _ _ _ _ []
        refine BH (.bool (decide (mayN pv ep (kd) l ls bl = 0))) (res1 CO (BC rfl)) fun w1 hw1 => ?_
        refine ⟨_, [], rfl, ⟨congrArg Value.bool ?_, rfl⟩, hw1.sub (by simp) (by simp)⟩
        unfold reqR
        rw [hlq]
        first | (simp [CJ, *]; done) | (simp [CJ, *] at *; simp [*]; done) | (simp_all [CJ]; done) | (simp_all [CJ]; omega)
    ·
     have hp18 : ¬ ((qk) = (3:Int)) := of_decide_eq_false hb18
     refine AH (AH (AB (AA (.bool (decide ((qk) = (4:Int)))) (AR rfl rfl fun _ => BK _ _) rfl ?_)))
     refine AA _ (AE rfl) rfl ?_
     refine AI (AC (B9 (decide ((qk) = (4:Int))) rfl (fun hb22 => ?_) (fun hb22 => ?_)))
     ·
      have hp22 : (qk) = (4:Int) := of_decide_eq_true hb22
      refine BF (AC (B3 _ rfl hb22 ?_))
      refine AH (AB (AA _ (AF rfl) rfl ?_))
      refine AA (.bool (!(decide ((0:Int) < ((niq:Int)))))) (DG rfl) rfl ?_
      refine AA _ (AF rfl) rfl ?_
      rcases Bool.eq_false_or_eq_true (decide ((0:Int) < ((niq:Int)))) with hb23 | hb23
      ·
       have hp23 : (0:Int) < ((niq:Int)) := of_decide_eq_true hb23
       refine AG 2 78 true _ rfl rfl (bnotT hb23) rfl ?_
       refine AG 2 78 true _ rfl rfl (bnotT hb23) rfl ?_
       refine AA _ (A3 _ rfl (bnotT hb23) rfl) rfl ?_
       refine AA _ (AF rfl) rfl ?_
       refine AG 6 82 true _ rfl rfl rfl rfl ?_
       refine AG 6 82 true _ rfl rfl rfl rfl ?_
       refine AA _ (A3 _ rfl rfl rfl) rfl ?_
       refine AA _ (AE rfl) rfl ?_
       refine AI (AC (BI (CD (A1 (B4 [false] ?_)))))
       show JQ _ _ _ _ []
       refine BH (.bool false) (res1 CO (BC rfl)) fun w1 hw1 => ?_
       refine ⟨_, [], rfl, ⟨congrArg Value.bool ?_, rfl⟩, hw1.sub (by simp) (by simp)⟩
       have h9 : niq ≠ 0 := by omega
       unfold reqR
       rw [hlq]
       first | (simp [CJ, *]; done) | (simp [CJ, *] at *; simp [*]; done) | (simp_all [CJ]; done) | (simp_all [CJ]; omega)
      ·
       have hp23 : ¬ ((0:Int) < ((niq:Int))) := of_decide_eq_false hb23
       refine AP 2 78 true _ _ rfl rfl (bnotF hb23) (AF rfl) rfl ?_
       refine AP 2 78 true _ (.bool (!(decide ((mn) ≠ (0:Int))))) rfl rfl (bnotF hb23) (DG rfl) rfl ?_
       refine AA _ (BD _ rfl (bnotF hb23) rfl) rfl ?_
       refine AA _ (AF rfl) rfl ?_
       rcases Bool.eq_false_or_eq_true (decide ((mn) ≠ (0:Int))) with hb24 | hb24
       ·
        have hp24 : (mn) ≠ (0:Int) := of_decide_eq_true hb24
        refine AG 6 82 true _ rfl rfl (bnotT hb24) rfl ?_
        refine AG 6 82 true _ rfl rfl (bnotT hb24) rfl ?_
        refine AA _ (A3 _ rfl (bnotT hb24) rfl) rfl ?_
        refine AA _ (AE rfl) rfl ?_
        refine AI (AC (BI (CD (A1 (B4 [false] ?_)))))
        show JQ _ _ _ _ []
        refine BH (.bool false) (res1 CO (BC rfl)) fun w1 hw1 => ?_
        refine ⟨_, [], rfl, ⟨congrArg Value.bool ?_, rfl⟩, hw1.sub (by simp) (by simp)⟩
        unfold reqR
        rw [hlq]
        first | (simp [CJ, *]; done) | (simp [CJ, *] at *; simp [*]; done) | (simp_all [CJ]; done) | (simp_all [CJ]; omega)
       ·
        have hp24 : ¬ ((mn) ≠ (0:Int)) := of_decide_eq_false hb24
        refine AP 6 82 true _ _ rfl rfl (bnotF hb24) (AF rfl) rfl ?_
        refine AP 6 82 true _ (.bool (!(!(blankB pv ep (kd) l ls bl tg)))) rfl rfl (bnotF hb24) (DG rfl) rfl ?_
        refine AA _ (BD _ rfl (bnotF hb24) rfl) rfl ?_
        refine AA _ (AE rfl) rfl ?_
        refine AI (AC (BI (CD (A1 (B4 [false] ?_)))))
        show JQ _ _ _ _ []
        refine BH (.bool (!(!(blankB pv ep (kd) l ls bl tg)))) (res1 CO (BC rfl)) fun w1 hw1 => ?_
        refine ⟨_, [], rfl, ⟨congrArg Value.bool ?_, rfl⟩, hw1.sub (by simp) (by simp)⟩
        unfold reqR
        rw [hlq]
        first | (simp [CJ, *]; done) | (simp [CJ, *] at *; simp [*]; done) | (simp_all [CJ]; done) | (simp_all [CJ]; omega)
     ·
      have hp22 : ¬ ((qk) = (4:Int)) := of_decide_eq_false hb22
      refine AB (AA (.bool (decide ((qk) = (5:Int)))) (AR rfl rfl fun _ => BK _ _) rfl ?_)
      refine AA _ (AE rfl) rfl ?_
      refine AI (AC (B9 (decide ((qk) = (5:Int))) rfl (fun hb25 => ?_) (fun hb25 => ?_)))
      ·
       have hp25 : (qk) = (5:Int) := of_decide_eq_true hb25
       refine AH (AB (AA _ (AF rfl) rfl ?_))
       refine AA (.bool (!(decide ((0:Int) < ((niq:Int)))))) (DG rfl) rfl ?_
       refine AA _ (AF rfl) rfl ?_
       rcases Bool.eq_false_or_eq_true (decide ((0:Int) < ((niq:Int)))) with hb26 | hb26
       ·
        have hp26 : (0:Int) < ((niq:Int)) := of_decide_eq_true hb26
        refine AG 2 78 true _ rfl rfl (bnotT hb26) rfl ?_
        refine AG 2 78 true _ rfl rfl (bnotT hb26) rfl ?_
        refine AA _ (A3 _ rfl (bnotT hb26) rfl) rfl ?_
        refine AA _ (AF rfl) rfl ?_
        refine AG 6 82 true _ rfl rfl rfl rfl ?_
        refine AG 6 82 true _ rfl rfl rfl rfl ?_
        refine AA _ (A3 _ rfl rfl rfl) rfl ?_
        refine AA _ (AE rfl) rfl ?_
        refine AI (AC (BI (CD (A1 (B4 [false] ?_)))))
        show JQ _ _ _ _ []
        refine BH (.bool false) (res1 CO (BC rfl)) fun w1 hw1 => ?_
        refine ⟨_, [], rfl, ⟨congrArg Value.bool ?_, rfl⟩, hw1.sub (by simp) (by simp)⟩
        have h9 : niq ≠ 0 := by omega
        unfold reqR
        rw [hlq]
        first | (simp [CJ, *]; done) | (simp [CJ, *] at *; simp [*]; done) | (simp_all [CJ]; done) | (simp_all [CJ]; omega)
       ·
        have hp26 : ¬ ((0:Int) < ((niq:Int))) := of_decide_eq_false hb26
        refine AP 2 78 true _ _ rfl rfl (bnotF hb26) (AF rfl) rfl ?_
        refine AP 2 78 true _ (.bool (!(decide ((mn) ≠ (0:Int))))) rfl rfl (bnotF hb26) (DG rfl) rfl ?_
        refine AA _ (BD _ rfl (bnotF hb26) rfl) rfl ?_
        refine AA _ (AF rfl) rfl ?_
        rcases Bool.eq_false_or_eq_true (decide ((mn) ≠ (0:Int))) with hb27 | hb27
        ·
         have hp27 : (mn) ≠ (0:Int) := of_decide_eq_true hb27
         refine AG 6 82 true _ rfl rfl (bnotT hb27) rfl ?_
         refine AG 6 82 true _ rfl rfl (bnotT hb27) rfl ?_
         refine AA _ (A3 _ rfl (bnotT hb27) rfl) rfl ?_
         refine AA _ (AE rfl) rfl ?_
         refine AI (AC (BI (CD (A1 (B4 [false] ?_)))))
         show JQ _ _ _ _ []
         refine BH (.bool false) (res1 CO (BC rfl)) fun w1 hw1 => ?_
         refine ⟨_, [], rfl, ⟨congrArg Value.bool ?_, rfl⟩, hw1.sub (by simp) (by simp)⟩
         unfold reqR
         rw [hlq]
         first | (simp [CJ, *]; done) | (simp [CJ, *] at *; simp [*]; done) | (simp_all [CJ]; done) | (simp_all [CJ]; omega)
        ·
         have hp27 : ¬ ((mn) ≠ (0:Int)) := of_decide_eq_false hb27
         refine AP 6 82 true _ _ rfl rfl (bnotF hb27) (AF rfl) rfl ?_
         refine AP 6 82 true _ (.bool (!(!(blankB pv ep (kd) l ls bl tg)))) rfl rfl (bnotF hb27) (DG rfl) rfl ?_
         refine AA _ (BD _ rfl (bnotF hb27) rfl) rfl ?_
         refine AA _ (AE rfl) rfl ?_
         refine AI (AC (BI (CD (A1 (B4 [false] ?_)))))
         show JQ _ _ _ _ []
         refine BH (.bool (!(!(blankB pv ep (kd) l ls bl tg)))) (res1 CO (BC rfl)) fun w1 hw1 => ?_
         refine ⟨_, [], rfl, ⟨congrArg Value.bool ?_, rfl⟩, hw1.sub (by simp) (by simp)⟩
         unfold reqR
         rw [hlq]
         first | (simp [CJ, *]; done) | (simp [CJ, *] at *; simp [*]; done) | (simp_all [CJ]; done) | (simp_all [CJ]; omega)
      ·
       have hp25 : ¬ ((qk) = (5:Int)) := of_decide_eq_false hb25
       refine BF (BS (AC (AH (AB (AA _ (AE rfl) rfl ?_)))))
       refine AI (AC (BI (B4 [false] ?_)))
       show JQ _ _ _ _ []
       refine BH (.bool false) (res1 CO (BC rfl)) fun w1 hw1 => ?_
       refine ⟨_, [], rfl, ⟨congrArg Value.bool ?_, rfl⟩, hw1.sub (by simp) (by simp)⟩
       unfold reqR
       rw [hlq]
       first | (simp [CJ, *]; done) | (simp [CJ, *] at *; simp [*]; done) | (simp_all [CJ]; done) | (simp_all [CJ]; omega)
theorem putReq1_c (sq : UInt64) (aiq : Option Addr) (niq ciq : Nat) (lq : List UInt64) (fs : UInt64) (mn : Int) (pv ep : UInt64) (kd : Int) (ai : Option Addr) (ni ci : Nat) (l : List UInt64) (sa : Option Addr) (ns sc : Nat) (ls : List SealR) (bl : UInt64) (tg : List UInt8) (eq : UInt64)  (w : World) (hlq : lq.length = niq) (hnmq : niq ≤ 2000000) (hncq : niq ≤ ciq) (hcmq : ciq ≤ maxLen) (hvq : RdV w aiq (cu64 lq)) (hl : l.length = ni) (hnm : ni ≤ 2000000) (hnc : ni ≤ ci) (hcm : ci ≤ maxLen) (hv : RdV w ai (cu64 l)) (hls : ls.length = ns) (hnn : ns ≤ 2000000) (hnd : ns ≤ sc) (hcn : sc ≤ maxLen) (hs : RdV w sa (ls.flatMap sealC)) (htg : tg.length = 16) (hbi : ni ≤ 300) (hbs : ns ≤ 300) (hR : reqR (1:Int) lq fs mn eq (blankB pv ep kd l ls bl tg) (decide (mayN pv ep kd l ls bl = 0)) = true)  : Calls Tryd.prog 21 #[.agg ([U64 sq, I64 1, SL aiq niq ciq, U64 fs, I64 (mn), U64 pv, U64 ep, I64 (kd), SL ai ni ci, SL sa ns sc, U64 bl] ++ cu8 tg ++ [U64 eq]).toArray] w (Post w [] (fun v L => ∃ g sp cap, v = .tuple #[Slc g 0 (4*niq + 18) cap, .nilIface] ∧ L = [⟨g, cu8 ((((numK 8 sq 8 ++ numK 1 (1:UInt64) 1) ++ numK 8 eq 8) ++ numK 1 (UInt64.ofNat (niq - 1)) 1) ++ idxT lq niq) ++ sp, 5, (0, 0)⟩] ∧ sp.length = cap - (4*niq + 18) ∧ 4*niq + 18 ≤ cap ∧ cap ≤ maxLen)) := by
 have hmx : maxLen = 9223372036854775807 := rfl
 have hRI := reqR_one hR
 have hRp := RightI_pos hRI
 rw [hlq] at hRp
 refine enter (P := Tryd.prog) (f := 21) (fn := Tryd.f21) w [] 82 [] [.agg ([U64 sq, I64 1, SL aiq niq ciq, U64 fs, I64 (mn), U64 pv, U64 ep, I64 (kd), SL ai ni ci, SL sa ns sc, U64 bl] ++ cu8 tg ++ [U64 eq]).toArray] Tryd.func21 rfl rfl (by simp) (BW (by simp) (by simp) (by simp)) ?_
 show JC _ _ _ [(0, .agg ([U64 sq, I64 1, SL aiq niq ciq, U64 fs, I64 (mn), U64 pv, U64 ep, I64 (kd), SL ai ni ci, SL sa ns sc, U64 bl] ++ cu8 tg ++ [U64 eq]).toArray)] _
 refine AH (AB (A4 (C5 (.agg ([U64 sq, I64 1, SL aiq niq ciq, U64 fs, I64 (mn), U64 pv, U64 ep, I64 (kd), SL ai ni ci, SL sa ns sc, U64 bl] ++ cu8 tg ++ [U64 eq]).toArray) ([U64 sq, I64 1, SL aiq niq ciq, U64 fs, I64 (mn), U64 pv, U64 ep, I64 (kd), SL ai ni ci, SL sa ns sc, U64 bl] ++ cu8 tg ++ [U64 eq]) rfl (by first | rfl | simp)) rfl ?_))
 rintro v1 L1 ⟨nb1, hnb1, rfl, rfl⟩
 show JL _ _ _ _ ((1, Ptr nb1 0) :: _) [⟨nb1, [U64 sq, I64 1, SL aiq niq ciq, U64 fs, I64 (mn), U64 pv, U64 ep, I64 (kd), SL ai ni ci, SL sa ns sc, U64 bl] ++ cu8 tg ++ [U64 eq], 31, (0, 0)⟩]
 refine AA _ (AE rfl) rfl ?_
 refine AA _ (AE rfl) rfl ?_
 refine AI (AC (AH (AH (AB (AA (.agg ([U64 sq, I64 1, SL aiq niq ciq, U64 fs, I64 (mn), U64 pv, U64 ep, I64 (kd), SL ai ni ci, SL sa ns sc, U64 bl] ++ cu8 tg ++ [U64 eq]).toArray) (AO rfl (BU CY BV (by simp [htg]) (AU 0 rfl (AQ _)))) rfl ?_)))))
 refine A7 (A2 22 [.agg ([U64 sq, I64 1, SL aiq niq ciq, U64 fs, I64 (mn), U64 pv, U64 ep, I64 (kd), SL ai ni ci, SL sa ns sc, U64 bl] ++ cu8 tg ++ [U64 eq]).toArray] (.bool (reqR (1:Int) lq fs (mn) eq (blankB pv ep (kd) l ls bl tg) (decide (mayN pv ep (kd) l ls bl = 0)))) (AS _ Tryd.call22 rfl) (fun w1 hw1 => FA sq (1:Int) aiq niq ciq lq fs (mn) pv ep (kd) ai ni ci l sa ns sc ls bl tg eq w1 hlq (by omega) (by omega) (by omega) (C2 hw1 rfl hvq) hl (by omega) (by omega) (by omega) (C2 hw1 rfl hv) hls (by omega) (by omega) (by omega) (C2 hw1 rfl hs) htg (by omega) (by omega))) rfl ?_
 show JL _ _ _ _ ((10, .bool (reqR (1:Int) lq fs (mn) eq (blankB pv ep (kd) l ls bl tg) (decide (mayN pv ep (kd) l ls bl = 0)))) :: _) [_]
 refine AA (.bool (!(reqR (1:Int) lq fs (mn) eq (blankB pv ep (kd) l ls bl tg) (decide (mayN pv ep (kd) l ls bl = 0))))) (DG rfl) rfl ?_
 refine AI (AC (BP _ rfl (bnotT hR) ?_))
 refine BF (AC (AH (AB (AA (.agg #[.nilIface, SL none 0 0]) (CP [] _ rfl (fun _ => by kernel_rfl)) rfl ?_))))
 refine A4 (C5 (.agg #[.nilIface, SL none 0 0]) ([.nilIface, SL none 0 0]) rfl (by first | rfl | simp)) rfl ?_
 rintro v1 L1 ⟨nb2, hnb2, rfl, rfl⟩
 show JL _ _ _ _ ((14, Ptr nb2 0) :: _) [_, ⟨nb2, [.nilIface, SL none 0 0], 149, (0, 0)⟩]
 refine AA _ (AE rfl) rfl ?_
 refine AI (AC (AH (DC 82 3 [(0, Ptr nb2 0), (1, Ptr nb1 0), (2, U64 sq), (4, Ptr nb1 1), (5, I64 1), (6, U64 1)] CA rfl (by decide +kernel) ?_)))
 refine CW ⟨[], [0, 1, 2, 4, 5, 6], [], [0, 1, 2, 4, 5, 6], [3]⟩ 3 _ rfl rfl (by decide +kernel) rfl ⟨CG rfl rfl rfl, ⟨_, rfl, AL rfl (AD 0 22 1 AX rfl A9 rfl rfl)⟩, ⟨_, rfl, AL rfl (AO rfl (A0 BN (AU 0 rfl (AJ (AJ (Seg.head))))))⟩, ⟨_, rfl, AL rfl (AD 1 3 1 AX rfl AT rfl rfl)⟩, ⟨_, rfl, AL rfl (AO rfl (A0 AY (AU 0 rfl (AJ (AJ (AK (Seg.head)))))))⟩, ⟨_, rfl, AL rfl (CM _ _ rfl fun _ => DK (by rw [A6]; rfl) AW rfl)⟩, trivial⟩ rfl (BO rfl (A8 81 _ [false, true] [nb2] _ (AS [Ptr nb2 0, U64 sq, I64 8] B0 rfl) rfl (fun w1 hw1 => numN_c nb2 8 .nilIface sq 8 w1 (hw1.ent _ (List.mem_of_getElem? (i := 1) rfl)) (by unfold Szd; omega) (fun h => absurd h (by omega)) (by omega)))) ?_
 rintro v1 L1 ⟨_, ⟨rfl, nb3, sp1, cp1, rfl, hc1, hc2, hc3⟩, rfl⟩
 refine ⟨[], ?_⟩
 show DP _ _ _ _ _ _ _ _ [_, ⟨nb2, [.nilIface, Slc nb3 0 8 cp1], 149, (0, 0)⟩, ⟨nb3, cu8 (numK 8 sq 8) ++ sp1, 5, (0, 0)⟩]
 refine CW ⟨[3], [0, 1, 2, 4, 5, 6], [0, 1, 2], [4, 5, 6], [7]⟩ 7 _ rfl rfl (by decide +kernel) rfl ⟨⟨_, rfl, AL rfl (AD 1 3 1 AX rfl AT rfl rfl)⟩, ⟨_, rfl, AL rfl (AO rfl (A0 AY (AU 0 rfl (AJ (AJ (AK (Seg.head)))))))⟩, ⟨_, rfl, AL rfl (CM _ _ rfl fun _ => DK (by rw [A6]; rfl) AW rfl)⟩, trivial⟩ rfl (BO rfl (A8 81 _ [false, true, true] [nb2, nb3] _ (AS [Ptr nb2 0, U64 1, I64 1] B0 rfl) rfl (fun w1 hw1 => EO nb2 nb3 8 cp1 9 .nilIface (numK 8 sq 8) sp1 (1:UInt64) 1 w1 (hw1.ent _ (List.mem_of_getElem? (i := 1) rfl)) (hw1.ent _ (List.mem_of_getElem? (i := 2) rfl)) (hw1.ne (i := 1) (j := 2) rfl rfl (by decide)) (show (numK 8 sq 8).length = 8 from (A5 _ _ _)) hc1 hc2 hc3 (by omega) (by unfold Szd; omega) (fun _ => by decide) (by omega)))) ?_
 rintro v1 L1 ⟨_, ⟨rfl, nb4, sp2, cp2, rfl, hc4, hc5, hc6⟩, rfl⟩
 refine ⟨[], ?_⟩
 show DP _ _ _ _ _ _ _ _ [_, ⟨nb2, [.nilIface, Slc nb4 0 9 cp2], 149, (0, 0)⟩, ⟨nb4, cu8 ((numK 8 sq 8) ++ numK 1 (1:UInt64) 1) ++ sp2, 5, (0, 0)⟩]
 refine DU ⟨[3, 7], [0, 1, 2, 4, 5, 6], [0, 1, 2, 4, 5, 6], [], []⟩ rfl rfl (by decide +kernel) rfl trivial ?_
 refine C6 (F' := [(1, Ptr nb1 0), (2, SL none 0 0), (3, .nilIface), (4, Ptr nb2 0)]) (by kernel_rfl) ?_
 refine AC (AH (AH (AB (AA (Ptr nb1 1) (AD 1 3 1 AX rfl AT rfl rfl) rfl ?_))))
 refine AA (I64 1) (AO rfl (A0 AY (AU 0 rfl (AJ (AJ (AK (Seg.head))))))) rfl ?_
 refine AA (.bool (decide ((1:Int) = (3:Int)))) (AR rfl rfl fun _ => BK _ _) rfl ?_
 refine AI (AC (BP _ rfl (by decide) ?_))
 refine BF (AC (AH (AB (AA _ (AF rfl) rfl ?_))))
 refine AA (Ptr nb1 27) (AD 27 22 1 AX rfl A9 rfl rfl) rfl ?_
 refine AA (U64 eq) (AO rfl (A0 BN (AU 0 rfl (Seg.right 27 0 (by simp [htg]) rfl (Seg.head))))) rfl ?_
 refine A4 (A8 81 _ [false, true, true] [nb2, nb4] _ (AS [Ptr nb2 0, U64 eq, I64 8] B0 rfl) rfl (fun w1 hw1 => EO nb2 nb4 9 cp2 17 .nilIface ((numK 8 sq 8) ++ numK 1 (1:UInt64) 1) sp2 eq 8 w1 (hw1.ent _ (List.mem_of_getElem? (i := 1) rfl)) (hw1.ent _ (List.mem_of_getElem? (i := 2) rfl)) (hw1.ne (i := 1) (j := 2) rfl rfl (by decide)) (show ((numK 8 sq 8) ++ numK 1 (1:UInt64) 1).length = 9 from (by rw [List.length_append, (show (numK 8 sq 8).length = 8 from (A5 _ _ _)), A5] <;> omega)) hc4 hc5 hc6 (by omega) (by unfold Szd; omega) (fun h => absurd h (by omega)) (by omega))) rfl ?_
 rintro v1 L1 ⟨_, ⟨rfl, nb5, sp3, cp3, rfl, hc7, hc8, hc9⟩, rfl⟩
 show JL _ _ _ _ ((44, Ptr nb2 0) :: _) [_, ⟨nb2, [.nilIface, Slc nb5 0 17 cp3], 149, (0, 0)⟩, ⟨nb5, cu8 (((numK 8 sq 8) ++ numK 1 (1:UInt64) 1) ++ numK 8 eq 8) ++ sp3, 5, (0, 0)⟩]
 refine AI (AC (AH (AH (AB (AA (Ptr nb1 1) (AD 1 3 1 AX rfl AT rfl rfl) rfl ?_)))))
 refine AA (I64 1) (AO rfl (A0 AY (AU 0 rfl (AJ (AJ (AK (Seg.head))))))) rfl ?_
 refine AI (AC (B5 (AH (AB (AA (.bool (decide ((1:Int) = (1:Int)))) (AR rfl rfl fun _ => BK _ _) rfl ?_)))))
 refine AA _ (AE rfl) rfl ?_
 refine AI (AC (B3 _ rfl (by decide) ?_))
 refine AH (AB (AA _ (AF rfl) rfl ?_))
 refine AA (Ptr nb1 2) (AD 2 23 1 AX rfl B2 rfl rfl) rfl ?_
 refine AA (SL aiq niq ciq) (AO rfl (A0 CQ (AU 0 rfl (AJ (AJ (AK (AK (Seg.head)))))))) rfl ?_
 refine AA (I64 niq) (DY BX rfl) rfl ?_
 refine AA (I64 ((niq:Int) - 1)) (AR rfl rfl fun _ => EG _ _ ((niq:Int) - 1) (by omega) (by omega)) rfl ?_
 refine AA (U64 (UInt64.ofNat (niq - 1))) (CM _ _ rfl fun _ => DW (by rw [A6]; rfl) AW (niq - 1) _ (by omega)) rfl ?_
 refine A4 (A8 81 _ [false, true, true] [nb2, nb5] _ (AS [Ptr nb2 0, U64 (UInt64.ofNat (niq - 1)), I64 1] B0 rfl) rfl (fun w1 hw1 => EO nb2 nb5 17 cp3 18 .nilIface (((numK 8 sq 8) ++ numK 1 (1:UInt64) 1) ++ numK 8 eq 8) sp3 (UInt64.ofNat (niq - 1)) 1 w1 (hw1.ent _ (List.mem_of_getElem? (i := 1) rfl)) (hw1.ent _ (List.mem_of_getElem? (i := 2) rfl)) (hw1.ne (i := 1) (j := 2) rfl rfl (by decide)) (show (((numK 8 sq 8) ++ numK 1 (1:UInt64) 1) ++ numK 8 eq 8).length = 17 from (by rw [List.length_append, (show ((numK 8 sq 8) ++ numK 1 (1:UInt64) 1).length = 9 from (by rw [List.length_append, (show (numK 8 sq 8).length = 8 from (A5 _ _ _)), A5] <;> omega)), A5] <;> omega)) hc7 hc8 hc9 (by omega) (by unfold Szd; omega) (fun _ => shr8n (by omega)) (by omega))) rfl ?_
 rintro v1 L1 ⟨_, ⟨rfl, nb6, sp4, cp4, rfl, hc10, hc11, hc12⟩, rfl⟩
 show JL _ _ _ _ ((55, Ptr nb2 0) :: _) [_, ⟨nb2, [.nilIface, Slc nb6 0 18 cp4], 149, (0, 0)⟩, ⟨nb6, cu8 ((((numK 8 sq 8) ++ numK 1 (1:UInt64) 1) ++ numK 8 eq 8) ++ numK 1 (UInt64.ofNat (niq - 1)) 1) ++ sp4, 5, (0, 0)⟩]
 refine AI (AC (AH (AB (AA (Ptr nb1 2) (AD 2 23 1 AX rfl B2 rfl rfl) rfl ?_))))
 refine AA (SL aiq niq ciq) (AO rfl (A0 CQ (AU 0 rfl (AJ (AJ (AK (AK (Seg.head)))))))) rfl ?_
 refine AA (I64 niq) (DY BX rfl) rfl ?_
 refine AA _ (AF rfl) rfl ?_
 refine AI (AC (B5 (B4 [false, true, true] ?_)))
 show JC _ _ _ _ [_, _]
 refine EM (ι := Nat × List UInt8 × Nat × List Value × Nat) (fun ⟨i, oqi, gqi, spqi, cpqi⟩ => [(2, SL none 0 0), (3, .nilIface), (4, Ptr nb2 0), (57, SL aiq niq ciq), (58, I64 niq), (59, I64 i)]) (fun ⟨i, oqi, gqi, spqi, cpqi⟩ => [⟨nb2, [.nilIface, Slc gqi 0 (4*i + 18) cpqi], 149, (0, 0)⟩, ⟨gqi, cu8 oqi ++ spqi, 5, (0, 0)⟩]) (fun ⟨i, oqi, gqi, spqi, cpqi⟩ => i ≤ niq ∧ oqi = (((numK 8 sq 8 ++ numK 1 (1:UInt64) 1) ++ numK 8 eq 8) ++ numK 1 (UInt64.ofNat (niq - 1)) 1) ++ idxT lq i ∧ oqi.length = 4*i + 18 ∧ spqi.length = cpqi - (4*i + 18) ∧ 4*i + 18 ≤ cpqi ∧ cpqi ≤ maxLen) (fun ⟨i, oqi, gqi, spqi, cpqi⟩ => niq - i) (0, (((numK 8 sq 8) ++ numK 1 (1:UInt64) 1) ++ numK 8 eq 8) ++ numK 1 (UInt64.ofNat (niq - 1)) 1, nb6, sp4, cp4) ⟨by omega, by rw [idxT_zero, List.append_nil], (by have h := (show ((((numK 8 sq 8) ++ numK 1 (1:UInt64) 1) ++ numK 8 eq 8) ++ numK 1 (UInt64.ofNat (niq - 1)) 1).length = 18 from (by rw [List.length_append, (show (((numK 8 sq 8) ++ numK 1 (1:UInt64) 1) ++ numK 8 eq 8).length = 17 from (by rw [List.length_append, (show ((numK 8 sq 8) ++ numK 1 (1:UInt64) 1).length = 9 from (by rw [List.length_append, (show (numK 8 sq 8).length = 8 from (A5 _ _ _)), A5] <;> omega)), A5] <;> omega)), A5] <;> omega)); omega), (by have h := hc10; omega), by omega, by omega⟩ (Sub.all rfl) (by first | rfl | (simp; done)) ?_
 rintro ⟨i, oqi, gqi, spqi, cpqi⟩ ⟨hi1, hi2, hi3, hi4, hi5, hi6⟩
 show JC _ _ _ [(2, SL none 0 0), (3, .nilIface), (4, Ptr nb2 0), (57, SL aiq niq ciq), (58, I64 niq), (59, I64 i)] [⟨nb2, [.nilIface, Slc gqi 0 (4*i + 18) cpqi], 149, (0, 0)⟩, ⟨gqi, cu8 oqi ++ spqi, 5, (0, 0)⟩]
 refine AH (AB (AA (.bool (decide (((i:Int)) < ((niq:Int))))) (AR rfl rfl fun _ => CH _ _) rfl ?_))
 refine AI (AC (AH (B9 (decide (((i:Int)) < ((niq:Int)))) rfl (fun hb1 => ?_) (fun hb1 => ?_))))
 ·
  have hp1 : ((i:Int)) < ((niq:Int)) := of_decide_eq_true hb1
  refine BF (AC (AH (B5 (AH (AB ?_)))))
  obtain ⟨bz1, oz1, hz1, hm1⟩ := RdV.pos hvq (by rw [cu64_length, hlq]; omega)
  refine AA (Ptr bz1 (i + oz1)) (EA 22 1 (i + oz1) BX A9 rfl hz1 rfl (by omega) (by omega) (by omega)) rfl ?_
  refine AA (U64 (g64 lq i)) (AO rfl (A0 BN (DB (hm1.mem (by simp)) (Seg.get (g64_get (i := i) (by rw [hlq]; omega))) (by first | omega | (simp; done) | (simp; omega))))) rfl ?_
  refine AA _ (AE rfl) rfl ?_
  refine AI (AC (AB (AA _ (AF rfl) rfl ?_)))
  refine AA _ (AF rfl) rfl ?_
  refine A4 (A8 81 _ [true, true] [nb2, gqi] _ (AS [Ptr nb2 0, U64 (g64 lq i), I64 4] B0 rfl) rfl (fun w1 hw1 => EO nb2 gqi (4*i + 18) cpqi (4*i + 22) .nilIface oqi spqi (g64 lq i) 4 w1 (hw1.ent _ (List.mem_of_getElem? (i := 0) rfl)) (hw1.ent _ (List.mem_of_getElem? (i := 1) rfl)) (hw1.ne (i := 0) (j := 1) rfl rfl (by decide)) hi3 hi4 hi5 hi6 (by omega) (by unfold Szd; omega) (fun _ => idx_fit hRI (by omega)) (by omega))) rfl ?_
  rintro v1 L1 ⟨_, ⟨rfl, nb7, sp5, cp5, rfl, hc13, hc14, hc15⟩, rfl⟩
  show JL _ _ _ _ ((65, Ptr nb2 0) :: _) [⟨nb2, [.nilIface, Slc nb7 0 (4*i + 22) cp5], 149, (0, 0)⟩, ⟨nb7, cu8 (oqi ++ numK 4 (g64 lq i) 4) ++ sp5, 5, (0, 0)⟩]
  refine AI (BS (AC (AB (AA (I64 ((i:Int) + 1)) (AR rfl rfl fun _ => DQ _ _ ((i:Int) + 1) (by omega) (by omega)) rfl ?_))))
  refine AA _ (AF rfl) rfl ?_
  refine AI (D0 (EV (i + 1, oqi ++ numK 4 (g64 lq i) 4, nb7, sp5, cp5) ⟨by omega, by rw [hi2, idxT_succ, List.append_assoc], (by have h := (show (oqi ++ numK 4 (g64 lq i) 4).length = (4*i + 22) from (by rw [List.length_append, hi3, A5] <;> omega)); omega), (by have h := hc13; omega), by omega, by omega⟩ (by first | (simp; omega) | simp | (dsimp only; omega) | omega) (Sub.all rfl) (by first | rfl | rw [show (4*i + 22) = (4*(i + 1) + 18) by omega])))
 ·
  have hp1 : ¬ (((i:Int)) < ((niq:Int))) := of_decide_eq_false hb1
  refine ED (BJ (BJ (C1 (BS (AC (AH (AB (AA _ (AF rfl) rfl ?_))))))))
  refine A4 (CZ 83 [Ptr nb2 0] _ (AS _ EQ rfl) (fun w1 hw1 => FJ nb2 0 gqi (4*i + 18) cpqi oqi w1 (RdA.of hw1 (AU 0 rfl (AQ _)) (by simp)) rfl hi3 (by omega) (RdB.of hw1 (AU 1 rfl (AJ (AQ _))) (by simp)))) rfl ?_
  rintro v1 L1 ⟨_, ⟨nb8, sp6, cp6, rfl, rfl, hc16, hc17, hc18⟩, rfl⟩
  show JL _ _ _ _ ((79, .tuple #[Slc nb8 0 (4*i + 18) cp6, .nilIface]) :: _) [_, _, ⟨nb8, cu8 oqi ++ sp6, 5, (0, 0)⟩]
  refine AA _ (BE rfl rfl) rfl ?_
  refine AA _ (BE rfl rfl) rfl ?_
  refine AA _ (AE rfl) rfl ?_
  refine AA _ (AE rfl) rfl ?_
  refine AI (AC (BI (B4 [false, false, true] ?_)))
  show JQ _ _ _ _ [_]
  refine BH (.tuple #[Slc nb8 0 (4*i + 18) cp6, .nilIface]) (res2 Tryd.results21 (BC rfl) (BC rfl)) fun w1 hw1 => ?_
  have hi7 : niq = i := by omega
  subst hi7
  have hq : oqi = (((numK 8 sq 8 ++ numK 1 (1:UInt64) 1) ++ numK 8 eq 8) ++ numK 1 (UInt64.ofNat (niq - 1)) 1) ++ idxT lq niq := hi2
  rw [hq] at hw1
  exact ⟨_, _, rfl, ⟨nb8, sp6, cp6, rfl, rfl, hc16, hc17, hc18⟩, hw1.sub (by simp) (by simp)⟩
theorem putReq2_c (sq : UInt64) (aiq : Option Addr) (niq ciq : Nat) (lq : List UInt64) (fs : UInt64) (mn : Nat) (pv ep : UInt64) (kd : Int) (ai : Option Addr) (ni ci : Nat) (l : List UInt64) (sa : Option Addr) (ns sc : Nat) (ls : List SealR) (bl : UInt64) (tg : List UInt8) (eq : UInt64)  (w : World) (hlq : lq.length = niq) (hnmq : niq ≤ 2000000) (hncq : niq ≤ ciq) (hcmq : ciq ≤ maxLen) (hvq : RdV w aiq (cu64 lq)) (hl : l.length = ni) (hnm : ni ≤ 2000000) (hnc : ni ≤ ci) (hcm : ci ≤ maxLen) (hv : RdV w ai (cu64 l)) (hls : ls.length = ns) (hnn : ns ≤ 2000000) (hnd : ns ≤ sc) (hcn : sc ≤ maxLen) (hs : RdV w sa (ls.flatMap sealC)) (htg : tg.length = 16) (hbi : ni ≤ 300) (hbs : ns ≤ 300) (hR : reqR (2:Int) lq fs mn eq (blankB pv ep kd l ls bl tg) (decide (mayN pv ep kd l ls bl = 0)) = true)  : Calls Tryd.prog 21 #[.agg ([U64 sq, I64 2, SL aiq niq ciq, U64 fs, I64 mn, U64 pv, U64 ep, I64 (kd), SL ai ni ci, SL sa ns sc, U64 bl] ++ cu8 tg ++ [U64 eq]).toArray] w (Post w [] (fun v L => ∃ g sp cap, v = .tuple #[Slc g 0 (22) cap, .nilIface] ∧ L = [⟨g, cu8 ((((numK 8 sq 8 ++ numK 1 (2:UInt64) 1) ++ numK 8 eq 8) ++ numK 4 fs 4) ++ numK 1 (UInt64.ofNat (mn - 1)) 1) ++ sp, 5, (0, 0)⟩] ∧ sp.length = cap - (22) ∧ 22 ≤ cap ∧ cap ≤ maxLen)) := by
 have hmx : maxLen = 9223372036854775807 := rfl
 have hSp := reqR_two hR
 have hSb := span_bd hSp
 refine enter (P := Tryd.prog) (f := 21) (fn := Tryd.f21) w [] 82 [] [.agg ([U64 sq, I64 2, SL aiq niq ciq, U64 fs, I64 mn, U64 pv, U64 ep, I64 (kd), SL ai ni ci, SL sa ns sc, U64 bl] ++ cu8 tg ++ [U64 eq]).toArray] Tryd.func21 rfl rfl (by simp) (BW (by simp) (by simp) (by simp)) ?_
 show JC _ _ _ [(0, .agg ([U64 sq, I64 2, SL aiq niq ciq, U64 fs, I64 mn, U64 pv, U64 ep, I64 (kd), SL ai ni ci, SL sa ns sc, U64 bl] ++ cu8 tg ++ [U64 eq]).toArray)] _
 refine AH (AB (A4 (C5 (.agg ([U64 sq, I64 2, SL aiq niq ciq, U64 fs, I64 mn, U64 pv, U64 ep, I64 (kd), SL ai ni ci, SL sa ns sc, U64 bl] ++ cu8 tg ++ [U64 eq]).toArray) ([U64 sq, I64 2, SL aiq niq ciq, U64 fs, I64 mn, U64 pv, U64 ep, I64 (kd), SL ai ni ci, SL sa ns sc, U64 bl] ++ cu8 tg ++ [U64 eq]) rfl (by first | rfl | simp)) rfl ?_))
 rintro v1 L1 ⟨nb1, hnb1, rfl, rfl⟩
 show JL _ _ _ _ ((1, Ptr nb1 0) :: _) [⟨nb1, [U64 sq, I64 2, SL aiq niq ciq, U64 fs, I64 mn, U64 pv, U64 ep, I64 (kd), SL ai ni ci, SL sa ns sc, U64 bl] ++ cu8 tg ++ [U64 eq], 31, (0, 0)⟩]
 refine AA _ (AE rfl) rfl ?_
 refine AA _ (AE rfl) rfl ?_
 refine AI (AC (AH (AH (AB (AA (.agg ([U64 sq, I64 2, SL aiq niq ciq, U64 fs, I64 mn, U64 pv, U64 ep, I64 (kd), SL ai ni ci, SL sa ns sc, U64 bl] ++ cu8 tg ++ [U64 eq]).toArray) (AO rfl (BU CY BV (by simp [htg]) (AU 0 rfl (AQ _)))) rfl ?_)))))
 refine A7 (A2 22 [.agg ([U64 sq, I64 2, SL aiq niq ciq, U64 fs, I64 mn, U64 pv, U64 ep, I64 (kd), SL ai ni ci, SL sa ns sc, U64 bl] ++ cu8 tg ++ [U64 eq]).toArray] (.bool (reqR (2:Int) lq fs ((mn:Int)) eq (blankB pv ep (kd) l ls bl tg) (decide (mayN pv ep (kd) l ls bl = 0)))) (AS _ Tryd.call22 rfl) (fun w1 hw1 => FA sq (2:Int) aiq niq ciq lq fs ((mn:Int)) pv ep (kd) ai ni ci l sa ns sc ls bl tg eq w1 hlq (by omega) (by omega) (by omega) (C2 hw1 rfl hvq) hl (by omega) (by omega) (by omega) (C2 hw1 rfl hv) hls (by omega) (by omega) (by omega) (C2 hw1 rfl hs) htg (by omega) (by omega))) rfl ?_
 show JL _ _ _ _ ((10, .bool (reqR (2:Int) lq fs ((mn:Int)) eq (blankB pv ep (kd) l ls bl tg) (decide (mayN pv ep (kd) l ls bl = 0)))) :: _) [_]
 refine AA (.bool (!(reqR (2:Int) lq fs ((mn:Int)) eq (blankB pv ep (kd) l ls bl tg) (decide (mayN pv ep (kd) l ls bl = 0))))) (DG rfl) rfl ?_
 refine AI (AC (BP _ rfl (bnotT hR) ?_))
 refine BF (AC (AH (AB (AA (.agg #[.nilIface, SL none 0 0]) (CP [] _ rfl (fun _ => by kernel_rfl)) rfl ?_))))
 refine A4 (C5 (.agg #[.nilIface, SL none 0 0]) ([.nilIface, SL none 0 0]) rfl (by first | rfl | simp)) rfl ?_
 rintro v1 L1 ⟨nb2, hnb2, rfl, rfl⟩
 show JL _ _ _ _ ((14, Ptr nb2 0) :: _) [_, ⟨nb2, [.nilIface, SL none 0 0], 149, (0, 0)⟩]
 refine AA _ (AE rfl) rfl ?_
 refine AI (AC (AH (DC 82 3 [(0, Ptr nb2 0), (1, Ptr nb1 0), (2, U64 sq), (4, Ptr nb1 1), (5, I64 2), (6, U64 2)] CA rfl (by decide +kernel) ?_)))
 refine CW ⟨[], [0, 1, 2, 4, 5, 6], [], [0, 1, 2, 4, 5, 6], [3]⟩ 3 _ rfl rfl (by decide +kernel) rfl ⟨CG rfl rfl rfl, ⟨_, rfl, AL rfl (AD 0 22 1 AX rfl A9 rfl rfl)⟩, ⟨_, rfl, AL rfl (AO rfl (A0 BN (AU 0 rfl (AJ (AJ (Seg.head))))))⟩, ⟨_, rfl, AL rfl (AD 1 3 1 AX rfl AT rfl rfl)⟩, ⟨_, rfl, AL rfl (AO rfl (A0 AY (AU 0 rfl (AJ (AJ (AK (Seg.head)))))))⟩, ⟨_, rfl, AL rfl (CM _ _ rfl fun _ => DK (by rw [A6]; rfl) AW rfl)⟩, trivial⟩ rfl (BO rfl (A8 81 _ [false, true] [nb2] _ (AS [Ptr nb2 0, U64 sq, I64 8] B0 rfl) rfl (fun w1 hw1 => numN_c nb2 8 .nilIface sq 8 w1 (hw1.ent _ (List.mem_of_getElem? (i := 1) rfl)) (by unfold Szd; omega) (fun h => absurd h (by omega)) (by omega)))) ?_
 rintro v1 L1 ⟨_, ⟨rfl, nb3, sp1, cp1, rfl, hc1, hc2, hc3⟩, rfl⟩
 refine ⟨[], ?_⟩
 show DP _ _ _ _ _ _ _ _ [_, ⟨nb2, [.nilIface, Slc nb3 0 8 cp1], 149, (0, 0)⟩, ⟨nb3, cu8 (numK 8 sq 8) ++ sp1, 5, (0, 0)⟩]
 refine CW ⟨[3], [0, 1, 2, 4, 5, 6], [0, 1, 2], [4, 5, 6], [7]⟩ 7 _ rfl rfl (by decide +kernel) rfl ⟨⟨_, rfl, AL rfl (AD 1 3 1 AX rfl AT rfl rfl)⟩, ⟨_, rfl, AL rfl (AO rfl (A0 AY (AU 0 rfl (AJ (AJ (AK (Seg.head)))))))⟩, ⟨_, rfl, AL rfl (CM _ _ rfl fun _ => DK (by rw [A6]; rfl) AW rfl)⟩, trivial⟩ rfl (BO rfl (A8 81 _ [false, true, true] [nb2, nb3] _ (AS [Ptr nb2 0, U64 2, I64 1] B0 rfl) rfl (fun w1 hw1 => EO nb2 nb3 8 cp1 9 .nilIface (numK 8 sq 8) sp1 (2:UInt64) 1 w1 (hw1.ent _ (List.mem_of_getElem? (i := 1) rfl)) (hw1.ent _ (List.mem_of_getElem? (i := 2) rfl)) (hw1.ne (i := 1) (j := 2) rfl rfl (by decide)) (show (numK 8 sq 8).length = 8 from (A5 _ _ _)) hc1 hc2 hc3 (by omega) (by unfold Szd; omega) (fun _ => by decide) (by omega)))) ?_
 rintro v1 L1 ⟨_, ⟨rfl, nb4, sp2, cp2, rfl, hc4, hc5, hc6⟩, rfl⟩
 refine ⟨[], ?_⟩
 show DP _ _ _ _ _ _ _ _ [_, ⟨nb2, [.nilIface, Slc nb4 0 9 cp2], 149, (0, 0)⟩, ⟨nb4, cu8 ((numK 8 sq 8) ++ numK 1 (2:UInt64) 1) ++ sp2, 5, (0, 0)⟩]
 refine DU ⟨[3, 7], [0, 1, 2, 4, 5, 6], [0, 1, 2, 4, 5, 6], [], []⟩ rfl rfl (by decide +kernel) rfl trivial ?_
 refine C6 (F' := [(1, Ptr nb1 0), (2, SL none 0 0), (3, .nilIface), (4, Ptr nb2 0)]) (by kernel_rfl) ?_
 refine AC (AH (AH (AB (AA (Ptr nb1 1) (AD 1 3 1 AX rfl AT rfl rfl) rfl ?_))))
 refine AA (I64 2) (AO rfl (A0 AY (AU 0 rfl (AJ (AJ (AK (Seg.head))))))) rfl ?_
 refine AA (.bool (decide ((2:Int) = (3:Int)))) (AR rfl rfl fun _ => BK _ _) rfl ?_
 refine AI (AC (BP _ rfl (by decide) ?_))
 refine BF (AC (AH (AB (AA _ (AF rfl) rfl ?_))))
 refine AA (Ptr nb1 27) (AD 27 22 1 AX rfl A9 rfl rfl) rfl ?_
 refine AA (U64 eq) (AO rfl (A0 BN (AU 0 rfl (Seg.right 27 0 (by simp [htg]) rfl (Seg.head))))) rfl ?_
 refine A4 (A8 81 _ [false, true, true] [nb2, nb4] _ (AS [Ptr nb2 0, U64 eq, I64 8] B0 rfl) rfl (fun w1 hw1 => EO nb2 nb4 9 cp2 17 .nilIface ((numK 8 sq 8) ++ numK 1 (2:UInt64) 1) sp2 eq 8 w1 (hw1.ent _ (List.mem_of_getElem? (i := 1) rfl)) (hw1.ent _ (List.mem_of_getElem? (i := 2) rfl)) (hw1.ne (i := 1) (j := 2) rfl rfl (by decide)) (show ((numK 8 sq 8) ++ numK 1 (2:UInt64) 1).length = 9 from (by rw [List.length_append, (show (numK 8 sq 8).length = 8 from (A5 _ _ _)), A5] <;> omega)) hc4 hc5 hc6 (by omega) (by unfold Szd; omega) (fun h => absurd h (by omega)) (by omega))) rfl ?_
 rintro v1 L1 ⟨_, ⟨rfl, nb5, sp3, cp3, rfl, hc7, hc8, hc9⟩, rfl⟩
 show JL _ _ _ _ ((44, Ptr nb2 0) :: _) [_, ⟨nb2, [.nilIface, Slc nb5 0 17 cp3], 149, (0, 0)⟩, ⟨nb5, cu8 (((numK 8 sq 8) ++ numK 1 (2:UInt64) 1) ++ numK 8 eq 8) ++ sp3, 5, (0, 0)⟩]
 refine AI (AC (AH (AH (AB (AA (Ptr nb1 1) (AD 1 3 1 AX rfl AT rfl rfl) rfl ?_)))))
 refine AA (I64 2) (AO rfl (A0 AY (AU 0 rfl (AJ (AJ (AK (Seg.head))))))) rfl ?_
 refine AI (AC (B5 (AH (AB (AA (.bool (decide ((2:Int) = (1:Int)))) (AR rfl rfl fun _ => BK _ _) rfl ?_)))))
 refine AA _ (AE rfl) rfl ?_
 refine AI (AC (BP _ rfl (by decide) ?_))
 refine AH (AB (AA (.bool (decide ((2:Int) = (2:Int)))) (AR rfl rfl fun _ => BK _ _) rfl ?_))
 refine AA _ (AE rfl) rfl ?_
 refine AI (AC (B3 _ rfl (by decide) ?_))
 refine DC 82 3 [(0, Ptr nb2 0), (1, Ptr nb1 3), (2, U64 fs), (4, Ptr nb1 4), (5, I64 mn), (6, I64 ((mn:Int) - 1)), (7, U64 (UInt64.ofNat (mn - 1)))] CA rfl (by decide +kernel) ?_
 refine CW ⟨[], [0, 1, 2, 4, 5, 6, 7], [], [0, 1, 2, 4, 5, 6, 7], [3]⟩ 3 _ rfl rfl (by decide +kernel) rfl ⟨CG rfl rfl rfl, ⟨_, rfl, AL rfl (AD 3 22 1 AX rfl A9 rfl rfl)⟩, ⟨_, rfl, AL rfl (AO rfl (A0 BN (AU 0 rfl (AJ (AJ (AK (AK (AK (Seg.head)))))))))⟩, ⟨_, rfl, AL rfl (AD 4 3 1 AX rfl AT rfl rfl)⟩, ⟨_, rfl, AL rfl (AO rfl (A0 AY (AU 0 rfl (AJ (AJ (AK (AK (AK (AK (Seg.head))))))))))⟩, ⟨_, rfl, AL rfl (AR rfl rfl fun _ => EG _ _ ((mn:Int) - 1) (by omega) (by omega))⟩, ⟨_, rfl, AL rfl (CM _ _ rfl fun _ => DW (by rw [A6]; rfl) AW (mn - 1) _ (by omega))⟩, trivial⟩ rfl (BO rfl (A8 81 _ [false, true, true] [nb2, nb5] _ (AS [Ptr nb2 0, U64 fs, I64 4] B0 rfl) rfl (fun w1 hw1 => EO nb2 nb5 17 cp3 21 .nilIface (((numK 8 sq 8) ++ numK 1 (2:UInt64) 1) ++ numK 8 eq 8) sp3 fs 4 w1 (hw1.ent _ (List.mem_of_getElem? (i := 1) rfl)) (hw1.ent _ (List.mem_of_getElem? (i := 2) rfl)) (hw1.ne (i := 1) (j := 2) rfl rfl (by decide)) (show (((numK 8 sq 8) ++ numK 1 (2:UInt64) 1) ++ numK 8 eq 8).length = 17 from (by rw [List.length_append, (show ((numK 8 sq 8) ++ numK 1 (2:UInt64) 1).length = 9 from (by rw [List.length_append, (show (numK 8 sq 8).length = 8 from (A5 _ _ _)), A5] <;> omega)), A5] <;> omega)) hc7 hc8 hc9 (by omega) (by unfold Szd; omega) (fun _ => span_fit hSp) (by omega)))) ?_
 rintro v1 L1 ⟨_, ⟨rfl, nb6, sp4, cp4, rfl, hc10, hc11, hc12⟩, rfl⟩
 refine ⟨[], ?_⟩
 show DP _ _ _ _ _ _ _ _ [_, ⟨nb2, [.nilIface, Slc nb6 0 21 cp4], 149, (0, 0)⟩, ⟨nb6, cu8 ((((numK 8 sq 8) ++ numK 1 (2:UInt64) 1) ++ numK 8 eq 8) ++ numK 4 fs 4) ++ sp4, 5, (0, 0)⟩]
 refine CW ⟨[3], [0, 1, 2, 4, 5, 6, 7], [0, 1, 2], [4, 5, 6, 7], [8]⟩ 8 _ rfl rfl (by decide +kernel) rfl ⟨⟨_, rfl, AL rfl (AD 4 3 1 AX rfl AT rfl rfl)⟩, ⟨_, rfl, AL rfl (AO rfl (A0 AY (AU 0 rfl (AJ (AJ (AK (AK (AK (AK (Seg.head))))))))))⟩, ⟨_, rfl, AL rfl (AR rfl rfl fun _ => EG _ _ ((mn:Int) - 1) (by omega) (by omega))⟩, ⟨_, rfl, AL rfl (CM _ _ rfl fun _ => DW (by rw [A6]; rfl) AW (mn - 1) _ (by omega))⟩, trivial⟩ rfl (BO rfl (A8 81 _ [false, true, true] [nb2, nb6] _ (AS [Ptr nb2 0, U64 (UInt64.ofNat (mn - 1)), I64 1] B0 rfl) rfl (fun w1 hw1 => EO nb2 nb6 21 cp4 22 .nilIface ((((numK 8 sq 8) ++ numK 1 (2:UInt64) 1) ++ numK 8 eq 8) ++ numK 4 fs 4) sp4 (UInt64.ofNat (mn - 1)) 1 w1 (hw1.ent _ (List.mem_of_getElem? (i := 1) rfl)) (hw1.ent _ (List.mem_of_getElem? (i := 2) rfl)) (hw1.ne (i := 1) (j := 2) rfl rfl (by decide)) (show ((((numK 8 sq 8) ++ numK 1 (2:UInt64) 1) ++ numK 8 eq 8) ++ numK 4 fs 4).length = 21 from (by rw [List.length_append, (show (((numK 8 sq 8) ++ numK 1 (2:UInt64) 1) ++ numK 8 eq 8).length = 17 from (by rw [List.length_append, (show ((numK 8 sq 8) ++ numK 1 (2:UInt64) 1).length = 9 from (by rw [List.length_append, (show (numK 8 sq 8).length = 8 from (A5 _ _ _)), A5] <;> omega)), A5] <;> omega)), A5] <;> omega)) hc10 hc11 hc12 (by omega) (by unfold Szd; omega) (fun _ => shr8n (by omega)) (by omega)))) ?_
 rintro v1 L1 ⟨_, ⟨rfl, nb7, sp5, cp5, rfl, hc13, hc14, hc15⟩, rfl⟩
 refine ⟨[], ?_⟩
 show DP _ _ _ _ _ _ _ _ [_, ⟨nb2, [.nilIface, Slc nb7 0 22 cp5], 149, (0, 0)⟩, ⟨nb7, cu8 (((((numK 8 sq 8) ++ numK 1 (2:UInt64) 1) ++ numK 8 eq 8) ++ numK 4 fs 4) ++ numK 1 (UInt64.ofNat (mn - 1)) 1) ++ sp5, 5, (0, 0)⟩]
 refine DU ⟨[3, 8], [0, 1, 2, 4, 5, 6, 7], [0, 1, 2, 4, 5, 6, 7], [], []⟩ rfl rfl (by decide +kernel) rfl trivial ?_
 refine C6 (F' := [(2, SL none 0 0), (3, .nilIface), (4, Ptr nb2 0)]) (by kernel_rfl) ?_
 refine BS (AC (AH (AB (AA _ (AF rfl) rfl ?_))))
 refine A4 (CZ 83 [Ptr nb2 0] _ (AS _ EQ rfl) (fun w1 hw1 => FJ nb2 0 nb7 22 cp5 (((((numK 8 sq 8) ++ numK 1 (2:UInt64) 1) ++ numK 8 eq 8) ++ numK 4 fs 4) ++ numK 1 (UInt64.ofNat (mn - 1)) 1) w1 (RdA.of hw1 (AU 1 rfl (AQ _)) (by simp)) rfl (show (((((numK 8 sq 8) ++ numK 1 (2:UInt64) 1) ++ numK 8 eq 8) ++ numK 4 fs 4) ++ numK 1 (UInt64.ofNat (mn - 1)) 1).length = 22 from (by rw [List.length_append, (show ((((numK 8 sq 8) ++ numK 1 (2:UInt64) 1) ++ numK 8 eq 8) ++ numK 4 fs 4).length = 21 from (by rw [List.length_append, (show (((numK 8 sq 8) ++ numK 1 (2:UInt64) 1) ++ numK 8 eq 8).length = 17 from (by rw [List.length_append, (show ((numK 8 sq 8) ++ numK 1 (2:UInt64) 1).length = 9 from (by rw [List.length_append, (show (numK 8 sq 8).length = 8 from (A5 _ _ _)), A5] <;> omega)), A5] <;> omega)), A5] <;> omega)), A5] <;> omega)) (by omega) (RdB.of hw1 (AU 2 rfl (AJ (AQ _))) (by simp)))) rfl ?_
 rintro v1 L1 ⟨_, ⟨nb8, sp6, cp6, rfl, rfl, hc16, hc17, hc18⟩, rfl⟩
 show JL _ _ _ _ ((79, .tuple #[Slc nb8 0 22 cp6, .nilIface]) :: _) [_, _, _, ⟨nb8, cu8 (((((numK 8 sq 8) ++ numK 1 (2:UInt64) 1) ++ numK 8 eq 8) ++ numK 4 fs 4) ++ numK 1 (UInt64.ofNat (mn - 1)) 1) ++ sp6, 5, (0, 0)⟩]
 refine AA _ (BE rfl rfl) rfl ?_
 refine AA _ (BE rfl rfl) rfl ?_
 refine AA _ (AE rfl) rfl ?_
 refine AA _ (AE rfl) rfl ?_
 refine AI (AC (BI (B4 [false, false, false, true] ?_)))
 show JQ _ _ _ _ [_]
 refine BH (.tuple #[Slc nb8 0 22 cp6, .nilIface]) (res2 Tryd.results21 (BC rfl) (BC rfl)) fun w1 hw1 => ?_
 skip
 exact ⟨_, _, rfl, ⟨nb8, sp6, cp6, rfl, rfl, hc16, hc17, hc18⟩, hw1.sub (by simp) (by simp)⟩
theorem putReq3_c (sq : UInt64) (aiq : Option Addr) (niq ciq : Nat) (lq : List UInt64) (fs : UInt64) (mn : Int) (pv ep : UInt64) (k : Nat) (ai : Option Addr) (ni ci : Nat) (l : List UInt64) (sa : Option Addr) (ns sc : Nat) (ls : List SealR) (bl : UInt64) (tg : List UInt8) (eq : UInt64) (tot : Nat)  (w : World) (hlq : lq.length = niq) (hnmq : niq ≤ 2000000) (hncq : niq ≤ ciq) (hcmq : ciq ≤ maxLen) (hvq : RdV w aiq (cu64 lq)) (hl : l.length = ni) (hnm : ni ≤ 2000000) (hnc : ni ≤ ci) (hcm : ci ≤ maxLen) (hv : RdV w ai (cu64 l)) (hls : ls.length = ns) (hnn : ns ≤ 2000000) (hnd : ns ≤ sc) (hcn : sc ≤ maxLen) (hs : RdV w sa (ls.flatMap sealC)) (htg : tg.length = 16) (hbi : ni ≤ 300) (hbs : ns ≤ 300) (hR : reqR (3:Int) lq fs mn eq (blankB pv ep (k:Int) l ls bl tg) (decide (mayN pv ep (k:Int) l ls bl = 0)) = true) (hmay : mayN pv ep (k:Int) l ls bl = 0) (hk : k = 1 ∨ k = 2 ∨ k = 3) (hsm : ns ≤ 300) (htot : tktN k ni ns = tot) (htb : tot ≤ 30000)  : Calls Tryd.prog 21 #[.agg ([U64 sq, I64 3, SL aiq niq ciq, U64 fs, I64 (mn), U64 pv, U64 ep, I64 k, SL ai ni ci, SL sa ns sc, U64 bl] ++ cu8 tg ++ [U64 eq]).toArray] w (Post w [] (fun v L => ∃ g sp cap, v = .tuple #[Slc g 0 (tot + 25) cap, .nilIface] ∧ L = [⟨g, cu8 ((numK 8 sq 8 ++ numK 1 (3:UInt64) 1) ++ ((tktT pv ep k l ls bl) ++ tg)) ++ sp, 5, (0, 0)⟩] ∧ sp.length = cap - (tot + 25) ∧ tot + 25 ≤ cap ∧ cap ≤ maxLen)) := by
 have hmx : maxLen = 9223372036854775807 := rfl
 refine enter (P := Tryd.prog) (f := 21) (fn := Tryd.f21) w [] 82 [] [.agg ([U64 sq, I64 3, SL aiq niq ciq, U64 fs, I64 (mn), U64 pv, U64 ep, I64 k, SL ai ni ci, SL sa ns sc, U64 bl] ++ cu8 tg ++ [U64 eq]).toArray] Tryd.func21 rfl rfl (by simp) (BW (by simp) (by simp) (by simp)) ?_
 show JC _ _ _ [(0, .agg ([U64 sq, I64 3, SL aiq niq ciq, U64 fs, I64 (mn), U64 pv, U64 ep, I64 k, SL ai ni ci, SL sa ns sc, U64 bl] ++ cu8 tg ++ [U64 eq]).toArray)] _
 refine AH (AB (A4 (C5 (.agg ([U64 sq, I64 3, SL aiq niq ciq, U64 fs, I64 (mn), U64 pv, U64 ep, I64 k, SL ai ni ci, SL sa ns sc, U64 bl] ++ cu8 tg ++ [U64 eq]).toArray) ([U64 sq, I64 3, SL aiq niq ciq, U64 fs, I64 (mn), U64 pv, U64 ep, I64 k, SL ai ni ci, SL sa ns sc, U64 bl] ++ cu8 tg ++ [U64 eq]) rfl (by first | rfl | simp)) rfl ?_))
 rintro v1 L1 ⟨nb1, hnb1, rfl, rfl⟩
 show JL _ _ _ _ ((1, Ptr nb1 0) :: _) [⟨nb1, [U64 sq, I64 3, SL aiq niq ciq, U64 fs, I64 (mn), U64 pv, U64 ep, I64 k, SL ai ni ci, SL sa ns sc, U64 bl] ++ cu8 tg ++ [U64 eq], 31, (0, 0)⟩]
 refine AA _ (AE rfl) rfl ?_
 refine AA _ (AE rfl) rfl ?_
 refine AI (AC (AH (AH (AB (AA (.agg ([U64 sq, I64 3, SL aiq niq ciq, U64 fs, I64 (mn), U64 pv, U64 ep, I64 k, SL ai ni ci, SL sa ns sc, U64 bl] ++ cu8 tg ++ [U64 eq]).toArray) (AO rfl (BU CY BV (by simp [htg]) (AU 0 rfl (AQ _)))) rfl ?_)))))
 refine A7 (A2 22 [.agg ([U64 sq, I64 3, SL aiq niq ciq, U64 fs, I64 (mn), U64 pv, U64 ep, I64 k, SL ai ni ci, SL sa ns sc, U64 bl] ++ cu8 tg ++ [U64 eq]).toArray] (.bool (reqR (3:Int) lq fs (mn) eq (blankB pv ep ((k:Int)) l ls bl tg) (decide (mayN pv ep ((k:Int)) l ls bl = 0)))) (AS _ Tryd.call22 rfl) (fun w1 hw1 => FA sq (3:Int) aiq niq ciq lq fs (mn) pv ep ((k:Int)) ai ni ci l sa ns sc ls bl tg eq w1 hlq (by omega) (by omega) (by omega) (C2 hw1 rfl hvq) hl (by omega) (by omega) (by omega) (C2 hw1 rfl hv) hls (by omega) (by omega) (by omega) (C2 hw1 rfl hs) htg (by omega) (by omega))) rfl ?_
 show JL _ _ _ _ ((10, .bool (reqR (3:Int) lq fs (mn) eq (blankB pv ep ((k:Int)) l ls bl tg) (decide (mayN pv ep ((k:Int)) l ls bl = 0)))) :: _) [_]
 refine AA (.bool (!(reqR (3:Int) lq fs (mn) eq (blankB pv ep ((k:Int)) l ls bl tg) (decide (mayN pv ep ((k:Int)) l ls bl = 0))))) (DG rfl) rfl ?_
 refine AI (AC (BP _ rfl (bnotT hR) ?_))
 refine BF (AC (AH (AB (AA (.agg #[.nilIface, SL none 0 0]) (CP [] _ rfl (fun _ => by kernel_rfl)) rfl ?_))))
 refine A4 (C5 (.agg #[.nilIface, SL none 0 0]) ([.nilIface, SL none 0 0]) rfl (by first | rfl | simp)) rfl ?_
 rintro v1 L1 ⟨nb2, hnb2, rfl, rfl⟩
 show JL _ _ _ _ ((14, Ptr nb2 0) :: _) [_, ⟨nb2, [.nilIface, SL none 0 0], 149, (0, 0)⟩]
 refine AA _ (AE rfl) rfl ?_
 refine AI (AC (AH (DC 82 3 [(0, Ptr nb2 0), (1, Ptr nb1 0), (2, U64 sq), (4, Ptr nb1 1), (5, I64 3), (6, U64 3)] CA rfl (by decide +kernel) ?_)))
 refine CW ⟨[], [0, 1, 2, 4, 5, 6], [], [0, 1, 2, 4, 5, 6], [3]⟩ 3 _ rfl rfl (by decide +kernel) rfl ⟨CG rfl rfl rfl, ⟨_, rfl, AL rfl (AD 0 22 1 AX rfl A9 rfl rfl)⟩, ⟨_, rfl, AL rfl (AO rfl (A0 BN (AU 0 rfl (AJ (AJ (Seg.head))))))⟩, ⟨_, rfl, AL rfl (AD 1 3 1 AX rfl AT rfl rfl)⟩, ⟨_, rfl, AL rfl (AO rfl (A0 AY (AU 0 rfl (AJ (AJ (AK (Seg.head)))))))⟩, ⟨_, rfl, AL rfl (CM _ _ rfl fun _ => DK (by rw [A6]; rfl) AW rfl)⟩, trivial⟩ rfl (BO rfl (A8 81 _ [false, true] [nb2] _ (AS [Ptr nb2 0, U64 sq, I64 8] B0 rfl) rfl (fun w1 hw1 => numN_c nb2 8 .nilIface sq 8 w1 (hw1.ent _ (List.mem_of_getElem? (i := 1) rfl)) (by unfold Szd; omega) (fun h => absurd h (by omega)) (by omega)))) ?_
 rintro v1 L1 ⟨_, ⟨rfl, nb3, sp1, cp1, rfl, hc1, hc2, hc3⟩, rfl⟩
 refine ⟨[], ?_⟩
 show DP _ _ _ _ _ _ _ _ [_, ⟨nb2, [.nilIface, Slc nb3 0 8 cp1], 149, (0, 0)⟩, ⟨nb3, cu8 (numK 8 sq 8) ++ sp1, 5, (0, 0)⟩]
 refine CW ⟨[3], [0, 1, 2, 4, 5, 6], [0, 1, 2], [4, 5, 6], [7]⟩ 7 _ rfl rfl (by decide +kernel) rfl ⟨⟨_, rfl, AL rfl (AD 1 3 1 AX rfl AT rfl rfl)⟩, ⟨_, rfl, AL rfl (AO rfl (A0 AY (AU 0 rfl (AJ (AJ (AK (Seg.head)))))))⟩, ⟨_, rfl, AL rfl (CM _ _ rfl fun _ => DK (by rw [A6]; rfl) AW rfl)⟩, trivial⟩ rfl (BO rfl (A8 81 _ [false, true, true] [nb2, nb3] _ (AS [Ptr nb2 0, U64 3, I64 1] B0 rfl) rfl (fun w1 hw1 => EO nb2 nb3 8 cp1 9 .nilIface (numK 8 sq 8) sp1 (3:UInt64) 1 w1 (hw1.ent _ (List.mem_of_getElem? (i := 1) rfl)) (hw1.ent _ (List.mem_of_getElem? (i := 2) rfl)) (hw1.ne (i := 1) (j := 2) rfl rfl (by decide)) (show (numK 8 sq 8).length = 8 from (A5 _ _ _)) hc1 hc2 hc3 (by omega) (by unfold Szd; omega) (fun _ => by decide) (by omega)))) ?_
 rintro v1 L1 ⟨_, ⟨rfl, nb4, sp2, cp2, rfl, hc4, hc5, hc6⟩, rfl⟩
 refine ⟨[], ?_⟩
 show DP _ _ _ _ _ _ _ _ [_, ⟨nb2, [.nilIface, Slc nb4 0 9 cp2], 149, (0, 0)⟩, ⟨nb4, cu8 ((numK 8 sq 8) ++ numK 1 (3:UInt64) 1) ++ sp2, 5, (0, 0)⟩]
 refine DU ⟨[3, 7], [0, 1, 2, 4, 5, 6], [0, 1, 2, 4, 5, 6], [], []⟩ rfl rfl (by decide +kernel) rfl trivial ?_
 refine C6 (F' := [(1, Ptr nb1 0), (2, SL none 0 0), (3, .nilIface), (4, Ptr nb2 0)]) (by kernel_rfl) ?_
 refine AC (AH (AH (AB (AA (Ptr nb1 1) (AD 1 3 1 AX rfl AT rfl rfl) rfl ?_))))
 refine AA (I64 3) (AO rfl (A0 AY (AU 0 rfl (AJ (AJ (AK (Seg.head))))))) rfl ?_
 refine AA (.bool (decide ((3:Int) = (3:Int)))) (AR rfl rfl fun _ => BK _ _) rfl ?_
 refine AI (AC (B3 _ rfl (by decide) ?_))
 refine AH (AB (AA (Ptr nb1 5) (AD 5 29 22 AX rfl BG rfl rfl) rfl ?_))
 refine AA (.agg ([U64 pv, U64 ep, I64 k, SL ai ni ci, SL sa ns sc, U64 bl] ++ cu8 tg).toArray) (AO rfl (BU B7 BG (by simp [htg]) (AU 0 rfl (D6 (p := [U64 sq, I64 3, SL aiq niq ciq, U64 fs, I64 (mn)]) (q := [U64 eq]) (vs := [U64 pv, U64 ep, I64 k, SL ai ni ci, SL sa ns sc, U64 bl] ++ cu8 tg) (by first | rfl | (simp only [List.append_assoc, List.nil_append, List.append_nil, List.cons_append]; done)) rfl)))) rfl ?_
 refine A4 (CZ 47 [.agg ([U64 pv, U64 ep, I64 k, SL ai ni ci, SL sa ns sc, U64 bl] ++ cu8 tg).toArray] _ (AS _ Tryd.call47 rfl) (fun w1 hw1 => put13_c pv ep k ai ni ci l sa ns sc ls bl tg tot w1 hl (by omega) (by omega) (by omega) (C2 hw1 rfl hv) hls (by omega) (by omega) (by omega) (C2 hw1 rfl hs) htg hmay hk hsm htot (by omega))) rfl ?_
 rintro v1 L1 ⟨_, ⟨nb5, sp3, cp3, rfl, rfl, hc7, hc8, hc9⟩, rfl⟩
 show JL _ _ _ _ ((29, .tuple #[Slc nb5 0 (tot + 16) cp3, .nilIface]) :: _) [_, _, _, ⟨nb5, cu8 ((tktT pv ep k l ls bl) ++ tg) ++ sp3, 5, (0, 0)⟩]
 refine AA _ (AF rfl) rfl ?_
 refine AA _ (BE rfl rfl) rfl ?_
 refine AA _ (BE rfl rfl) rfl ?_
 refine AA _ (AE rfl) rfl ?_
 refine AA _ (AE rfl) rfl ?_
 refine AI (AC (AH (AH (AB (AA _ (AF rfl) rfl ?_)))))
 refine AA (.bool false) (C7 _ _ _ rfl rfl (fun _ => FB ..) fun _ => E3 BB) rfl ?_
 refine AI (AC (BP _ rfl rfl ?_))
 refine BF (AC (AH (AB (AA _ (AF rfl) rfl ?_))))
 refine AA _ (AF rfl) rfl ?_
 refine A4 (A8 82 _ [false, true, true, false] [nb2, nb4] _ (AS [Ptr nb2 0, Slc nb5 0 (tot + 16) cp3] Tryd.call82 rfl) rfl (fun w1 hw1 => rawO_c nb2 nb4 9 cp2 (tot + 25) .nilIface ((numK 8 sq 8) ++ numK 1 (3:UInt64) 1) sp2 (some ⟨nb5, 0, none⟩) (tot + 16) cp3 ((tktT pv ep k l ls bl) ++ tg) w1 (hw1.ent _ (List.mem_of_getElem? (i := 1) rfl)) (hw1.ent _ (List.mem_of_getElem? (i := 2) rfl)) (hw1.ne (i := 1) (j := 2) rfl rfl (by decide)) (show ((numK 8 sq 8) ++ numK 1 (3:UInt64) 1).length = 9 from (by rw [List.length_append, (show (numK 8 sq 8).length = 8 from (A5 _ _ _)), A5] <;> omega)) hc4 hc5 hc6 (by omega) (show ((tktT pv ep k l ls bl) ++ tg).length = (tot + 16) from (by rw [List.length_append, ((FD hl hls).trans htot), htg])) (by omega) (RdB.of hw1 (AU 3 rfl (AJ (AQ _))) (by intro _; simp only [List.mem_cons, List.not_mem_nil, or_false, not_or]; exact ⟨hw1.ne (i := 3) (j := 1) rfl rfl (by decide), hw1.ne (i := 3) (j := 2) rfl rfl (by decide)⟩)) (by omega))) rfl ?_
 rintro v1 L1 ⟨_, ⟨rfl, nb6, sp4, cp4, rfl, hc10, hc11, hc12⟩, rfl⟩
 show JL _ _ _ _ ((37, Ptr nb2 0) :: _) [_, _, ⟨nb2, [.nilIface, Slc nb6 0 (tot + 25) cp4], 149, (0, 0)⟩, ⟨nb6, cu8 (((numK 8 sq 8) ++ numK 1 (3:UInt64) 1) ++ ((tktT pv ep k l ls bl) ++ tg)) ++ sp4, 5, (0, 0)⟩]
 refine A4 (CZ 83 [Ptr nb2 0] _ (AS _ EQ rfl) (fun w1 hw1 => FJ nb2 0 nb6 (tot + 25) cp4 (((numK 8 sq 8) ++ numK 1 (3:UInt64) 1) ++ ((tktT pv ep k l ls bl) ++ tg)) w1 (RdA.of hw1 (AU 2 rfl (AQ _)) (by simp)) rfl (show (((numK 8 sq 8) ++ numK 1 (3:UInt64) 1) ++ ((tktT pv ep k l ls bl) ++ tg)).length = (tot + 25) from (by rw [List.length_append, (show ((numK 8 sq 8) ++ numK 1 (3:UInt64) 1).length = 9 from (by rw [List.length_append, (show (numK 8 sq 8).length = 8 from (A5 _ _ _)), A5] <;> omega)), (show ((tktT pv ep k l ls bl) ++ tg).length = (tot + 16) from (by rw [List.length_append, ((FD hl hls).trans htot), htg]))] <;> omega)) (by omega) (RdB.of hw1 (AU 3 rfl (AJ (AQ _))) (by simp)))) rfl ?_
 rintro v1 L1 ⟨_, ⟨nb7, sp5, cp5, rfl, rfl, hc13, hc14, hc15⟩, rfl⟩
 show JL _ _ _ _ ((38, .tuple #[Slc nb7 0 (tot + 25) cp5, .nilIface]) :: _) [_, _, _, _, ⟨nb7, cu8 (((numK 8 sq 8) ++ numK 1 (3:UInt64) 1) ++ ((tktT pv ep k l ls bl) ++ tg)) ++ sp5, 5, (0, 0)⟩]
 refine AA _ (BE rfl rfl) rfl ?_
 refine AA _ (BE rfl rfl) rfl ?_
 refine AA _ (AE rfl) rfl ?_
 refine AA _ (AE rfl) rfl ?_
 refine AI (AC (BI (A1 (B4 [false, false, false, false, true] ?_))))
 show JQ _ _ _ _ [_]
 refine BH (.tuple #[Slc nb7 0 (tot + 25) cp5, .nilIface]) (res2 Tryd.results21 (BC rfl) (BC rfl)) fun w1 hw1 => ?_
 skip
 exact ⟨_, _, rfl, ⟨nb7, sp5, cp5, rfl, rfl, hc13, hc14, hc15⟩, hw1.sub (by simp) (by simp)⟩
theorem putReq4_c (sq : UInt64) (aiq : Option Addr) (niq ciq : Nat) (lq : List UInt64) (fs : UInt64) (mn : Int) (pv ep : UInt64) (kd : Int) (ai : Option Addr) (ni ci : Nat) (l : List UInt64) (sa : Option Addr) (ns sc : Nat) (ls : List SealR) (bl : UInt64) (tg : List UInt8) (eq : UInt64)  (w : World) (hlq : lq.length = niq) (hnmq : niq ≤ 2000000) (hncq : niq ≤ ciq) (hcmq : ciq ≤ maxLen) (hvq : RdV w aiq (cu64 lq)) (hl : l.length = ni) (hnm : ni ≤ 2000000) (hnc : ni ≤ ci) (hcm : ci ≤ maxLen) (hv : RdV w ai (cu64 l)) (hls : ls.length = ns) (hnn : ns ≤ 2000000) (hnd : ns ≤ sc) (hcn : sc ≤ maxLen) (hs : RdV w sa (ls.flatMap sealC)) (htg : tg.length = 16) (hbi : ni ≤ 300) (hbs : ns ≤ 300) (hR : reqR (4:Int) lq fs mn eq (blankB pv ep kd l ls bl tg) (decide (mayN pv ep kd l ls bl = 0)) = true)  : Calls Tryd.prog 21 #[.agg ([U64 sq, I64 4, SL aiq niq ciq, U64 fs, I64 (mn), U64 pv, U64 ep, I64 (kd), SL ai ni ci, SL sa ns sc, U64 bl] ++ cu8 tg ++ [U64 eq]).toArray] w (Post w [] (fun v L => ∃ g sp cap, v = .tuple #[Slc g 0 (17) cap, .nilIface] ∧ L = [⟨g, cu8 ((numK 8 sq 8 ++ numK 1 (4:UInt64) 1) ++ numK 8 eq 8) ++ sp, 5, (0, 0)⟩] ∧ sp.length = cap - (17) ∧ 17 ≤ cap ∧ cap ≤ maxLen)) := by
 have hmx : maxLen = 9223372036854775807 := rfl
 refine enter (P := Tryd.prog) (f := 21) (fn := Tryd.f21) w [] 82 [] [.agg ([U64 sq, I64 4, SL aiq niq ciq, U64 fs, I64 (mn), U64 pv, U64 ep, I64 (kd), SL ai ni ci, SL sa ns sc, U64 bl] ++ cu8 tg ++ [U64 eq]).toArray] Tryd.func21 rfl rfl (by simp) (BW (by simp) (by simp) (by simp)) ?_
 show JC _ _ _ [(0, .agg ([U64 sq, I64 4, SL aiq niq ciq, U64 fs, I64 (mn), U64 pv, U64 ep, I64 (kd), SL ai ni ci, SL sa ns sc, U64 bl] ++ cu8 tg ++ [U64 eq]).toArray)] _
 refine AH (AB (A4 (C5 (.agg ([U64 sq, I64 4, SL aiq niq ciq, U64 fs, I64 (mn), U64 pv, U64 ep, I64 (kd), SL ai ni ci, SL sa ns sc, U64 bl] ++ cu8 tg ++ [U64 eq]).toArray) ([U64 sq, I64 4, SL aiq niq ciq, U64 fs, I64 (mn), U64 pv, U64 ep, I64 (kd), SL ai ni ci, SL sa ns sc, U64 bl] ++ cu8 tg ++ [U64 eq]) rfl (by first | rfl | simp)) rfl ?_))
 rintro v1 L1 ⟨nb1, hnb1, rfl, rfl⟩
 show JL _ _ _ _ ((1, Ptr nb1 0) :: _) [⟨nb1, [U64 sq, I64 4, SL aiq niq ciq, U64 fs, I64 (mn), U64 pv, U64 ep, I64 (kd), SL ai ni ci, SL sa ns sc, U64 bl] ++ cu8 tg ++ [U64 eq], 31, (0, 0)⟩]
 refine AA _ (AE rfl) rfl ?_
 refine AA _ (AE rfl) rfl ?_
 refine AI (AC (AH (AH (AB (AA (.agg ([U64 sq, I64 4, SL aiq niq ciq, U64 fs, I64 (mn), U64 pv, U64 ep, I64 (kd), SL ai ni ci, SL sa ns sc, U64 bl] ++ cu8 tg ++ [U64 eq]).toArray) (AO rfl (BU CY BV (by simp [htg]) (AU 0 rfl (AQ _)))) rfl ?_)))))
 refine A7 (A2 22 [.agg ([U64 sq, I64 4, SL aiq niq ciq, U64 fs, I64 (mn), U64 pv, U64 ep, I64 (kd), SL ai ni ci, SL sa ns sc, U64 bl] ++ cu8 tg ++ [U64 eq]).toArray] (.bool (reqR (4:Int) lq fs (mn) eq (blankB pv ep (kd) l ls bl tg) (decide (mayN pv ep (kd) l ls bl = 0)))) (AS _ Tryd.call22 rfl) (fun w1 hw1 => FA sq (4:Int) aiq niq ciq lq fs (mn) pv ep (kd) ai ni ci l sa ns sc ls bl tg eq w1 hlq (by omega) (by omega) (by omega) (C2 hw1 rfl hvq) hl (by omega) (by omega) (by omega) (C2 hw1 rfl hv) hls (by omega) (by omega) (by omega) (C2 hw1 rfl hs) htg (by omega) (by omega))) rfl ?_
 show JL _ _ _ _ ((10, .bool (reqR (4:Int) lq fs (mn) eq (blankB pv ep (kd) l ls bl tg) (decide (mayN pv ep (kd) l ls bl = 0)))) :: _) [_]
 refine AA (.bool (!(reqR (4:Int) lq fs (mn) eq (blankB pv ep (kd) l ls bl tg) (decide (mayN pv ep (kd) l ls bl = 0))))) (DG rfl) rfl ?_
 refine AI (AC (BP _ rfl (bnotT hR) ?_))
 refine BF (AC (AH (AB (AA (.agg #[.nilIface, SL none 0 0]) (CP [] _ rfl (fun _ => by kernel_rfl)) rfl ?_))))
 refine A4 (C5 (.agg #[.nilIface, SL none 0 0]) ([.nilIface, SL none 0 0]) rfl (by first | rfl | simp)) rfl ?_
 rintro v1 L1 ⟨nb2, hnb2, rfl, rfl⟩
 show JL _ _ _ _ ((14, Ptr nb2 0) :: _) [_, ⟨nb2, [.nilIface, SL none 0 0], 149, (0, 0)⟩]
 refine AA _ (AE rfl) rfl ?_
 refine AI (AC (AH (DC 82 3 [(0, Ptr nb2 0), (1, Ptr nb1 0), (2, U64 sq), (4, Ptr nb1 1), (5, I64 4), (6, U64 4)] CA rfl (by decide +kernel) ?_)))
 refine CW ⟨[], [0, 1, 2, 4, 5, 6], [], [0, 1, 2, 4, 5, 6], [3]⟩ 3 _ rfl rfl (by decide +kernel) rfl ⟨CG rfl rfl rfl, ⟨_, rfl, AL rfl (AD 0 22 1 AX rfl A9 rfl rfl)⟩, ⟨_, rfl, AL rfl (AO rfl (A0 BN (AU 0 rfl (AJ (AJ (Seg.head))))))⟩, ⟨_, rfl, AL rfl (AD 1 3 1 AX rfl AT rfl rfl)⟩, ⟨_, rfl, AL rfl (AO rfl (A0 AY (AU 0 rfl (AJ (AJ (AK (Seg.head)))))))⟩, ⟨_, rfl, AL rfl (CM _ _ rfl fun _ => DK (by rw [A6]; rfl) AW rfl)⟩, trivial⟩ rfl (BO rfl (A8 81 _ [false, true] [nb2] _ (AS [Ptr nb2 0, U64 sq, I64 8] B0 rfl) rfl (fun w1 hw1 => numN_c nb2 8 .nilIface sq 8 w1 (hw1.ent _ (List.mem_of_getElem? (i := 1) rfl)) (by unfold Szd; omega) (fun h => absurd h (by omega)) (by omega)))) ?_
 rintro v1 L1 ⟨_, ⟨rfl, nb3, sp1, cp1, rfl, hc1, hc2, hc3⟩, rfl⟩
 refine ⟨[], ?_⟩
 show DP _ _ _ _ _ _ _ _ [_, ⟨nb2, [.nilIface, Slc nb3 0 8 cp1], 149, (0, 0)⟩, ⟨nb3, cu8 (numK 8 sq 8) ++ sp1, 5, (0, 0)⟩]
 refine CW ⟨[3], [0, 1, 2, 4, 5, 6], [0, 1, 2], [4, 5, 6], [7]⟩ 7 _ rfl rfl (by decide +kernel) rfl ⟨⟨_, rfl, AL rfl (AD 1 3 1 AX rfl AT rfl rfl)⟩, ⟨_, rfl, AL rfl (AO rfl (A0 AY (AU 0 rfl (AJ (AJ (AK (Seg.head)))))))⟩, ⟨_, rfl, AL rfl (CM _ _ rfl fun _ => DK (by rw [A6]; rfl) AW rfl)⟩, trivial⟩ rfl (BO rfl (A8 81 _ [false, true, true] [nb2, nb3] _ (AS [Ptr nb2 0, U64 4, I64 1] B0 rfl) rfl (fun w1 hw1 => EO nb2 nb3 8 cp1 9 .nilIface (numK 8 sq 8) sp1 (4:UInt64) 1 w1 (hw1.ent _ (List.mem_of_getElem? (i := 1) rfl)) (hw1.ent _ (List.mem_of_getElem? (i := 2) rfl)) (hw1.ne (i := 1) (j := 2) rfl rfl (by decide)) (show (numK 8 sq 8).length = 8 from (A5 _ _ _)) hc1 hc2 hc3 (by omega) (by unfold Szd; omega) (fun _ => by decide) (by omega)))) ?_
 rintro v1 L1 ⟨_, ⟨rfl, nb4, sp2, cp2, rfl, hc4, hc5, hc6⟩, rfl⟩
 refine ⟨[], ?_⟩
 show DP _ _ _ _ _ _ _ _ [_, ⟨nb2, [.nilIface, Slc nb4 0 9 cp2], 149, (0, 0)⟩, ⟨nb4, cu8 ((numK 8 sq 8) ++ numK 1 (4:UInt64) 1) ++ sp2, 5, (0, 0)⟩]
 refine DU ⟨[3, 7], [0, 1, 2, 4, 5, 6], [0, 1, 2, 4, 5, 6], [], []⟩ rfl rfl (by decide +kernel) rfl trivial ?_
 refine C6 (F' := [(1, Ptr nb1 0), (2, SL none 0 0), (3, .nilIface), (4, Ptr nb2 0)]) (by kernel_rfl) ?_
 refine AC (AH (AH (AB (AA (Ptr nb1 1) (AD 1 3 1 AX rfl AT rfl rfl) rfl ?_))))
 refine AA (I64 4) (AO rfl (A0 AY (AU 0 rfl (AJ (AJ (AK (Seg.head))))))) rfl ?_
 refine AA (.bool (decide ((4:Int) = (3:Int)))) (AR rfl rfl fun _ => BK _ _) rfl ?_
 refine AI (AC (BP _ rfl (by decide) ?_))
 refine BF (AC (AH (AB (AA _ (AF rfl) rfl ?_))))
 refine AA (Ptr nb1 27) (AD 27 22 1 AX rfl A9 rfl rfl) rfl ?_
 refine AA (U64 eq) (AO rfl (A0 BN (AU 0 rfl (Seg.right 27 0 (by simp [htg]) rfl (Seg.head))))) rfl ?_
 refine A4 (A8 81 _ [false, true, true] [nb2, nb4] _ (AS [Ptr nb2 0, U64 eq, I64 8] B0 rfl) rfl (fun w1 hw1 => EO nb2 nb4 9 cp2 17 .nilIface ((numK 8 sq 8) ++ numK 1 (4:UInt64) 1) sp2 eq 8 w1 (hw1.ent _ (List.mem_of_getElem? (i := 1) rfl)) (hw1.ent _ (List.mem_of_getElem? (i := 2) rfl)) (hw1.ne (i := 1) (j := 2) rfl rfl (by decide)) (show ((numK 8 sq 8) ++ numK 1 (4:UInt64) 1).length = 9 from (by rw [List.length_append, (show (numK 8 sq 8).length = 8 from (A5 _ _ _)), A5] <;> omega)) hc4 hc5 hc6 (by omega) (by unfold Szd; omega) (fun h => absurd h (by omega)) (by omega))) rfl ?_
 rintro v1 L1 ⟨_, ⟨rfl, nb5, sp3, cp3, rfl, hc7, hc8, hc9⟩, rfl⟩
 show JL _ _ _ _ ((44, Ptr nb2 0) :: _) [_, ⟨nb2, [.nilIface, Slc nb5 0 17 cp3], 149, (0, 0)⟩, ⟨nb5, cu8 (((numK 8 sq 8) ++ numK 1 (4:UInt64) 1) ++ numK 8 eq 8) ++ sp3, 5, (0, 0)⟩]
 refine AI (AC (AH (AH (AB (AA (Ptr nb1 1) (AD 1 3 1 AX rfl AT rfl rfl) rfl ?_)))))
 refine AA (I64 4) (AO rfl (A0 AY (AU 0 rfl (AJ (AJ (AK (Seg.head))))))) rfl ?_
 refine AI (AC (B5 (AH (AB (AA (.bool (decide ((4:Int) = (1:Int)))) (AR rfl rfl fun _ => BK _ _) rfl ?_)))))
 refine AA _ (AE rfl) rfl ?_
 refine AI (AC (BP _ rfl (by decide) ?_))
 refine AH (AB (AA (.bool (decide ((4:Int) = (2:Int)))) (AR rfl rfl fun _ => BK _ _) rfl ?_))
 refine AA _ (AE rfl) rfl ?_
 refine AI (AC (BP _ rfl (by decide) ?_))
 refine BF (BS (AC (AH (AB (AA _ (AF rfl) rfl ?_)))))
 refine A4 (CZ 83 [Ptr nb2 0] _ (AS _ EQ rfl) (fun w1 hw1 => FJ nb2 0 nb5 17 cp3 (((numK 8 sq 8) ++ numK 1 (4:UInt64) 1) ++ numK 8 eq 8) w1 (RdA.of hw1 (AU 1 rfl (AQ _)) (by simp)) rfl (show (((numK 8 sq 8) ++ numK 1 (4:UInt64) 1) ++ numK 8 eq 8).length = 17 from (by rw [List.length_append, (show ((numK 8 sq 8) ++ numK 1 (4:UInt64) 1).length = 9 from (by rw [List.length_append, (show (numK 8 sq 8).length = 8 from (A5 _ _ _)), A5] <;> omega)), A5] <;> omega)) (by omega) (RdB.of hw1 (AU 2 rfl (AJ (AQ _))) (by simp)))) rfl ?_
 rintro v1 L1 ⟨_, ⟨nb6, sp4, cp4, rfl, rfl, hc10, hc11, hc12⟩, rfl⟩
 show JL _ _ _ _ ((79, .tuple #[Slc nb6 0 17 cp4, .nilIface]) :: _) [_, _, _, ⟨nb6, cu8 (((numK 8 sq 8) ++ numK 1 (4:UInt64) 1) ++ numK 8 eq 8) ++ sp4, 5, (0, 0)⟩]
 refine AA _ (BE rfl rfl) rfl ?_
 refine AA _ (BE rfl rfl) rfl ?_
 refine AA _ (AE rfl) rfl ?_
 refine AA _ (AE rfl) rfl ?_
 refine AI (AC (BI (B4 [false, false, false, true] ?_)))
 show JQ _ _ _ _ [_]
 refine BH (.tuple #[Slc nb6 0 17 cp4, .nilIface]) (res2 Tryd.results21 (BC rfl) (BC rfl)) fun w1 hw1 => ?_
 skip
 exact ⟨_, _, rfl, ⟨nb6, sp4, cp4, rfl, rfl, hc10, hc11, hc12⟩, hw1.sub (by simp) (by simp)⟩
theorem putReq5_c (sq : UInt64) (aiq : Option Addr) (niq ciq : Nat) (lq : List UInt64) (fs : UInt64) (mn : Int) (pv ep : UInt64) (kd : Int) (ai : Option Addr) (ni ci : Nat) (l : List UInt64) (sa : Option Addr) (ns sc : Nat) (ls : List SealR) (bl : UInt64) (tg : List UInt8) (eq : UInt64)  (w : World) (hlq : lq.length = niq) (hnmq : niq ≤ 2000000) (hncq : niq ≤ ciq) (hcmq : ciq ≤ maxLen) (hvq : RdV w aiq (cu64 lq)) (hl : l.length = ni) (hnm : ni ≤ 2000000) (hnc : ni ≤ ci) (hcm : ci ≤ maxLen) (hv : RdV w ai (cu64 l)) (hls : ls.length = ns) (hnn : ns ≤ 2000000) (hnd : ns ≤ sc) (hcn : sc ≤ maxLen) (hs : RdV w sa (ls.flatMap sealC)) (htg : tg.length = 16) (hbi : ni ≤ 300) (hbs : ns ≤ 300) (hR : reqR (5:Int) lq fs mn eq (blankB pv ep kd l ls bl tg) (decide (mayN pv ep kd l ls bl = 0)) = true)  : Calls Tryd.prog 21 #[.agg ([U64 sq, I64 5, SL aiq niq ciq, U64 fs, I64 (mn), U64 pv, U64 ep, I64 (kd), SL ai ni ci, SL sa ns sc, U64 bl] ++ cu8 tg ++ [U64 eq]).toArray] w (Post w [] (fun v L => ∃ g sp cap, v = .tuple #[Slc g 0 (17) cap, .nilIface] ∧ L = [⟨g, cu8 ((numK 8 sq 8 ++ numK 1 (5:UInt64) 1) ++ numK 8 eq 8) ++ sp, 5, (0, 0)⟩] ∧ sp.length = cap - (17) ∧ 17 ≤ cap ∧ cap ≤ maxLen)) := by
 have hmx : maxLen = 9223372036854775807 := rfl
 refine enter (P := Tryd.prog) (f := 21) (fn := Tryd.f21) w [] 82 [] [.agg ([U64 sq, I64 5, SL aiq niq ciq, U64 fs, I64 (mn), U64 pv, U64 ep, I64 (kd), SL ai ni ci, SL sa ns sc, U64 bl] ++ cu8 tg ++ [U64 eq]).toArray] Tryd.func21 rfl rfl (by simp) (BW (by simp) (by simp) (by simp)) ?_
 show JC _ _ _ [(0, .agg ([U64 sq, I64 5, SL aiq niq ciq, U64 fs, I64 (mn), U64 pv, U64 ep, I64 (kd), SL ai ni ci, SL sa ns sc, U64 bl] ++ cu8 tg ++ [U64 eq]).toArray)] _
 refine AH (AB (A4 (C5 (.agg ([U64 sq, I64 5, SL aiq niq ciq, U64 fs, I64 (mn), U64 pv, U64 ep, I64 (kd), SL ai ni ci, SL sa ns sc, U64 bl] ++ cu8 tg ++ [U64 eq]).toArray) ([U64 sq, I64 5, SL aiq niq ciq, U64 fs, I64 (mn), U64 pv, U64 ep, I64 (kd), SL ai ni ci, SL sa ns sc, U64 bl] ++ cu8 tg ++ [U64 eq]) rfl (by first | rfl | simp)) rfl ?_))
 rintro v1 L1 ⟨nb1, hnb1, rfl, rfl⟩
 show JL _ _ _ _ ((1, Ptr nb1 0) :: _) [⟨nb1, [U64 sq, I64 5, SL aiq niq ciq, U64 fs, I64 (mn), U64 pv, U64 ep, I64 (kd), SL ai ni ci, SL sa ns sc, U64 bl] ++ cu8 tg ++ [U64 eq], 31, (0, 0)⟩]
 refine AA _ (AE rfl) rfl ?_
 refine AA _ (AE rfl) rfl ?_
 refine AI (AC (AH (AH (AB (AA (.agg ([U64 sq, I64 5, SL aiq niq ciq, U64 fs, I64 (mn), U64 pv, U64 ep, I64 (kd), SL ai ni ci, SL sa ns sc, U64 bl] ++ cu8 tg ++ [U64 eq]).toArray) (AO rfl (BU CY BV (by simp [htg]) (AU 0 rfl (AQ _)))) rfl ?_)))))
 refine A7 (A2 22 [.agg ([U64 sq, I64 5, SL aiq niq ciq, U64 fs, I64 (mn), U64 pv, U64 ep, I64 (kd), SL ai ni ci, SL sa ns sc, U64 bl] ++ cu8 tg ++ [U64 eq]).toArray] (.bool (reqR (5:Int) lq fs (mn) eq (blankB pv ep (kd) l ls bl tg) (decide (mayN pv ep (kd) l ls bl = 0)))) (AS _ Tryd.call22 rfl) (fun w1 hw1 => FA sq (5:Int) aiq niq ciq lq fs (mn) pv ep (kd) ai ni ci l sa ns sc ls bl tg eq w1 hlq (by omega) (by omega) (by omega) (C2 hw1 rfl hvq) hl (by omega) (by omega) (by omega) (C2 hw1 rfl hv) hls (by omega) (by omega) (by omega) (C2 hw1 rfl hs) htg (by omega) (by omega))) rfl ?_
 show JL _ _ _ _ ((10, .bool (reqR (5:Int) lq fs (mn) eq (blankB pv ep (kd) l ls bl tg) (decide (mayN pv ep (kd) l ls bl = 0)))) :: _) [_]
 refine AA (.bool (!(reqR (5:Int) lq fs (mn) eq (blankB pv ep (kd) l ls bl tg) (decide (mayN pv ep (kd) l ls bl = 0))))) (DG rfl) rfl ?_
 refine AI (AC (BP _ rfl (bnotT hR) ?_))
 refine BF (AC (AH (AB (AA (.agg #[.nilIface, SL none 0 0]) (CP [] _ rfl (fun _ => by kernel_rfl)) rfl ?_))))
 refine A4 (C5 (.agg #[.nilIface, SL none 0 0]) ([.nilIface, SL none 0 0]) rfl (by first | rfl | simp)) rfl ?_
 rintro v1 L1 ⟨nb2, hnb2, rfl, rfl⟩
 show JL _ _ _ _ ((14, Ptr nb2 0) :: _) [_, ⟨nb2, [.nilIface, SL none 0 0], 149, (0, 0)⟩]
 refine AA _ (AE rfl) rfl ?_
 refine AI (AC (AH (DC 82 3 [(0, Ptr nb2 0), (1, Ptr nb1 0), (2, U64 sq), (4, Ptr nb1 1), (5, I64 5), (6, U64 5)] CA rfl (by decide +kernel) ?_)))
 refine CW ⟨[], [0, 1, 2, 4, 5, 6], [], [0, 1, 2, 4, 5, 6], [3]⟩ 3 _ rfl rfl (by decide +kernel) rfl ⟨CG rfl rfl rfl, ⟨_, rfl, AL rfl (AD 0 22 1 AX rfl A9 rfl rfl)⟩, ⟨_, rfl, AL rfl (AO rfl (A0 BN (AU 0 rfl (AJ (AJ (Seg.head))))))⟩, ⟨_, rfl, AL rfl (AD 1 3 1 AX rfl AT rfl rfl)⟩, ⟨_, rfl, AL rfl (AO rfl (A0 AY (AU 0 rfl (AJ (AJ (AK (Seg.head)))))))⟩, ⟨_, rfl, AL rfl (CM _ _ rfl fun _ => DK (by rw [A6]; rfl) AW rfl)⟩, trivial⟩ rfl (BO rfl (A8 81 _ [false, true] [nb2] _ (AS [Ptr nb2 0, U64 sq, I64 8] B0 rfl) rfl (fun w1 hw1 => numN_c nb2 8 .nilIface sq 8 w1 (hw1.ent _ (List.mem_of_getElem? (i := 1) rfl)) (by unfold Szd; omega) (fun h => absurd h (by omega)) (by omega)))) ?_
 rintro v1 L1 ⟨_, ⟨rfl, nb3, sp1, cp1, rfl, hc1, hc2, hc3⟩, rfl⟩
 refine ⟨[], ?_⟩
 show DP _ _ _ _ _ _ _ _ [_, ⟨nb2, [.nilIface, Slc nb3 0 8 cp1], 149, (0, 0)⟩, ⟨nb3, cu8 (numK 8 sq 8) ++ sp1, 5, (0, 0)⟩]
 refine CW ⟨[3], [0, 1, 2, 4, 5, 6], [0, 1, 2], [4, 5, 6], [7]⟩ 7 _ rfl rfl (by decide +kernel) rfl ⟨⟨_, rfl, AL rfl (AD 1 3 1 AX rfl AT rfl rfl)⟩, ⟨_, rfl, AL rfl (AO rfl (A0 AY (AU 0 rfl (AJ (AJ (AK (Seg.head)))))))⟩, ⟨_, rfl, AL rfl (CM _ _ rfl fun _ => DK (by rw [A6]; rfl) AW rfl)⟩, trivial⟩ rfl (BO rfl (A8 81 _ [false, true, true] [nb2, nb3] _ (AS [Ptr nb2 0, U64 5, I64 1] B0 rfl) rfl (fun w1 hw1 => EO nb2 nb3 8 cp1 9 .nilIface (numK 8 sq 8) sp1 (5:UInt64) 1 w1 (hw1.ent _ (List.mem_of_getElem? (i := 1) rfl)) (hw1.ent _ (List.mem_of_getElem? (i := 2) rfl)) (hw1.ne (i := 1) (j := 2) rfl rfl (by decide)) (show (numK 8 sq 8).length = 8 from (A5 _ _ _)) hc1 hc2 hc3 (by omega) (by unfold Szd; omega) (fun _ => by decide) (by omega)))) ?_
 rintro v1 L1 ⟨_, ⟨rfl, nb4, sp2, cp2, rfl, hc4, hc5, hc6⟩, rfl⟩
 refine ⟨[], ?_⟩
 show DP _ _ _ _ _ _ _ _ [_, ⟨nb2, [.nilIface, Slc nb4 0 9 cp2], 149, (0, 0)⟩, ⟨nb4, cu8 ((numK 8 sq 8) ++ numK 1 (5:UInt64) 1) ++ sp2, 5, (0, 0)⟩]
 refine DU ⟨[3, 7], [0, 1, 2, 4, 5, 6], [0, 1, 2, 4, 5, 6], [], []⟩ rfl rfl (by decide +kernel) rfl trivial ?_
 refine C6 (F' := [(1, Ptr nb1 0), (2, SL none 0 0), (3, .nilIface), (4, Ptr nb2 0)]) (by kernel_rfl) ?_
 refine AC (AH (AH (AB (AA (Ptr nb1 1) (AD 1 3 1 AX rfl AT rfl rfl) rfl ?_))))
 refine AA (I64 5) (AO rfl (A0 AY (AU 0 rfl (AJ (AJ (AK (Seg.head))))))) rfl ?_
 refine AA (.bool (decide ((5:Int) = (3:Int)))) (AR rfl rfl fun _ => BK _ _) rfl ?_
 refine AI (AC (BP _ rfl (by decide) ?_))
 refine BF (AC (AH (AB (AA _ (AF rfl) rfl ?_))))
 refine AA (Ptr nb1 27) (AD 27 22 1 AX rfl A9 rfl rfl) rfl ?_
 refine AA (U64 eq) (AO rfl (A0 BN (AU 0 rfl (Seg.right 27 0 (by simp [htg]) rfl (Seg.head))))) rfl ?_
 refine A4 (A8 81 _ [false, true, true] [nb2, nb4] _ (AS [Ptr nb2 0, U64 eq, I64 8] B0 rfl) rfl (fun w1 hw1 => EO nb2 nb4 9 cp2 17 .nilIface ((numK 8 sq 8) ++ numK 1 (5:UInt64) 1) sp2 eq 8 w1 (hw1.ent _ (List.mem_of_getElem? (i := 1) rfl)) (hw1.ent _ (List.mem_of_getElem? (i := 2) rfl)) (hw1.ne (i := 1) (j := 2) rfl rfl (by decide)) (show ((numK 8 sq 8) ++ numK 1 (5:UInt64) 1).length = 9 from (by rw [List.length_append, (show (numK 8 sq 8).length = 8 from (A5 _ _ _)), A5] <;> omega)) hc4 hc5 hc6 (by omega) (by unfold Szd; omega) (fun h => absurd h (by omega)) (by omega))) rfl ?_
 rintro v1 L1 ⟨_, ⟨rfl, nb5, sp3, cp3, rfl, hc7, hc8, hc9⟩, rfl⟩
 show JL _ _ _ _ ((44, Ptr nb2 0) :: _) [_, ⟨nb2, [.nilIface, Slc nb5 0 17 cp3], 149, (0, 0)⟩, ⟨nb5, cu8 (((numK 8 sq 8) ++ numK 1 (5:UInt64) 1) ++ numK 8 eq 8) ++ sp3, 5, (0, 0)⟩]
 refine AI (AC (AH (AH (AB (AA (Ptr nb1 1) (AD 1 3 1 AX rfl AT rfl rfl) rfl ?_)))))
 refine AA (I64 5) (AO rfl (A0 AY (AU 0 rfl (AJ (AJ (AK (Seg.head))))))) rfl ?_
 refine AI (AC (B5 (AH (AB (AA (.bool (decide ((5:Int) = (1:Int)))) (AR rfl rfl fun _ => BK _ _) rfl ?_)))))
 refine AA _ (AE rfl) rfl ?_
 refine AI (AC (BP _ rfl (by decide) ?_))
 refine AH (AB (AA (.bool (decide ((5:Int) = (2:Int)))) (AR rfl rfl fun _ => BK _ _) rfl ?_))
 refine AA _ (AE rfl) rfl ?_
 refine AI (AC (BP _ rfl (by decide) ?_))
 refine BF (BS (AC (AH (AB (AA _ (AF rfl) rfl ?_)))))
 refine A4 (CZ 83 [Ptr nb2 0] _ (AS _ EQ rfl) (fun w1 hw1 => FJ nb2 0 nb5 17 cp3 (((numK 8 sq 8) ++ numK 1 (5:UInt64) 1) ++ numK 8 eq 8) w1 (RdA.of hw1 (AU 1 rfl (AQ _)) (by simp)) rfl (show (((numK 8 sq 8) ++ numK 1 (5:UInt64) 1) ++ numK 8 eq 8).length = 17 from (by rw [List.length_append, (show ((numK 8 sq 8) ++ numK 1 (5:UInt64) 1).length = 9 from (by rw [List.length_append, (show (numK 8 sq 8).length = 8 from (A5 _ _ _)), A5] <;> omega)), A5] <;> omega)) (by omega) (RdB.of hw1 (AU 2 rfl (AJ (AQ _))) (by simp)))) rfl ?_
 rintro v1 L1 ⟨_, ⟨nb6, sp4, cp4, rfl, rfl, hc10, hc11, hc12⟩, rfl⟩
 show JL _ _ _ _ ((79, .tuple #[Slc nb6 0 17 cp4, .nilIface]) :: _) [_, _, _, ⟨nb6, cu8 (((numK 8 sq 8) ++ numK 1 (5:UInt64) 1) ++ numK 8 eq 8) ++ sp4, 5, (0, 0)⟩]
 refine AA _ (BE rfl rfl) rfl ?_
 refine AA _ (BE rfl rfl) rfl ?_
 refine AA _ (AE rfl) rfl ?_
 refine AA _ (AE rfl) rfl ?_
 refine AI (AC (BI (B4 [false, false, false, true] ?_)))
 show JQ _ _ _ _ [_]
 refine BH (.tuple #[Slc nb6 0 17 cp4, .nilIface]) (res2 Tryd.results21 (BC rfl) (BC rfl)) fun w1 hw1 => ?_
 skip
 exact ⟨_, _, rfl, ⟨nb6, sp4, cp4, rfl, rfl, hc10, hc11, hc12⟩, hw1.sub (by simp) (by simp)⟩
def GLw (w : World) : Prop := RdA w 0 0 [.string (⟨⟨[]⟩⟩), .string (⟨⟨[114, 101, 97, 100]⟩⟩), .string (⟨⟨[115, 112, 97, 110]⟩⟩), .string (⟨⟨[99, 104, 97, 110, 103, 101]⟩⟩), .string (⟨⟨[99, 104, 97, 105, 110]⟩⟩), .string (⟨⟨[102, 111, 114, 103, 101, 116]⟩⟩)]
theorem GLw.at {C : Cx} {L : List Ent} {w : World} (hw : Hp C.w0 C.M L w) (h : GLw C.w0) (h1 : 0 ∉ C.M := by simp) : GLw w := RdA_at hw h (by simp) h1
theorem word1_c  (w : World) (hW : RdA w 0 0 [.string (⟨⟨[]⟩⟩), .string (⟨⟨[114, 101, 97, 100]⟩⟩), .string (⟨⟨[115, 112, 97, 110]⟩⟩), .string (⟨⟨[99, 104, 97, 110, 103, 101]⟩⟩), .string (⟨⟨[99, 104, 97, 105, 110]⟩⟩), .string (⟨⟨[102, 111, 114, 103, 101, 116]⟩⟩)])  : Calls Tryd.prog 74 #[I64 1] w (Post w [] (fun v L => v = .string (⟨⟨[114, 101, 97, 100]⟩⟩) ∧ L = [])) := by
 refine enter w [] 12 [] [I64 1] Tryd.func74 rfl rfl (by simp) (BW (by simp) (by simp) (by simp)) ?_
 show JC _ _ _ [(0, I64 1)] _
 refine AH (AB (AA _ (AE rfl) rfl ?_))
 refine AI (AC (AH (AH (AB (AA _ (AF rfl) rfl ?_)))))
 refine AA (.bool (decide ((1:Int) < (1:Int)))) (AR rfl rfl fun _ => CH _ _) rfl ?_
 refine AA _ (AF rfl) rfl ?_
 refine AP 2 5 false _ _ rfl rfl (by decide) (AF rfl) rfl ?_
 refine AP 2 5 false _ (.bool (decide ((5:Int) < (1:Int)))) rfl rfl (by decide) (AR rfl rfl fun _ => DD _ _) rfl ?_
 refine AA _ (A3 _ rfl (by decide) rfl) rfl ?_
 refine AI (AC (BP _ rfl (by decide) ?_))
 refine BF (AC (AH (AB (AA _ (AF rfl) rfl ?_))))
 refine AA (Ptr 0 1) (Ev_indexArr 6 9 1 1 Tryd.underlying217 EJ rfl rfl (by omega) (by omega) (by omega)) rfl ?_
 refine AA (.string (⟨⟨[114, 101, 97, 100]⟩⟩)) (AO rfl (A0 Tryd.isAgg9 (DB (hW.mem (by simp)) (AK (Seg.head)) (by first | omega | (simp; done) | (simp; omega))))) rfl ?_
 refine AA _ (AE rfl) rfl ?_
 refine AI (AC (BI (BH (.string (⟨⟨[114, 101, 97, 100]⟩⟩)) (res1 Tryd.results74 (BC rfl)) fun w1 hw1 => ?_)))
 exact ⟨_, [], rfl, ⟨rfl, rfl⟩, hw1.sub (by simp) (by simp)⟩
theorem word2_c  (w : World) (hW : RdA w 0 0 [.string (⟨⟨[]⟩⟩), .string (⟨⟨[114, 101, 97, 100]⟩⟩), .string (⟨⟨[115, 112, 97, 110]⟩⟩), .string (⟨⟨[99, 104, 97, 110, 103, 101]⟩⟩), .string (⟨⟨[99, 104, 97, 105, 110]⟩⟩), .string (⟨⟨[102, 111, 114, 103, 101, 116]⟩⟩)])  : Calls Tryd.prog 74 #[I64 2] w (Post w [] (fun v L => v = .string (⟨⟨[115, 112, 97, 110]⟩⟩) ∧ L = [])) := by
 refine enter w [] 12 [] [I64 2] Tryd.func74 rfl rfl (by simp) (BW (by simp) (by simp) (by simp)) ?_
 show JC _ _ _ [(0, I64 2)] _
 refine AH (AB (AA _ (AE rfl) rfl ?_))
 refine AI (AC (AH (AH (AB (AA _ (AF rfl) rfl ?_)))))
 refine AA (.bool (decide ((2:Int) < (1:Int)))) (AR rfl rfl fun _ => CH _ _) rfl ?_
 refine AA _ (AF rfl) rfl ?_
 refine AP 2 5 false _ _ rfl rfl (by decide) (AF rfl) rfl ?_
 refine AP 2 5 false _ (.bool (decide ((5:Int) < (2:Int)))) rfl rfl (by decide) (AR rfl rfl fun _ => DD _ _) rfl ?_
 refine AA _ (A3 _ rfl (by decide) rfl) rfl ?_
 refine AI (AC (BP _ rfl (by decide) ?_))
 refine BF (AC (AH (AB (AA _ (AF rfl) rfl ?_))))
 refine AA (Ptr 0 2) (Ev_indexArr 6 9 1 2 Tryd.underlying217 EJ rfl rfl (by omega) (by omega) (by omega)) rfl ?_
 refine AA (.string (⟨⟨[115, 112, 97, 110]⟩⟩)) (AO rfl (A0 Tryd.isAgg9 (DB (hW.mem (by simp)) (AK (AK (Seg.head))) (by first | omega | (simp; done) | (simp; omega))))) rfl ?_
 refine AA _ (AE rfl) rfl ?_
 refine AI (AC (BI (BH (.string (⟨⟨[115, 112, 97, 110]⟩⟩)) (res1 Tryd.results74 (BC rfl)) fun w1 hw1 => ?_)))
 exact ⟨_, [], rfl, ⟨rfl, rfl⟩, hw1.sub (by simp) (by simp)⟩
theorem word3_c  (w : World) (hW : RdA w 0 0 [.string (⟨⟨[]⟩⟩), .string (⟨⟨[114, 101, 97, 100]⟩⟩), .string (⟨⟨[115, 112, 97, 110]⟩⟩), .string (⟨⟨[99, 104, 97, 110, 103, 101]⟩⟩), .string (⟨⟨[99, 104, 97, 105, 110]⟩⟩), .string (⟨⟨[102, 111, 114, 103, 101, 116]⟩⟩)])  : Calls Tryd.prog 74 #[I64 3] w (Post w [] (fun v L => v = .string (⟨⟨[99, 104, 97, 110, 103, 101]⟩⟩) ∧ L = [])) := by
 refine enter w [] 12 [] [I64 3] Tryd.func74 rfl rfl (by simp) (BW (by simp) (by simp) (by simp)) ?_
 show JC _ _ _ [(0, I64 3)] _
 refine AH (AB (AA _ (AE rfl) rfl ?_))
 refine AI (AC (AH (AH (AB (AA _ (AF rfl) rfl ?_)))))
 refine AA (.bool (decide ((3:Int) < (1:Int)))) (AR rfl rfl fun _ => CH _ _) rfl ?_
 refine AA _ (AF rfl) rfl ?_
 refine AP 2 5 false _ _ rfl rfl (by decide) (AF rfl) rfl ?_
 refine AP 2 5 false _ (.bool (decide ((5:Int) < (3:Int)))) rfl rfl (by decide) (AR rfl rfl fun _ => DD _ _) rfl ?_
 refine AA _ (A3 _ rfl (by decide) rfl) rfl ?_
 refine AI (AC (BP _ rfl (by decide) ?_))
 refine BF (AC (AH (AB (AA _ (AF rfl) rfl ?_))))
 refine AA (Ptr 0 3) (Ev_indexArr 6 9 1 3 Tryd.underlying217 EJ rfl rfl (by omega) (by omega) (by omega)) rfl ?_
 refine AA (.string (⟨⟨[99, 104, 97, 110, 103, 101]⟩⟩)) (AO rfl (A0 Tryd.isAgg9 (DB (hW.mem (by simp)) (AK (AK (AK (Seg.head)))) (by first | omega | (simp; done) | (simp; omega))))) rfl ?_
 refine AA _ (AE rfl) rfl ?_
 refine AI (AC (BI (BH (.string (⟨⟨[99, 104, 97, 110, 103, 101]⟩⟩)) (res1 Tryd.results74 (BC rfl)) fun w1 hw1 => ?_)))
 exact ⟨_, [], rfl, ⟨rfl, rfl⟩, hw1.sub (by simp) (by simp)⟩
theorem word4_c  (w : World) (hW : RdA w 0 0 [.string (⟨⟨[]⟩⟩), .string (⟨⟨[114, 101, 97, 100]⟩⟩), .string (⟨⟨[115, 112, 97, 110]⟩⟩), .string (⟨⟨[99, 104, 97, 110, 103, 101]⟩⟩), .string (⟨⟨[99, 104, 97, 105, 110]⟩⟩), .string (⟨⟨[102, 111, 114, 103, 101, 116]⟩⟩)])  : Calls Tryd.prog 74 #[I64 4] w (Post w [] (fun v L => v = .string (⟨⟨[99, 104, 97, 105, 110]⟩⟩) ∧ L = [])) := by
 refine enter w [] 12 [] [I64 4] Tryd.func74 rfl rfl (by simp) (BW (by simp) (by simp) (by simp)) ?_
 show JC _ _ _ [(0, I64 4)] _
 refine AH (AB (AA _ (AE rfl) rfl ?_))
 refine AI (AC (AH (AH (AB (AA _ (AF rfl) rfl ?_)))))
 refine AA (.bool (decide ((4:Int) < (1:Int)))) (AR rfl rfl fun _ => CH _ _) rfl ?_
 refine AA _ (AF rfl) rfl ?_
 refine AP 2 5 false _ _ rfl rfl (by decide) (AF rfl) rfl ?_
 refine AP 2 5 false _ (.bool (decide ((5:Int) < (4:Int)))) rfl rfl (by decide) (AR rfl rfl fun _ => DD _ _) rfl ?_
 refine AA _ (A3 _ rfl (by decide) rfl) rfl ?_
 refine AI (AC (BP _ rfl (by decide) ?_))
 refine BF (AC (AH (AB (AA _ (AF rfl) rfl ?_))))
 refine AA (Ptr 0 4) (Ev_indexArr 6 9 1 4 Tryd.underlying217 EJ rfl rfl (by omega) (by omega) (by omega)) rfl ?_
 refine AA (.string (⟨⟨[99, 104, 97, 105, 110]⟩⟩)) (AO rfl (A0 Tryd.isAgg9 (DB (hW.mem (by simp)) (AK (AK (AK (AK (Seg.head))))) (by first | omega | (simp; done) | (simp; omega))))) rfl ?_
 refine AA _ (AE rfl) rfl ?_
 refine AI (AC (BI (BH (.string (⟨⟨[99, 104, 97, 105, 110]⟩⟩)) (res1 Tryd.results74 (BC rfl)) fun w1 hw1 => ?_)))
 exact ⟨_, [], rfl, ⟨rfl, rfl⟩, hw1.sub (by simp) (by simp)⟩
theorem word5_c  (w : World) (hW : RdA w 0 0 [.string (⟨⟨[]⟩⟩), .string (⟨⟨[114, 101, 97, 100]⟩⟩), .string (⟨⟨[115, 112, 97, 110]⟩⟩), .string (⟨⟨[99, 104, 97, 110, 103, 101]⟩⟩), .string (⟨⟨[99, 104, 97, 105, 110]⟩⟩), .string (⟨⟨[102, 111, 114, 103, 101, 116]⟩⟩)])  : Calls Tryd.prog 74 #[I64 5] w (Post w [] (fun v L => v = .string (⟨⟨[102, 111, 114, 103, 101, 116]⟩⟩) ∧ L = [])) := by
 refine enter w [] 12 [] [I64 5] Tryd.func74 rfl rfl (by simp) (BW (by simp) (by simp) (by simp)) ?_
 show JC _ _ _ [(0, I64 5)] _
 refine AH (AB (AA _ (AE rfl) rfl ?_))
 refine AI (AC (AH (AH (AB (AA _ (AF rfl) rfl ?_)))))
 refine AA (.bool (decide ((5:Int) < (1:Int)))) (AR rfl rfl fun _ => CH _ _) rfl ?_
 refine AA _ (AF rfl) rfl ?_
 refine AP 2 5 false _ _ rfl rfl (by decide) (AF rfl) rfl ?_
 refine AP 2 5 false _ (.bool (decide ((5:Int) < (5:Int)))) rfl rfl (by decide) (AR rfl rfl fun _ => DD _ _) rfl ?_
 refine AA _ (A3 _ rfl (by decide) rfl) rfl ?_
 refine AI (AC (BP _ rfl (by decide) ?_))
 refine BF (AC (AH (AB (AA _ (AF rfl) rfl ?_))))
 refine AA (Ptr 0 5) (Ev_indexArr 6 9 1 5 Tryd.underlying217 EJ rfl rfl (by omega) (by omega) (by omega)) rfl ?_
 refine AA (.string (⟨⟨[102, 111, 114, 103, 101, 116]⟩⟩)) (AO rfl (A0 Tryd.isAgg9 (DB (hW.mem (by simp)) (AK (AK (AK (AK (AK (Seg.head)))))) (by first | omega | (simp; done) | (simp; omega))))) rfl ?_
 refine AA _ (AE rfl) rfl ?_
 refine AI (AC (BI (BH (.string (⟨⟨[102, 111, 114, 103, 101, 116]⟩⟩)) (res1 Tryd.results74 (BC rfl)) fun w1 hw1 => ?_)))
 exact ⟨_, [], rfl, ⟨rfl, rfl⟩, hw1.sub (by simp) (by simp)⟩
theorem wordA_c (kd : Int)  (w : World) (h : kd < 1)  : Calls Tryd.prog 74 #[I64 (kd)] w (Post w [] (fun v L => v = .string (⟨⟨[]⟩⟩) ∧ L = [])) := by
 refine enter w [] 12 [] [I64 (kd)] Tryd.func74 rfl rfl (by simp) (BW (by simp) (by simp) (by simp)) ?_
 show JC _ _ _ [(0, I64 (kd))] _
 refine AH (AB (AA _ (AE rfl) rfl ?_))
 refine AI (AC (AH (AH (AB (AA _ (AF rfl) rfl ?_)))))
 refine AA (.bool (decide ((kd) < (1:Int)))) (AR rfl rfl fun _ => CH _ _) rfl ?_
 refine AA _ (AF rfl) rfl ?_
 refine AG 2 5 false _ rfl rfl (decide_eq_true (by omega)) rfl ?_
 refine AG 2 5 false _ rfl rfl (decide_eq_true (by omega)) rfl ?_
 refine AA _ (BD _ rfl (decide_eq_true (by omega)) rfl) rfl ?_
 refine AI (AC (B3 _ rfl rfl ?_))
 refine AH (AB (AA _ (AE rfl) rfl ?_))
 refine AI (AC (BI (A1 (BH (.string (⟨⟨[]⟩⟩)) (res1 Tryd.results74 (BC rfl)) fun w1 hw1 => ?_))))
 exact ⟨_, [], rfl, ⟨rfl, rfl⟩, hw1.sub (by simp) (by simp)⟩
theorem wordB_c (kd : Int)  (w : World) (h : 5 < kd)  : Calls Tryd.prog 74 #[I64 (kd)] w (Post w [] (fun v L => v = .string (⟨⟨[]⟩⟩) ∧ L = [])) := by
 refine enter w [] 12 [] [I64 (kd)] Tryd.func74 rfl rfl (by simp) (BW (by simp) (by simp) (by simp)) ?_
 show JC _ _ _ [(0, I64 (kd))] _
 refine AH (AB (AA _ (AE rfl) rfl ?_))
 refine AI (AC (AH (AH (AB (AA _ (AF rfl) rfl ?_)))))
 refine AA (.bool (decide ((kd) < (1:Int)))) (AR rfl rfl fun _ => CH _ _) rfl ?_
 refine AA _ (AF rfl) rfl ?_
 refine AP 2 5 false _ _ rfl rfl (decide_eq_false (by omega)) (AF rfl) rfl ?_
 refine AP 2 5 false _ (.bool (decide ((5:Int) < (kd)))) rfl rfl (decide_eq_false (by omega)) (AR rfl rfl fun _ => DD _ _) rfl ?_
 refine AA _ (A3 _ rfl (decide_eq_false (by omega)) rfl) rfl ?_
 refine AI (AC (B3 _ rfl (decide_eq_true (by omega)) ?_))
 refine AH (AB (AA _ (AE rfl) rfl ?_))
 refine AI (AC (BI (A1 (BH (.string (⟨⟨[]⟩⟩)) (res1 Tryd.results74 (BC rfl)) fun w1 hw1 => ?_))))
 exact ⟨_, [], rfl, ⟨rfl, rfl⟩, hw1.sub (by simp) (by simp)⟩
theorem bld31_016 {w : World} {v0 : Value} {v1 : Value} {v6 : Value} (h0 : v0.cells = [v0].toArray) (h1 : v1.cells = [v1].toArray) (h6 : v6.cells = [v6].toArray) : (Instr.build 31 ([(0, v0), (1, v1), (6, v6)] : List (Nat × Value)).toArray).run Tryd.prog w = .ok (.agg ((((((([v0] : List Value) ++ ([v1] : List Value)) ++ ([.slice none 0 0] : List Value)) ++ ([U64 0] : List Value)) ++ ([I64 0] : List Value)) ++ ([U64 0, U64 0, I64 0, .slice none 0 0, .slice none 0 0, U64 0] ++ cu8 (zr8 16) : List Value)) ++ ([v6] : List Value)).toArray) w :=
 EY (places := #[(0, 1), (1, 1), (2, 1), (3, 1), (4, 1), (5, 22), (27, 1)]) (Z := (([U64 0] : List Value) ++ (([I64 0] : List Value) ++ (([.slice none 0 0] : List Value) ++ (([U64 0] : List Value) ++ (([I64 0] : List Value) ++ (([U64 0, U64 0, I64 0, .slice none 0 0, .slice none 0 0, U64 0] ++ cu8 (zr8 16) : List Value) ++ (([U64 0] : List Value) ++ [])))))))) (fun _ => by kernel_rfl) AX (fun _ => by kernel_rfl) ((fill_start ([U64 0] : List Value) (([I64 0] : List Value) ++ (([.slice none 0 0] : List Value) ++ (([U64 0] : List Value) ++ (([I64 0] : List Value) ++ (([U64 0, U64 0, I64 0, .slice none 0 0, .slice none 0 0, U64 0] ++ cu8 (zr8 16) : List Value) ++ (([U64 0] : List Value) ++ [])))))) ([v0] : List Value) h0 (by simp [AN]) rfl).trans ((fill_step ([v0] : List Value) ([I64 0] : List Value) (([.slice none 0 0] : List Value) ++ (([U64 0] : List Value) ++ (([I64 0] : List Value) ++ (([U64 0, U64 0, I64 0, .slice none 0 0, .slice none 0 0, U64 0] ++ cu8 (zr8 16) : List Value) ++ (([U64 0] : List Value) ++ []))))) ([v1] : List Value) h1 (by simp [AN]) rfl).trans ((EP (([v0] : List Value) ++ ([v1] : List Value)) ([.slice none 0 0] : List Value) (([U64 0] : List Value) ++ (([I64 0] : List Value) ++ (([U64 0, U64 0, I64 0, .slice none 0 0, .slice none 0 0, U64 0] ++ cu8 (zr8 16) : List Value) ++ (([U64 0] : List Value) ++ []))))).trans ((EP ((([v0] : List Value) ++ ([v1] : List Value)) ++ ([.slice none 0 0] : List Value)) ([U64 0] : List Value) (([I64 0] : List Value) ++ (([U64 0, U64 0, I64 0, .slice none 0 0, .slice none 0 0, U64 0] ++ cu8 (zr8 16) : List Value) ++ (([U64 0] : List Value) ++ [])))).trans ((EP (((([v0] : List Value) ++ ([v1] : List Value)) ++ ([.slice none 0 0] : List Value)) ++ ([U64 0] : List Value)) ([I64 0] : List Value) (([U64 0, U64 0, I64 0, .slice none 0 0, .slice none 0 0, U64 0] ++ cu8 (zr8 16) : List Value) ++ (([U64 0] : List Value) ++ []))).trans ((EP ((((([v0] : List Value) ++ ([v1] : List Value)) ++ ([.slice none 0 0] : List Value)) ++ ([U64 0] : List Value)) ++ ([I64 0] : List Value)) ([U64 0, U64 0, I64 0, .slice none 0 0, .slice none 0 0, U64 0] ++ cu8 (zr8 16) : List Value) (([U64 0] : List Value) ++ [])).trans ((fill_step (((((([v0] : List Value) ++ ([v1] : List Value)) ++ ([.slice none 0 0] : List Value)) ++ ([U64 0] : List Value)) ++ ([I64 0] : List Value)) ++ ([U64 0, U64 0, I64 0, .slice none 0 0, .slice none 0 0, U64 0] ++ cu8 (zr8 16) : List Value)) ([U64 0] : List Value) [] ([v6] : List Value) h6 (by simp [AN]) rfl).trans (by simp [Instr.fill]))))))))
theorem alive14_c  (w : World) (hW : GLw w)  : Calls Tryd.prog 17 #[] w (Post w [] (fun v L => v = .bool true ∧ L = [])) := by
 have hmx : maxLen = 9223372036854775807 := rfl
 refine enter w [] 37 [] [] Tryd.func17 rfl rfl (by simp) (BW (by simp) (by simp) (by simp)) ?_
 show JC _ _ _ [] _
 refine AH (AB (AA _ (AE rfl) rfl ?_))
 refine AI (AC (AH (AB (AA (.agg ([U64 1, I64 5, SL none 0 0, U64 0, I64 0, U64 0, U64 0, I64 0, SL none 0 0, SL none 0 0, U64 0] ++ cu8 (zr8 16) ++ [U64 3]).toArray) (CP [(0, U64 1), (1, I64 5), (6, U64 3)] _ rfl (fun _ => bld31_016 rfl rfl rfl)) rfl ?_))))
 refine A4 (CZ 21 [.agg ([U64 1, I64 5, SL none 0 0, U64 0, I64 0, U64 0, U64 0, I64 0, SL none 0 0, SL none 0 0, U64 0] ++ cu8 (zr8 16) ++ [U64 3]).toArray] _ (AS _ Tryd.call21 rfl) (fun w1 hw1 => putReq5_c (1:UInt64) none 0 0 ([] : List UInt64) (0:UInt64) (0:Int) (0:UInt64) (0:UInt64) (0:Int) none 0 0 ([] : List UInt64) none 0 0 ([] : List SealR) (0:UInt64) (zr8 16) (3:UInt64) w1 rfl (by omega) (by omega) (by omega) RdV.nil rfl (by omega) (by omega) (by omega) RdV.nil rfl (by omega) (by omega) (by omega) RdV.nil (AN 16) (by omega) (by omega) (by decide +kernel))) rfl ?_
 rintro v1 L1 ⟨_, ⟨nb1, sp1, cp1, rfl, rfl, hc1, hc2, hc3⟩, rfl⟩
 show JL _ _ _ _ ((5, .tuple #[Slc nb1 0 17 cp1, .nilIface]) :: _) [⟨nb1, cu8 ((numK 8 (1:UInt64) 8 ++ numK 1 (5:UInt64) 1) ++ numK 8 (3:UInt64) 8) ++ sp1, 5, (0, 0)⟩]
 refine AA _ (AF rfl) rfl ?_
 refine AA _ (BE rfl rfl) rfl ?_
 refine AA _ (BE rfl rfl) rfl ?_
 refine AA _ (AE rfl) rfl ?_
 refine AA _ (AE rfl) rfl ?_
 refine AI (AC (AH (AB (AA _ (AF rfl) rfl ?_))))
 refine AA (.bool true) (C7 _ _ _ rfl rfl (fun _ => FB ..) fun _ => FG BB) rfl ?_
 refine AA _ (AF rfl) rfl ?_
 refine AP 2 10 true _ _ rfl rfl rfl (AF rfl) rfl ?_
 refine AP 2 10 true _ (I64 17) rfl rfl rfl (DY BA rfl) rfl ?_
 refine AP 2 10 true _ (.bool (decide ((17:Int) = (17:Int)))) rfl rfl rfl (AR rfl rfl fun _ => BK _ _) rfl ?_
 refine AA _ (BD _ rfl rfl rfl) rfl ?_
 refine AA _ (AF rfl) rfl ?_
 refine AP 7 15 true _ _ rfl rfl (by decide) (AF rfl) rfl ?_
 refine AP 7 15 true _ (Ptr nb1 7) rfl rfl (by decide) (FC 5 1 7 BA BZ rfl rfl (by omega) (by omega) (by omega)) rfl ?_
 refine AP 7 15 true _ (U8 (g8 ((numK 8 (1:UInt64) 8 ++ numK 1 (5:UInt64) 1) ++ numK 8 (3:UInt64) 8) 7)) rfl rfl (by decide) (AO rfl (A0 Tryd.isAgg5 (AU 0 rfl (AJ (Seg.get (g8_get (i := 7) (by rw [(show ((numK 8 (1:UInt64) 8 ++ numK 1 (5:UInt64) 1) ++ numK 8 (3:UInt64) 8).length = 17 from (show ((numK 8 (1:UInt64) 8 ++ numK 1 (5:UInt64) 1) ++ numK 8 (3:UInt64) 8).length = 17 from (by simp [A5])))]; omega))))))) rfl ?_
 refine AP 7 15 true _ (.bool (decide ((g8 ((numK 8 (1:UInt64) 8 ++ numK 1 (5:UInt64) 1) ++ numK 8 (3:UInt64) 8) 7) = (1:UInt8)))) rfl rfl (by decide) (AR rfl rfl fun _ => bin_eql_u8 (g8 ((numK 8 (1:UInt64) 8 ++ numK 1 (5:UInt64) 1) ++ numK 8 (3:UInt64) 8) 7) (1:UInt8)) rfl ?_
 refine AA _ (BD _ rfl (by decide) rfl) rfl ?_
 refine AA _ (AF rfl) rfl ?_
 refine AP 13 21 true _ _ rfl rfl (by decide +kernel) (AF rfl) rfl ?_
 refine AP 13 21 true _ (Ptr nb1 8) rfl rfl (by decide +kernel) (FC 5 1 8 BA BZ rfl rfl (by omega) (by omega) (by omega)) rfl ?_
 refine AP 13 21 true _ (U8 (g8 ((numK 8 (1:UInt64) 8 ++ numK 1 (5:UInt64) 1) ++ numK 8 (3:UInt64) 8) 8)) rfl rfl (by decide +kernel) (AO rfl (A0 Tryd.isAgg5 (AU 0 rfl (AJ (Seg.get (g8_get (i := 8) (by rw [(show ((numK 8 (1:UInt64) 8 ++ numK 1 (5:UInt64) 1) ++ numK 8 (3:UInt64) 8).length = 17 from (show ((numK 8 (1:UInt64) 8 ++ numK 1 (5:UInt64) 1) ++ numK 8 (3:UInt64) 8).length = 17 from (by simp [A5])))]; omega))))))) rfl ?_
 refine AP 13 21 true _ (.bool (decide ((g8 ((numK 8 (1:UInt64) 8 ++ numK 1 (5:UInt64) 1) ++ numK 8 (3:UInt64) 8) 8) = (5:UInt8)))) rfl rfl (by decide +kernel) (AR rfl rfl fun _ => bin_eql_u8 (g8 ((numK 8 (1:UInt64) 8 ++ numK 1 (5:UInt64) 1) ++ numK 8 (3:UInt64) 8) 8) (5:UInt8)) rfl ?_
 refine AA _ (BD _ rfl (by decide +kernel) rfl) rfl ?_
 refine AA _ (AF rfl) rfl ?_
 refine AP 19 27 true _ _ rfl rfl (by decide +kernel) (AF rfl) rfl ?_
 refine AP 19 27 true _ (Ptr nb1 16) rfl rfl (by decide +kernel) (FC 5 1 16 BA BZ rfl rfl (by omega) (by omega) (by omega)) rfl ?_
 refine AP 19 27 true _ (U8 (g8 ((numK 8 (1:UInt64) 8 ++ numK 1 (5:UInt64) 1) ++ numK 8 (3:UInt64) 8) 16)) rfl rfl (by decide +kernel) (AO rfl (A0 Tryd.isAgg5 (AU 0 rfl (AJ (Seg.get (g8_get (i := 16) (by rw [(show ((numK 8 (1:UInt64) 8 ++ numK 1 (5:UInt64) 1) ++ numK 8 (3:UInt64) 8).length = 17 from (show ((numK 8 (1:UInt64) 8 ++ numK 1 (5:UInt64) 1) ++ numK 8 (3:UInt64) 8).length = 17 from (by simp [A5])))]; omega))))))) rfl ?_
 refine AP 19 27 true _ (.bool (decide ((g8 ((numK 8 (1:UInt64) 8 ++ numK 1 (5:UInt64) 1) ++ numK 8 (3:UInt64) 8) 16) = (3:UInt8)))) rfl rfl (by decide +kernel) (AR rfl rfl fun _ => bin_eql_u8 (g8 ((numK 8 (1:UInt64) 8 ++ numK 1 (5:UInt64) 1) ++ numK 8 (3:UInt64) 8) 16) (3:UInt8)) rfl ?_
 refine AA _ (BD _ rfl (by decide +kernel) rfl) rfl ?_
 refine AA _ (AF rfl) rfl ?_
 refine DL 25 33 true _ rfl rfl (by decide +kernel) (A2 74 [I64 1] (.string (⟨⟨[114, 101, 97, 100]⟩⟩)) (AS _ Tryd.call74 rfl) (fun w1 hw1 => word1_c w1 (GLw.at hw1 hW))) rfl ?_
 rintro v1 L1 ⟨rfl, rfl⟩
 show JL _ _ _ _ ((34, .string (⟨⟨[114, 101, 97, 100]⟩⟩)) :: _) [_]
 refine AP 25 33 true _ (.bool (decide (([114, 101, 97, 100] : List UInt8) = ([114, 101, 97, 100] : List UInt8)))) rfl rfl (by decide +kernel) (C7 _ _ _ rfl rfl (fun _ => E7 ..) fun _ => eql_str) rfl ?_
 refine AA _ (BD _ rfl (by decide +kernel) rfl) rfl ?_
 refine AA _ (AE rfl) rfl ?_
 refine AI (AC (BI (B4 [false] ?_)))
 show JQ _ _ _ _ []
 refine BH (.bool (decide (([114, 101, 97, 100] : List UInt8) = ([114, 101, 97, 100] : List UInt8)))) (res1 Tryd.results17 (BC rfl)) fun w1 hw1 => ?_
 exact ⟨_, [], rfl, ⟨congrArg Value.bool (decide_eq_true rfl), rfl⟩, hw1.sub (by simp) (by simp)⟩
attribute [local irreducible] plainV itB chB bB aB c1B c2B c3B c4B repR
theorem plain_c (b : Bool) (e : UInt64) (d t : List UInt8)  (w : World) (hd : d.length = 32) (ht : t.length = 16)  : Calls Tryd.prog 100 #[.agg (List.toArray (α := Value) ([.bool b, U64 e] ++ cu8 d ++ cu8 t))] w (Post w [] (fun v L => v = .bool (plainV b e d t) ∧ L = [])) := by
 refine enter (P := Tryd.prog) (f := 100) (fn := Tryd.f100) w [] 11 [] [.agg (List.toArray (α := Value) ([.bool b, U64 e] ++ cu8 d ++ cu8 t))] Tryd.func100 rfl rfl (by simp) (BW (by simp) (by simp) (by simp)) ?_
 show JC _ _ _ [(0, .agg (List.toArray (α := Value) ([.bool b, U64 e] ++ cu8 d ++ cu8 t)))] _
 refine AH (AB (A4 (C5 (.agg (List.toArray (α := Value) ([.bool b, U64 e] ++ cu8 d ++ cu8 t))) ([.bool b, U64 e] ++ cu8 d ++ cu8 t) rfl (by first | rfl | simp)) rfl ?_))
 rintro v1 L1 ⟨nb1, hnb1, rfl, rfl⟩
 show JL _ _ _ _ ((1, Ptr nb1 0) :: _) [⟨nb1, [.bool b, U64 e] ++ cu8 d ++ cu8 t, 163, (0, 0)⟩]
 refine AA _ (AE rfl) rfl ?_
 refine AI (AC (AH (AB (AA (Ptr nb1 0) (AD 0 4 1 DO rfl Tryd.sizeOf4 rfl rfl) rfl ?_))))
 refine AA (.bool b) (AO rfl (A0 Tryd.isAgg4 (AU 0 rfl (AJ (AJ (Seg.head)))))) rfl ?_
 refine AA _ (AF rfl) rfl ?_
 rcases Bool.eq_false_or_eq_true (b) with hb1 | hb1
 ·
  refine AG 2 5 false _ rfl rfl hb1 rfl ?_
  refine AG 2 5 false _ rfl rfl hb1 rfl ?_
  refine AG 2 5 false _ rfl rfl hb1 rfl ?_
  refine AG 2 5 false _ rfl rfl hb1 rfl ?_
  refine AA _ (BD _ rfl hb1 rfl) rfl ?_
  refine AA _ (AE rfl) rfl ?_
  refine AI (AC (BI (BH (.bool true) (res1 Tryd.results100 (BC rfl)) fun w1 hw1 => ?_)))
  refine ⟨_, [], rfl, ⟨congrArg Value.bool ?_, rfl⟩, hw1.sub (by simp) (by simp)⟩
  unfold plainV
  first | rfl | (simp [*]; done)
 ·
  refine AP 2 5 false _ (Ptr nb1 1) rfl rfl hb1 (AD 1 161 49 DO rfl B1 rfl rfl) rfl ?_
  refine AP 2 5 false _ (.agg ([U64 e] ++ cu8 d ++ cu8 t).toArray) rfl rfl hb1 (AO rfl (BU D5 B1 (by simp [hd, ht]) (AU 0 rfl (D6 (p := [.bool b]) (q := []) (vs := [U64 e] ++ cu8 d ++ cu8 t) (by first | rfl | (simp only [List.append_assoc, List.nil_append, List.append_nil, List.cons_append]; done)) rfl)))) rfl ?_
  refine AP 2 5 false _ (.agg ([U64 0] ++ cu8 (zr8 32) ++ cu8 (zr8 16)).toArray) rfl rfl hb1 (CP [] _ rfl (fun _ => by kernel_rfl)) rfl ?_
  refine AP 2 5 false _ (.bool (decide (e = (0:UInt64) ∧ d = (zr8 32) ∧ t = (zr8 16)))) rfl rfl hb1 (C7 _ _ _ rfl rfl (fun _ => eqGuard_agg _ _ _ _ _ _ (by kernel_rfl)) (eql_struct (e = (0:UInt64) ∧ d = (zr8 32) ∧ t = (zr8 16)) (EqV.struct (d := 9999) (by kernel_rfl) (by kernel_rfl) (by kernel_rfl) (EqRs.cons 22 0 (U64 e) (U64 0) _ _ _ (PartV.one BN (AJ (AJ (Seg.head)))) (PartV.one BN (AJ (AJ (Seg.head)))) (EqV.u64 (d := 9998) AW e (0:UInt64)) (EqRs.cons 159 1 (.agg (cu8 d).toArray) (.agg (cu8 (zr8 32)).toArray) _ _ _ (PartV.agg Tryd.isAgg159 Tryd.sizeOf159 (Seg.cut (AJ (Seg.right 1 0 rfl rfl (AQ _))) (EW hd) (by omega))) (PartV.agg Tryd.isAgg159 Tryd.sizeOf159 (Seg.cut (AJ (Seg.right 1 0 rfl rfl (AQ _))) (EW (AN 32)) (by omega))) (EqV.arr8 (d := 9997) Tryd.underlying159 DI Tryd.isAgg5 Tryd.cells5 Tryd.has5 (by simp [hd]) (by simp [(AN 32)])) (EqRs.last 27 33 (.agg (cu8 t).toArray) (.agg (cu8 (zr8 16)).toArray) _ (PartV.agg Tryd.isAgg27 CI (Seg.cut (Seg.right 33 0 (by simp [hd]) rfl (AQ _)) (EW ht) (by omega))) (PartV.agg Tryd.isAgg27 CI (Seg.cut (Seg.right 33 0 (by simp [(AN 32)]) rfl (AQ _)) (EW (AN 16)) (by omega))) (EqV.arr8 (d := 9997) CF DI Tryd.isAgg5 Tryd.cells5 Tryd.has5 (by simp [ht]) (by simp [(AN 16)])))))) (by first | rfl | (simp only [Bool.decide_and, Bool.and_assoc]; done) | (simp only [Bool.beq_eq_decide_eq, Bool.decide_and, Bool.and_assoc]; done) | (simp [Bool.and_assoc]; done)))) rfl ?_
  refine AA _ (A3 _ rfl hb1 rfl) rfl ?_
  refine AA _ (AE rfl) rfl ?_
  refine AI (AC (BI (BH (.bool (decide (e = (0:UInt64) ∧ d = (zr8 32) ∧ t = (zr8 16)))) (res1 Tryd.results100 (BC rfl)) fun w1 hw1 => ?_)))
  refine ⟨_, [], rfl, ⟨congrArg Value.bool ?_, rfl⟩, hw1.sub (by simp) (by simp)⟩
  unfold plainV
  first | rfl | (simp [*]; done)
theorem oddI_c (b : Bool) (e : UInt64) (d t : List UInt8)  (w : World) (hd : d.length = 32) (ht : t.length = 16)  : Calls Tryd.prog 99 #[.agg (List.toArray (α := Value) ([.bool b, U64 e] ++ cu8 d ++ cu8 t))] w (Post w [] (fun v L => v = .bool (!plainV b e d t) ∧ L = [])) := by
 refine enter (P := Tryd.prog) (f := 99) (fn := Tryd.f99) w [] 6 [] [.agg (List.toArray (α := Value) ([.bool b, U64 e] ++ cu8 d ++ cu8 t))] Tryd.func99 rfl rfl (by simp) (BW (by simp) (by simp) (by simp)) ?_
 show JC _ _ _ [(0, .agg (List.toArray (α := Value) ([.bool b, U64 e] ++ cu8 d ++ cu8 t)))] _
 refine AH (AB (A4 (C5 (.agg (List.toArray (α := Value) ([.bool b, U64 e] ++ cu8 d ++ cu8 t))) ([.bool b, U64 e] ++ cu8 d ++ cu8 t) rfl (by first | rfl | simp)) rfl ?_))
 rintro v1 L1 ⟨nb1, hnb1, rfl, rfl⟩
 show JL _ _ _ _ ((1, Ptr nb1 0) :: _) [⟨nb1, [.bool b, U64 e] ++ cu8 d ++ cu8 t, 163, (0, 0)⟩]
 refine AA _ (AE rfl) rfl ?_
 refine AI (AC (AH (AB (AA (.agg (List.toArray (α := Value) ([.bool b, U64 e] ++ cu8 d ++ cu8 t))) (AO rfl (BU Tryd.isAgg163 DH (by simp [hd, ht]) (AU 0 rfl (AQ _)))) rfl ?_))))
 refine A7 (A2 100 [.agg (List.toArray (α := Value) ([.bool b, U64 e] ++ cu8 d ++ cu8 t))] (.bool (plainV b e d t)) (AS _ Tryd.call100 rfl) (fun w1 hw1 => plain_c b e d t w1 hd ht)) rfl ?_
 show JL _ _ _ _ ((4, .bool (plainV b e d t)) :: _) [_]
 refine AA (.bool (!(plainV b e d t))) (DG rfl) rfl ?_
 refine AA _ (AE rfl) rfl ?_
 refine AI (AC (BI (BH (.bool (!(plainV b e d t))) (res1 Tryd.results99 (BC rfl)) fun w1 hw1 => ?_)))
 exact ⟨_, [], rfl, ⟨rfl, rfl⟩, hw1.sub (by simp) (by simp)⟩
theorem ixItem_c (aj : Option Addr) (nj cj : Nat) (lj : List ItemR)  (w : World) (hlj : lj.length = nj) (hnj : nj ≤ 2000000) (hdj : nj ≤ cj) (hcj : cj ≤ maxLen) (hj : RdV w aj (lj.flatMap itemC))  : Calls Tryd.prog 150 #[SL aj nj cj, .func (.func 99) #[] #[]] w (Post w [] (fun v L => v = I64 (findIx (fun x => !plainB x) lj) ∧ L = [])) := by
 have hmx : maxLen = 9223372036854775807 := rfl
 refine enter w [] 19 [] [SL aj nj cj, .func (.func 99) #[] #[]] Tryd.func150 rfl rfl (by simp) (BW (by simp) (by simp) (by simp)) ?_
 show JC _ _ _ [(0, SL aj nj cj), (1, .func (.func 99) #[] #[])] _
 refine AH (AB (AA _ (AE rfl) rfl ?_))
 refine AI (AC (AH (AH (AB (AA _ (AF rfl) rfl ?_)))))
 refine AA (I64 nj) (DY CE rfl) rfl ?_
 refine AA _ (AF rfl) rfl ?_
 refine AI (AC (B5 (EM (ι := Nat) (fun i => [(0, SL aj nj cj), (1, .func (.func 99) #[] #[]), (7, I64 nj), (8, I64 i)]) (fun i => []) (fun i => i ≤ nj ∧ ∀ k, k < i → ∀ y, lj[k]? = some y → (fun x => !plainB x) y = false) (fun i => nj - i) 0 ⟨by omega, fun k hk => absurd hk (by omega)⟩ (Sub.all rfl) rfl ?_)))
 rintro i ⟨hi1, hi2⟩
 show JC _ _ _ [(0, SL aj nj cj), (1, .func (.func 99) #[] #[]), (7, I64 nj), (8, I64 i)] []
 refine AH (AB (AA (.bool (decide (((i:Int)) < ((nj:Int))))) (AR rfl rfl fun _ => CH _ _) rfl ?_))
 refine AI (AC (AH (B9 (decide (((i:Int)) < ((nj:Int)))) rfl (fun hb1 => ?_) (fun hb1 => ?_))))
 ·
  have hp1 : ((i:Int)) < ((nj:Int)) := of_decide_eq_true hb1
  refine BF (AC (AH (B5 (AH (AB (AA _ (AF rfl) rfl ?_))))))
  refine AA _ (AE rfl) rfl ?_
  refine AI (AC (AH (AB (AA _ (AF rfl) rfl ?_))))
  refine AA _ (AF rfl) rfl ?_
  refine AA _ (AF rfl) rfl ?_
  obtain ⟨x1, hx1⟩ : ∃ x, lj[i]? = some x := ⟨_, List.getElem?_eq_getElem (by rw [hlj]; omega)⟩
  obtain ⟨bz1, oz1, hz1, hm1⟩ := rows_at itemC_len (by decide) hj hx1
  rw [itemC_eq] at hm1
  refine AA (Ptr bz1 (50*i + oz1)) (EA 163 50 (50*i + oz1) CE DH rfl hz1 rfl (by omega) (by omega) (by omega)) rfl ?_
  refine AA (.agg (List.toArray (α := Value) ([.bool x1.b, U64 x1.s.e] ++ cu8 x1.s.d ++ cu8 x1.s.t))) (AO rfl (BU Tryd.isAgg163 DH (by simp [x1.s.hd, x1.s.ht]) (DB (hm1.mem (by simp)) (AQ _) (by first | omega | (simp; done) | (simp; omega))))) rfl ?_
  refine A7 (A2 99 [.agg (List.toArray (α := Value) ([.bool x1.b, U64 x1.s.e] ++ cu8 x1.s.d ++ cu8 x1.s.t))] (.bool (!(plainV x1.b x1.s.e x1.s.d x1.s.t))) (Cl_clo [.agg (List.toArray (α := Value) ([.bool x1.b, U64 x1.s.e] ++ cu8 x1.s.d ++ cu8 x1.s.t))] [] Tryd.call99 rfl rfl) (fun w1 hw1 => oddI_c x1.b x1.s.e x1.s.d x1.s.t w1 x1.s.hd x1.s.ht)) rfl ?_
  show JL _ _ _ _ ((16, .bool (!(plainV x1.b x1.s.e x1.s.d x1.s.t))) :: _) []
  refine AI (AC (B9 (!(plainV x1.b x1.s.e x1.s.d x1.s.t)) rfl (fun hb2 => ?_) (fun hb2 => ?_)))
  ·
   refine AH (AB (AA _ (AF rfl) rfl ?_))
   refine AA _ (AE rfl) rfl ?_
   refine AI (AC (BI (CD (A1 (A1 (CD (A1 (BH (I64 i) (res1 Tryd.results150 (BC rfl)) fun w1 hw1 => ?_))))))))
   have e1 : findIx (fun x => !plainB x) lj = i := findIx_at hx1 (by assumption : (!plainV _ _ _ _) = true) hi2
   exact ⟨_, [], rfl, ⟨by rw [e1], rfl⟩, hw1.sub (by simp) (by simp)⟩
  ·
   refine BF (BS (AC (AB (AA (I64 ((i:Int) + 1)) (AR rfl rfl fun _ => DQ _ _ ((i:Int) + 1) (by omega) (by omega)) rfl ?_))))
   refine AA _ (AF rfl) rfl ?_
   refine AI (D0 (EV (i + 1) ⟨by omega, find_step hx1 (by assumption : (!plainV _ _ _ _) = false) hi2⟩ (by first | (simp; omega) | simp | (dsimp only; omega) | omega) (Sub.all rfl) rfl))
 ·
  have hp1 : ¬ (((i:Int)) < ((nj:Int))) := of_decide_eq_false hb1
  refine ED (BJ (BJ (C1 (AC (AH (AB (AA _ (AE rfl) rfl ?_)))))))
  refine AI (AC (BI (BH (I64 (-1:Int)) (res1 Tryd.results150 (BC rfl)) fun w1 hw1 => ?_)))
  have e1 : findIx (fun x => !plainB x) lj = -1 := findIx_no (by rw [hlj]; intro k hk; exact hi2 k (by omega))
  exact ⟨_, [], rfl, ⟨by rw [e1], rfl⟩, hw1.sub (by simp) (by simp)⟩
theorem cfItem_c (aj : Option Addr) (nj cj : Nat) (lj : List ItemR)  (w : World) (hlj : lj.length = nj) (hnj : nj ≤ 2000000) (hdj : nj ≤ cj) (hcj : cj ≤ maxLen) (hj : RdV w aj (lj.flatMap itemC))  : Calls Tryd.prog 101 #[SL aj nj cj, .func (.func 99) #[] #[]] w (Post w [] (fun v L => v = .bool (lj.any (fun x => !plainB x)) ∧ L = [])) := by
 refine enter w [] 9 [] [SL aj nj cj, .func (.func 99) #[] #[]] Tryd.func101 rfl rfl (by simp) (BW (by simp) (by simp) (by simp)) ?_
 show JC _ _ _ [(0, SL aj nj cj), (1, .func (.func 99) #[] #[])] _
 refine AH (AB (AA _ (AE rfl) rfl ?_))
 refine AI (AC (AH (AB (AA _ (AF rfl) rfl ?_))))
 refine AA _ (AF rfl) rfl ?_
 refine A7 (A2 150 [SL aj nj cj, .func (.func 99) #[] #[]] (I64 ((findIx (fun x => !plainB x) lj))) (AS _ Tryd.call150 rfl) (fun w1 hw1 => ixItem_c aj nj cj lj w1 hlj (by omega) (by omega) (by omega) (C2 hw1 rfl hj))) rfl ?_
 show JL _ _ _ _ ((7, I64 ((findIx (fun x => !plainB x) lj))) :: _) []
 refine AA (.bool (decide ((0:Int) ≤ ((findIx (fun x => !plainB x) lj))))) (AR rfl rfl fun _ => EZ _ _) rfl ?_
 refine AA _ (AE rfl) rfl ?_
 refine AI (AC (BI (BH (.bool (decide ((0:Int) ≤ ((findIx (fun x => !plainB x) lj))))) (res1 Tryd.results101 (BC rfl)) fun w1 hw1 => ?_)))
 exact ⟨_, [], rfl, ⟨congrArg Value.bool (findIx_ge _ _), rfl⟩, hw1.sub (by simp) (by simp)⟩
set_option maxHeartbeats 4000000 in
theorem partsG_c (rq : UInt64) (rk er : Int) (aj : Option Addr) (nj cj : Nat) (lj : List ItemR) (th : Bool) (pv ep : UInt64) (kd : Int) (ai : Option Addr) (ni ci : Nat) (l : List UInt64) (sa : Option Addr) (ns sc : Nat) (ls : List SealR) (bl : UInt64) (tg : List UInt8) (aha : Option Addr) (nha cha : Nat) (xha : List UInt8) (ahb : Option Addr) (nhb chb : Nat) (xhb : List UInt8)  (w : World) (htg : tg.length = 16)  : Calls Tryd.prog 95 #[.agg ([U64 rq, I64 (rk), I64 (er), SL aj nj cj, .bool th, U64 pv, U64 ep, I64 (kd), SL ai ni ci, SL sa ns sc, U64 bl] ++ cu8 tg ++ [SL aha nha cha, SL ahb nhb chb]).toArray] w (Post w [] (fun v L => ∃ g cs T, v = .tuple #[.bool (itB er rk), .bool (chB er rk th), .bool (aB er rk th), .bool (bB er rk th)] ∧ L = [⟨g, cs, T, (0, 0)⟩])) := by
 refine enter (P := Tryd.prog) (f := 95) (fn := Tryd.f95) w [] 48 [] [.agg ([U64 rq, I64 (rk), I64 (er), SL aj nj cj, .bool th, U64 pv, U64 ep, I64 (kd), SL ai ni ci, SL sa ns sc, U64 bl] ++ cu8 tg ++ [SL aha nha cha, SL ahb nhb chb]).toArray] Tryd.func95 rfl rfl (by simp) (BW (by simp) (by simp) (by simp)) ?_
 show JC _ _ _ [(0, .agg ([U64 rq, I64 (rk), I64 (er), SL aj nj cj, .bool th, U64 pv, U64 ep, I64 (kd), SL ai ni ci, SL sa ns sc, U64 bl] ++ cu8 tg ++ [SL aha nha cha, SL ahb nhb chb]).toArray)] _
 refine AH (AB (A4 (C5 (.agg ([U64 rq, I64 (rk), I64 (er), SL aj nj cj, .bool th, U64 pv, U64 ep, I64 (kd), SL ai ni ci, SL sa ns sc, U64 bl] ++ cu8 tg ++ [SL aha nha cha, SL ahb nhb chb]).toArray) ([U64 rq, I64 (rk), I64 (er), SL aj nj cj, .bool th, U64 pv, U64 ep, I64 (kd), SL ai ni ci, SL sa ns sc, U64 bl] ++ cu8 tg ++ [SL aha nha cha, SL ahb nhb chb]) rfl (by first | rfl | simp)) rfl ?_))
 rintro v1 L1 ⟨nb1, hnb1, rfl, rfl⟩
 show JL _ _ _ _ ((1, Ptr nb1 0) :: _) [⟨nb1, [U64 rq, I64 (rk), I64 (er), SL aj nj cj, .bool th, U64 pv, U64 ep, I64 (kd), SL ai ni ci, SL sa ns sc, U64 bl] ++ cu8 tg ++ [SL aha nha cha, SL ahb nhb chb], 67, (0, 0)⟩]
 refine AA _ (AE rfl) rfl ?_
 refine AA _ (AE rfl) rfl ?_
 refine AA _ (AE rfl) rfl ?_
 refine AA _ (AE rfl) rfl ?_
 refine AI (AC (AH (AH (AB (AA (Ptr nb1 2) (AD 2 3 1 AM rfl AT rfl rfl) rfl ?_)))))
 refine AA (I64 (er)) (AO rfl (A0 AY (AU 0 rfl (AJ (AJ (AK (AK (Seg.head)))))))) rfl ?_
 refine AA (.bool (decide ((er) ≠ (0:Int)))) (AR rfl rfl fun _ => FO _ _) rfl ?_
 refine AI (AC (B9 (decide ((er) ≠ (0:Int))) rfl (fun hb1 => ?_) (fun hb1 => ?_)))
 ·
  have hp1 : (er) ≠ (0:Int) := of_decide_eq_true hb1
  refine AH (AB (AA _ (AE rfl) rfl ?_))
  refine AA _ (AE rfl) rfl ?_
  refine AA _ (AE rfl) rfl ?_
  refine AA _ (AE rfl) rfl ?_
  refine AI (AC (BI (A1 (BH (.tuple #[.bool false, .bool false, .bool false, .bool false]) (res4 Tryd.results95 (BC rfl) (BC rfl) (BC rfl) (BC rfl)) fun w1 hw1 => ?_))))
  refine ⟨_, _, rfl, ⟨_, _, _, ?_, rfl⟩, Hp.one hw1 0 rfl⟩
  have fx0 : er ≠ 0 := by omega
  simp [itB, chB, aB, bB, fx0]
 ·
  have hp1 : ¬ ((er) ≠ (0:Int)) := of_decide_eq_false hb1
  refine BF (AC (AH (AB (AA (Ptr nb1 1) (AD 1 3 1 AM rfl AT rfl rfl) rfl ?_))))
  refine AA (I64 (rk)) (AO rfl (A0 AY (AU 0 rfl (AJ (AJ (AK (Seg.head))))))) rfl ?_
  refine AA (.bool (decide ((rk) = (4:Int)))) (AR rfl rfl fun _ => BK _ _) rfl ?_
  refine AA _ (AF rfl) rfl ?_
  rcases Bool.eq_false_or_eq_true (decide ((rk) = (4:Int))) with hb2 | hb2
  ·
   have hp2 : (rk) = (4:Int) := of_decide_eq_true hb2
   refine AP 3 12 true _ (Ptr nb1 4) rfl rfl hb2 (AD 4 4 1 AM rfl Tryd.sizeOf4 rfl rfl) rfl ?_
   refine AP 3 12 true _ (.bool th) rfl rfl hb2 (AO rfl (A0 Tryd.isAgg4 (AU 0 rfl (AJ (AJ (AK (AK (AK (AK (Seg.head)))))))))) rfl ?_
   refine AA _ (BD _ rfl hb2 rfl) rfl ?_
   refine AA _ (AE rfl) rfl ?_
   refine AI (AC (AH (AB (AA (Ptr nb1 1) (AD 1 3 1 AM rfl AT rfl rfl) rfl ?_))))
   refine AA (I64 (rk)) (AO rfl (A0 AY (AU 0 rfl (AJ (AJ (AK (Seg.head))))))) rfl ?_
   refine AA (.bool (decide ((rk) = (1:Int)))) (AR rfl rfl fun _ => BK _ _) rfl ?_
   refine AA _ (AF rfl) rfl ?_
   refine AP 3 19 false _ (Ptr nb1 1) rfl rfl (decide_eq_false (by omega)) (AD 1 3 1 AM rfl AT rfl rfl) rfl ?_
   refine AP 3 19 false _ (I64 (rk)) rfl rfl (decide_eq_false (by omega)) (AO rfl (A0 AY (AU 0 rfl (AJ (AJ (AK (Seg.head))))))) rfl ?_
   refine AP 3 19 false _ (.bool (decide ((rk) = (2:Int)))) rfl rfl (decide_eq_false (by omega)) (AR rfl rfl fun _ => BK _ _) rfl ?_
   refine AA _ (A3 _ rfl (decide_eq_false (by omega)) rfl) rfl ?_
   refine AA _ (AF rfl) rfl ?_
   refine AP 8 24 false _ (Ptr nb1 1) rfl rfl (decide_eq_false (by omega)) (AD 1 3 1 AM rfl AT rfl rfl) rfl ?_
   refine AP 8 24 false _ (I64 (rk)) rfl rfl (decide_eq_false (by omega)) (AO rfl (A0 AY (AU 0 rfl (AJ (AJ (AK (Seg.head))))))) rfl ?_
   refine AP 8 24 false _ (.bool (decide ((rk) = (3:Int)))) rfl rfl (decide_eq_false (by omega)) (AR rfl rfl fun _ => BK _ _) rfl ?_
   refine AA _ (A3 _ rfl (decide_eq_false (by omega)) rfl) rfl ?_
   refine AA _ (AF rfl) rfl ?_
   refine AP 13 29 false _ _ rfl rfl (decide_eq_false (by omega)) (AF rfl) rfl ?_
   refine AA _ (A3 _ rfl (decide_eq_false (by omega)) rfl) rfl ?_
   refine AA _ (AE rfl) rfl ?_
   refine AI (AC (AH ?_))
   rcases Bool.eq_false_or_eq_true (th) with hb3 | hb3
   ·
    refine DC 48 1 [(0, Ptr nb1 1), (1, I64 (rk)), (2, .bool (decide ((rk) = (1:Int)))), (3, .bool (decide ((rk) = (1:Int)))), (4, Ptr nb1 1), (5, I64 (rk)), (6, .bool (decide ((rk) = (2:Int)))), (7, .bool (decide ((rk) = (2:Int)))), (8, .bool th), (9, .bool th), (10, .bool th), (11, Ptr nb1 1), (12, I64 (rk)), (13, .bool (decide ((rk) ≠ (1:Int)))), (14, .bool (decide ((rk) ≠ (1:Int)))), (15, .bool th), (16, .bool (decide ((rk) = (2:Int)))), (17, .bool th), (18, .bool (decide ((rk) ≠ (1:Int)))), (19, .bool th)] CA rfl (by decide +kernel) ?_
    refine DU ⟨[], [0, 1, 2, 3, 4, 5, 6, 7, 8, 9, 10, 11, 12, 13, 14, 15, 16, 17, 18, 19], [], [0, 1, 2, 3, 4, 5, 6, 7, 8, 9, 10, 11, 12, 13, 14, 15, 16, 17, 18, 19], []⟩ rfl rfl (by decide +kernel) rfl ⟨⟨_, rfl, AL rfl (AD 1 3 1 AM rfl AT rfl rfl)⟩, ⟨_, rfl, AL rfl (AO rfl (A0 AY (AU 0 rfl (AJ (AJ (AK (Seg.head)))))))⟩, ⟨_, rfl, AL rfl (AR rfl rfl fun _ => BK _ _)⟩, CG rfl rfl rfl, ⟨_, rfl, C3 3 35 false _ rfl rfl rfl (decide_eq_false (by omega)) (AD 1 3 1 AM rfl AT rfl rfl)⟩, ⟨_, rfl, C3 3 35 false _ rfl rfl rfl (decide_eq_false (by omega)) (AO rfl (A0 AY (AU 0 rfl (AJ (AJ (AK (Seg.head)))))))⟩, ⟨_, rfl, C3 3 35 false _ rfl rfl rfl (decide_eq_false (by omega)) (AR rfl rfl fun _ => BK _ _)⟩, ⟨_, rfl, AL rfl (A3 _ rfl (decide_eq_false (by omega)) rfl)⟩, CG rfl rfl rfl, CG rfl rfl rfl, CG rfl rfl rfl, ⟨_, rfl, C3 10 42 true _ rfl rfl rfl hb3 (AD 1 3 1 AM rfl AT rfl rfl)⟩, ⟨_, rfl, C3 10 42 true _ rfl rfl rfl hb3 (AO rfl (A0 AY (AU 0 rfl (AJ (AJ (AK (Seg.head)))))))⟩, ⟨_, rfl, C3 10 42 true _ rfl rfl rfl hb3 (AR rfl rfl fun _ => FO _ _)⟩, ⟨_, rfl, AL rfl (BD _ rfl hb3 rfl)⟩, CG rfl rfl rfl, ⟨_, rfl, AL rfl (AE rfl)⟩, ⟨_, rfl, AL rfl (AE rfl)⟩, ⟨_, rfl, AL rfl (AE rfl)⟩, ⟨_, rfl, AL rfl (AE rfl)⟩, trivial⟩ ?_
    refine C6 (F' := [(2, .bool (decide ((rk) = (2:Int)))), (3, .bool th), (4, .bool (decide ((rk) ≠ (1:Int)))), (5, .bool th)]) (by kernel_rfl) ?_
    refine AC (BI (BH (.tuple #[.bool (decide ((rk) = (2:Int))), .bool th, .bool (decide ((rk) ≠ (1:Int))), .bool th]) (res4 Tryd.results95 (BC rfl) (BC rfl) (BC rfl) (BC rfl)) fun w1 hw1 => ?_))
    refine ⟨_, _, rfl, ⟨_, _, _, ?_, rfl⟩, Hp.one hw1 0 rfl⟩
    have fx0 : er = 0 := by omega
    have fx1 : rk = 4 := by omega
    simp [itB, chB, aB, bB, fx0, fx1, hb3]
   ·
    refine DC 48 1 [(0, Ptr nb1 1), (1, I64 (rk)), (2, .bool (decide ((rk) = (1:Int)))), (3, .bool (decide ((rk) = (1:Int)))), (4, Ptr nb1 1), (5, I64 (rk)), (6, .bool (decide ((rk) = (2:Int)))), (7, .bool (decide ((rk) = (2:Int)))), (8, .bool th), (9, .bool th), (10, .bool th), (11, undef), (12, undef), (13, undef), (14, .bool false), (15, .bool th), (16, .bool (decide ((rk) = (2:Int)))), (17, .bool th), (18, .bool false), (19, .bool th)] CA rfl (by decide +kernel) ?_
    refine DU ⟨[], [0, 1, 2, 3, 4, 5, 6, 7, 8, 9, 10, 11, 12, 13, 14, 15, 16, 17, 18, 19], [], [0, 1, 2, 3, 4, 5, 6, 7, 8, 9, 10, 11, 12, 13, 14, 15, 16, 17, 18, 19], []⟩ rfl rfl (by decide +kernel) rfl ⟨⟨_, rfl, AL rfl (AD 1 3 1 AM rfl AT rfl rfl)⟩, ⟨_, rfl, AL rfl (AO rfl (A0 AY (AU 0 rfl (AJ (AJ (AK (Seg.head)))))))⟩, ⟨_, rfl, AL rfl (AR rfl rfl fun _ => BK _ _)⟩, CG rfl rfl rfl, ⟨_, rfl, C3 3 35 false _ rfl rfl rfl (decide_eq_false (by omega)) (AD 1 3 1 AM rfl AT rfl rfl)⟩, ⟨_, rfl, C3 3 35 false _ rfl rfl rfl (decide_eq_false (by omega)) (AO rfl (A0 AY (AU 0 rfl (AJ (AJ (AK (Seg.head)))))))⟩, ⟨_, rfl, C3 3 35 false _ rfl rfl rfl (decide_eq_false (by omega)) (AR rfl rfl fun _ => BK _ _)⟩, ⟨_, rfl, AL rfl (A3 _ rfl (decide_eq_false (by omega)) rfl)⟩, CG rfl rfl rfl, CG rfl rfl rfl, CG rfl rfl rfl, ⟨_, rfl, DN 10 42 true _ rfl rfl rfl hb3⟩, ⟨_, rfl, DN 10 42 true _ rfl rfl rfl hb3⟩, ⟨_, rfl, DN 10 42 true _ rfl rfl rfl hb3⟩, ⟨_, rfl, AL rfl (A3 _ rfl hb3 rfl)⟩, CG rfl rfl rfl, ⟨_, rfl, AL rfl (AE rfl)⟩, ⟨_, rfl, AL rfl (AE rfl)⟩, ⟨_, rfl, AL rfl (AE rfl)⟩, ⟨_, rfl, AL rfl (AE rfl)⟩, trivial⟩ ?_
    refine C6 (F' := [(2, .bool (decide ((rk) = (2:Int)))), (3, .bool th), (4, .bool false), (5, .bool th)]) (by kernel_rfl) ?_
    refine AC (BI (BH (.tuple #[.bool (decide ((rk) = (2:Int))), .bool th, .bool false, .bool th]) (res4 Tryd.results95 (BC rfl) (BC rfl) (BC rfl) (BC rfl)) fun w1 hw1 => ?_))
    refine ⟨_, _, rfl, ⟨_, _, _, ?_, rfl⟩, Hp.one hw1 0 rfl⟩
    have fx0 : er = 0 := by omega
    have fx1 : rk = 4 := by omega
    simp [itB, chB, aB, bB, fx0, fx1, hb3]
  ·
   have hp2 : ¬ ((rk) = (4:Int)) := of_decide_eq_false hb2
   refine AG 3 12 true _ rfl rfl hb2 rfl ?_
   refine AG 3 12 true _ rfl rfl hb2 rfl ?_
   refine AA _ (A3 _ rfl hb2 rfl) rfl ?_
   refine AA _ (AE rfl) rfl ?_
   refine AI (AC (AH (AB (AA (Ptr nb1 1) (AD 1 3 1 AM rfl AT rfl rfl) rfl ?_))))
   refine AA (I64 (rk)) (AO rfl (A0 AY (AU 0 rfl (AJ (AJ (AK (Seg.head))))))) rfl ?_
   refine AA (.bool (decide ((rk) = (1:Int)))) (AR rfl rfl fun _ => BK _ _) rfl ?_
   refine AA _ (AF rfl) rfl ?_
   rcases Bool.eq_false_or_eq_true (decide ((rk) = (1:Int))) with hb4 | hb4
   ·
    have hp4 : (rk) = (1:Int) := of_decide_eq_true hb4
    refine AG 3 19 false _ rfl rfl hb4 rfl ?_
    refine AG 3 19 false _ rfl rfl hb4 rfl ?_
    refine AG 3 19 false _ rfl rfl hb4 rfl ?_
    refine AA _ (BD _ rfl hb4 rfl) rfl ?_
    refine AA _ (AF rfl) rfl ?_
    refine AG 8 24 false _ rfl rfl rfl rfl ?_
    refine AG 8 24 false _ rfl rfl rfl rfl ?_
    refine AG 8 24 false _ rfl rfl rfl rfl ?_
    refine AA _ (BD _ rfl rfl rfl) rfl ?_
    refine AA _ (AF rfl) rfl ?_
    refine AG 13 29 false _ rfl rfl rfl rfl ?_
    refine AA _ (BD _ rfl rfl rfl) rfl ?_
    refine AA _ (AE rfl) rfl ?_
    refine AI (AC (AH (DC 48 1 [(0, Ptr nb1 1), (1, I64 (rk)), (2, .bool (decide ((rk) = (1:Int)))), (3, .bool (decide ((rk) = (1:Int)))), (4, undef), (5, undef), (6, undef), (7, .bool true), (8, .bool false), (9, .bool true), (10, .bool true), (11, Ptr nb1 1), (12, I64 (rk)), (13, .bool (decide ((rk) ≠ (1:Int)))), (14, .bool (decide ((rk) ≠ (1:Int)))), (15, .bool true), (16, .bool true), (17, .bool false), (18, .bool (decide ((rk) ≠ (1:Int)))), (19, .bool true)] CA rfl (by decide +kernel) ?_)))
    refine DU ⟨[], [0, 1, 2, 3, 4, 5, 6, 7, 8, 9, 10, 11, 12, 13, 14, 15, 16, 17, 18, 19], [], [0, 1, 2, 3, 4, 5, 6, 7, 8, 9, 10, 11, 12, 13, 14, 15, 16, 17, 18, 19], []⟩ rfl rfl (by decide +kernel) rfl ⟨⟨_, rfl, AL rfl (AD 1 3 1 AM rfl AT rfl rfl)⟩, ⟨_, rfl, AL rfl (AO rfl (A0 AY (AU 0 rfl (AJ (AJ (AK (Seg.head)))))))⟩, ⟨_, rfl, AL rfl (AR rfl rfl fun _ => BK _ _)⟩, CG rfl rfl rfl, ⟨_, rfl, DN 3 35 false _ rfl rfl rfl hb4⟩, ⟨_, rfl, DN 3 35 false _ rfl rfl rfl hb4⟩, ⟨_, rfl, DN 3 35 false _ rfl rfl rfl hb4⟩, ⟨_, rfl, AL rfl (BD _ rfl hb4 rfl)⟩, CG rfl rfl rfl, CG rfl rfl rfl, CG rfl rfl rfl, ⟨_, rfl, C3 10 42 true _ rfl rfl rfl rfl (AD 1 3 1 AM rfl AT rfl rfl)⟩, ⟨_, rfl, C3 10 42 true _ rfl rfl rfl rfl (AO rfl (A0 AY (AU 0 rfl (AJ (AJ (AK (Seg.head)))))))⟩, ⟨_, rfl, C3 10 42 true _ rfl rfl rfl rfl (AR rfl rfl fun _ => FO _ _)⟩, ⟨_, rfl, AL rfl (BD _ rfl rfl rfl)⟩, CG rfl rfl rfl, ⟨_, rfl, AL rfl (AE rfl)⟩, ⟨_, rfl, AL rfl (AE rfl)⟩, ⟨_, rfl, AL rfl (AE rfl)⟩, ⟨_, rfl, AL rfl (AE rfl)⟩, trivial⟩ ?_
    refine C6 (F' := [(2, .bool true), (3, .bool false), (4, .bool (decide ((rk) ≠ (1:Int)))), (5, .bool true)]) (by kernel_rfl) ?_
    refine AC (BI (BH (.tuple #[.bool true, .bool false, .bool (decide ((rk) ≠ (1:Int))), .bool true]) (res4 Tryd.results95 (BC rfl) (BC rfl) (BC rfl) (BC rfl)) fun w1 hw1 => ?_))
    refine ⟨_, _, rfl, ⟨_, _, _, ?_, rfl⟩, Hp.one hw1 0 rfl⟩
    have fx0 : er = 0 := by omega
    have fx1 : rk ≠ 4 := by omega
    have fx2 : rk = 1 := by omega
    simp [itB, chB, aB, bB, fx0, fx1, fx2]
   ·
    have hp4 : ¬ ((rk) = (1:Int)) := of_decide_eq_false hb4
    refine AP 3 19 false _ (Ptr nb1 1) rfl rfl hb4 (AD 1 3 1 AM rfl AT rfl rfl) rfl ?_
    refine AP 3 19 false _ (I64 (rk)) rfl rfl hb4 (AO rfl (A0 AY (AU 0 rfl (AJ (AJ (AK (Seg.head))))))) rfl ?_
    refine AP 3 19 false _ (.bool (decide ((rk) = (2:Int)))) rfl rfl hb4 (AR rfl rfl fun _ => BK _ _) rfl ?_
    refine AA _ (A3 _ rfl hb4 rfl) rfl ?_
    refine AA _ (AF rfl) rfl ?_
    rcases Bool.eq_false_or_eq_true (decide ((rk) = (2:Int))) with hb5 | hb5
    ·
     have hp5 : (rk) = (2:Int) := of_decide_eq_true hb5
     refine AG 8 24 false _ rfl rfl hb5 rfl ?_
     refine AG 8 24 false _ rfl rfl hb5 rfl ?_
     refine AG 8 24 false _ rfl rfl hb5 rfl ?_
     refine AA _ (BD _ rfl hb5 rfl) rfl ?_
     refine AA _ (AF rfl) rfl ?_
     refine AG 13 29 false _ rfl rfl rfl rfl ?_
     refine AA _ (BD _ rfl rfl rfl) rfl ?_
     refine AA _ (AE rfl) rfl ?_
     refine AI (AC (AH (DC 48 1 [(0, Ptr nb1 1), (1, I64 (rk)), (2, .bool (decide ((rk) = (1:Int)))), (3, .bool (decide ((rk) = (1:Int)))), (4, Ptr nb1 1), (5, I64 (rk)), (6, .bool (decide ((rk) = (2:Int)))), (7, .bool (decide ((rk) = (2:Int)))), (8, .bool false), (9, .bool true), (10, .bool true), (11, Ptr nb1 1), (12, I64 (rk)), (13, .bool (decide ((rk) ≠ (1:Int)))), (14, .bool (decide ((rk) ≠ (1:Int)))), (15, .bool true), (16, .bool (decide ((rk) = (2:Int)))), (17, .bool false), (18, .bool (decide ((rk) ≠ (1:Int)))), (19, .bool true)] CA rfl (by decide +kernel) ?_)))
     refine DU ⟨[], [0, 1, 2, 3, 4, 5, 6, 7, 8, 9, 10, 11, 12, 13, 14, 15, 16, 17, 18, 19], [], [0, 1, 2, 3, 4, 5, 6, 7, 8, 9, 10, 11, 12, 13, 14, 15, 16, 17, 18, 19], []⟩ rfl rfl (by decide +kernel) rfl ⟨⟨_, rfl, AL rfl (AD 1 3 1 AM rfl AT rfl rfl)⟩, ⟨_, rfl, AL rfl (AO rfl (A0 AY (AU 0 rfl (AJ (AJ (AK (Seg.head)))))))⟩, ⟨_, rfl, AL rfl (AR rfl rfl fun _ => BK _ _)⟩, CG rfl rfl rfl, ⟨_, rfl, C3 3 35 false _ rfl rfl rfl hb4 (AD 1 3 1 AM rfl AT rfl rfl)⟩, ⟨_, rfl, C3 3 35 false _ rfl rfl rfl hb4 (AO rfl (A0 AY (AU 0 rfl (AJ (AJ (AK (Seg.head)))))))⟩, ⟨_, rfl, C3 3 35 false _ rfl rfl rfl hb4 (AR rfl rfl fun _ => BK _ _)⟩, ⟨_, rfl, AL rfl (A3 _ rfl hb4 rfl)⟩, CG rfl rfl rfl, CG rfl rfl rfl, CG rfl rfl rfl, ⟨_, rfl, C3 10 42 true _ rfl rfl rfl rfl (AD 1 3 1 AM rfl AT rfl rfl)⟩, ⟨_, rfl, C3 10 42 true _ rfl rfl rfl rfl (AO rfl (A0 AY (AU 0 rfl (AJ (AJ (AK (Seg.head)))))))⟩, ⟨_, rfl, C3 10 42 true _ rfl rfl rfl rfl (AR rfl rfl fun _ => FO _ _)⟩, ⟨_, rfl, AL rfl (BD _ rfl rfl rfl)⟩, CG rfl rfl rfl, ⟨_, rfl, AL rfl (AE rfl)⟩, ⟨_, rfl, AL rfl (AE rfl)⟩, ⟨_, rfl, AL rfl (AE rfl)⟩, ⟨_, rfl, AL rfl (AE rfl)⟩, trivial⟩ ?_
     refine C6 (F' := [(2, .bool (decide ((rk) = (2:Int)))), (3, .bool false), (4, .bool (decide ((rk) ≠ (1:Int)))), (5, .bool true)]) (by kernel_rfl) ?_
     refine AC (BI (BH (.tuple #[.bool (decide ((rk) = (2:Int))), .bool false, .bool (decide ((rk) ≠ (1:Int))), .bool true]) (res4 Tryd.results95 (BC rfl) (BC rfl) (BC rfl) (BC rfl)) fun w1 hw1 => ?_))
     refine ⟨_, _, rfl, ⟨_, _, _, ?_, rfl⟩, Hp.one hw1 0 rfl⟩
     have fx0 : er = 0 := by omega
     have fx1 : rk ≠ 4 := by omega
     have fx2 : rk ≠ 1 := by omega
     have fx3 : rk = 2 := by omega
     simp [itB, chB, aB, bB, fx0, fx1, fx2, fx3]
    ·
     have hp5 : ¬ ((rk) = (2:Int)) := of_decide_eq_false hb5
     refine AP 8 24 false _ (Ptr nb1 1) rfl rfl hb5 (AD 1 3 1 AM rfl AT rfl rfl) rfl ?_
     refine AP 8 24 false _ (I64 (rk)) rfl rfl hb5 (AO rfl (A0 AY (AU 0 rfl (AJ (AJ (AK (Seg.head))))))) rfl ?_
     refine AP 8 24 false _ (.bool (decide ((rk) = (3:Int)))) rfl rfl hb5 (AR rfl rfl fun _ => BK _ _) rfl ?_
     refine AA _ (A3 _ rfl hb5 rfl) rfl ?_
     refine AA _ (AF rfl) rfl ?_
     rcases Bool.eq_false_or_eq_true (decide ((rk) = (3:Int))) with hb6 | hb6
     ·
      have hp6 : (rk) = (3:Int) := of_decide_eq_true hb6
      refine AG 13 29 false _ rfl rfl hb6 rfl ?_
      refine AA _ (BD _ rfl hb6 rfl) rfl ?_
      refine AA _ (AE rfl) rfl ?_
      refine AI (AC (AH (DC 48 1 [(0, Ptr nb1 1), (1, I64 (rk)), (2, .bool (decide ((rk) = (1:Int)))), (3, .bool (decide ((rk) = (1:Int)))), (4, Ptr nb1 1), (5, I64 (rk)), (6, .bool (decide ((rk) = (2:Int)))), (7, .bool (decide ((rk) = (2:Int)))), (8, .bool false), (9, .bool true), (10, .bool true), (11, Ptr nb1 1), (12, I64 (rk)), (13, .bool (decide ((rk) ≠ (1:Int)))), (14, .bool (decide ((rk) ≠ (1:Int)))), (15, .bool true), (16, .bool (decide ((rk) = (2:Int)))), (17, .bool false), (18, .bool (decide ((rk) ≠ (1:Int)))), (19, .bool true)] CA rfl (by decide +kernel) ?_)))
      refine DU ⟨[], [0, 1, 2, 3, 4, 5, 6, 7, 8, 9, 10, 11, 12, 13, 14, 15, 16, 17, 18, 19], [], [0, 1, 2, 3, 4, 5, 6, 7, 8, 9, 10, 11, 12, 13, 14, 15, 16, 17, 18, 19], []⟩ rfl rfl (by decide +kernel) rfl ⟨⟨_, rfl, AL rfl (AD 1 3 1 AM rfl AT rfl rfl)⟩, ⟨_, rfl, AL rfl (AO rfl (A0 AY (AU 0 rfl (AJ (AJ (AK (Seg.head)))))))⟩, ⟨_, rfl, AL rfl (AR rfl rfl fun _ => BK _ _)⟩, CG rfl rfl rfl, ⟨_, rfl, C3 3 35 false _ rfl rfl rfl hb4 (AD 1 3 1 AM rfl AT rfl rfl)⟩, ⟨_, rfl, C3 3 35 false _ rfl rfl rfl hb4 (AO rfl (A0 AY (AU 0 rfl (AJ (AJ (AK (Seg.head)))))))⟩, ⟨_, rfl, C3 3 35 false _ rfl rfl rfl hb4 (AR rfl rfl fun _ => BK _ _)⟩, ⟨_, rfl, AL rfl (A3 _ rfl hb4 rfl)⟩, CG rfl rfl rfl, CG rfl rfl rfl, CG rfl rfl rfl, ⟨_, rfl, C3 10 42 true _ rfl rfl rfl rfl (AD 1 3 1 AM rfl AT rfl rfl)⟩, ⟨_, rfl, C3 10 42 true _ rfl rfl rfl rfl (AO rfl (A0 AY (AU 0 rfl (AJ (AJ (AK (Seg.head)))))))⟩, ⟨_, rfl, C3 10 42 true _ rfl rfl rfl rfl (AR rfl rfl fun _ => FO _ _)⟩, ⟨_, rfl, AL rfl (BD _ rfl rfl rfl)⟩, CG rfl rfl rfl, ⟨_, rfl, AL rfl (AE rfl)⟩, ⟨_, rfl, AL rfl (AE rfl)⟩, ⟨_, rfl, AL rfl (AE rfl)⟩, ⟨_, rfl, AL rfl (AE rfl)⟩, trivial⟩ ?_
      refine C6 (F' := [(2, .bool (decide ((rk) = (2:Int)))), (3, .bool false), (4, .bool (decide ((rk) ≠ (1:Int)))), (5, .bool true)]) (by kernel_rfl) ?_
      refine AC (BI (BH (.tuple #[.bool (decide ((rk) = (2:Int))), .bool false, .bool (decide ((rk) ≠ (1:Int))), .bool true]) (res4 Tryd.results95 (BC rfl) (BC rfl) (BC rfl) (BC rfl)) fun w1 hw1 => ?_))
      refine ⟨_, _, rfl, ⟨_, _, _, ?_, rfl⟩, Hp.one hw1 0 rfl⟩
      have fx0 : er = 0 := by omega
      have fx1 : rk ≠ 4 := by omega
      have fx2 : rk ≠ 1 := by omega
      have fx3 : rk ≠ 2 := by omega
      have fx4 : rk = 3 := by omega
      simp [itB, chB, aB, bB, fx0, fx1, fx2, fx3, fx4]
     ·
      have hp6 : ¬ ((rk) = (3:Int)) := of_decide_eq_false hb6
      refine AP 13 29 false _ _ rfl rfl hb6 (AF rfl) rfl ?_
      refine AA _ (A3 _ rfl hb6 rfl) rfl ?_
      refine AA _ (AE rfl) rfl ?_
      refine AI (AC (AH (DC 48 1 [(0, Ptr nb1 1), (1, I64 (rk)), (2, .bool (decide ((rk) = (1:Int)))), (3, .bool (decide ((rk) = (1:Int)))), (4, Ptr nb1 1), (5, I64 (rk)), (6, .bool (decide ((rk) = (2:Int)))), (7, .bool (decide ((rk) = (2:Int)))), (8, .bool false), (9, .bool false), (10, .bool false), (11, undef), (12, undef), (13, undef), (14, .bool false), (15, .bool false), (16, .bool (decide ((rk) = (2:Int)))), (17, .bool false), (18, .bool false), (19, .bool false)] CA rfl (by decide +kernel) ?_)))
      refine DU ⟨[], [0, 1, 2, 3, 4, 5, 6, 7, 8, 9, 10, 11, 12, 13, 14, 15, 16, 17, 18, 19], [], [0, 1, 2, 3, 4, 5, 6, 7, 8, 9, 10, 11, 12, 13, 14, 15, 16, 17, 18, 19], []⟩ rfl rfl (by decide +kernel) rfl ⟨⟨_, rfl, AL rfl (AD 1 3 1 AM rfl AT rfl rfl)⟩, ⟨_, rfl, AL rfl (AO rfl (A0 AY (AU 0 rfl (AJ (AJ (AK (Seg.head)))))))⟩, ⟨_, rfl, AL rfl (AR rfl rfl fun _ => BK _ _)⟩, CG rfl rfl rfl, ⟨_, rfl, C3 3 35 false _ rfl rfl rfl hb4 (AD 1 3 1 AM rfl AT rfl rfl)⟩, ⟨_, rfl, C3 3 35 false _ rfl rfl rfl hb4 (AO rfl (A0 AY (AU 0 rfl (AJ (AJ (AK (Seg.head)))))))⟩, ⟨_, rfl, C3 3 35 false _ rfl rfl rfl hb4 (AR rfl rfl fun _ => BK _ _)⟩, ⟨_, rfl, AL rfl (A3 _ rfl hb4 rfl)⟩, CG rfl rfl rfl, CG rfl rfl rfl, CG rfl rfl rfl, ⟨_, rfl, DN 10 42 true _ rfl rfl rfl rfl⟩, ⟨_, rfl, DN 10 42 true _ rfl rfl rfl rfl⟩, ⟨_, rfl, DN 10 42 true _ rfl rfl rfl rfl⟩, ⟨_, rfl, AL rfl (A3 _ rfl rfl rfl)⟩, CG rfl rfl rfl, ⟨_, rfl, AL rfl (AE rfl)⟩, ⟨_, rfl, AL rfl (AE rfl)⟩, ⟨_, rfl, AL rfl (AE rfl)⟩, ⟨_, rfl, AL rfl (AE rfl)⟩, trivial⟩ ?_
      refine C6 (F' := [(2, .bool (decide ((rk) = (2:Int)))), (3, .bool false), (4, .bool false), (5, .bool false)]) (by kernel_rfl) ?_
      refine AC (BI (BH (.tuple #[.bool (decide ((rk) = (2:Int))), .bool false, .bool false, .bool false]) (res4 Tryd.results95 (BC rfl) (BC rfl) (BC rfl) (BC rfl)) fun w1 hw1 => ?_))
      refine ⟨_, _, rfl, ⟨_, _, _, ?_, rfl⟩, Hp.one hw1 0 rfl⟩
      have fx0 : er = 0 := by omega
      have fx1 : rk ≠ 4 := by omega
      have fx2 : rk ≠ 1 := by omega
      have fx3 : rk ≠ 2 := by omega
      have fx4 : rk ≠ 3 := by omega
      simp [itB, chB, aB, bB, fx0, fx1, fx2, fx3, fx4]
theorem parts_c (rq : UInt64) (rk er : Int) (aj : Option Addr) (nj cj : Nat) (lj : List ItemR) (th : Bool) (pv ep : UInt64) (kd : Int) (ai : Option Addr) (ni ci : Nat) (l : List UInt64) (sa : Option Addr) (ns sc : Nat) (ls : List SealR) (bl : UInt64) (tg : List UInt8) (aha : Option Addr) (nha cha : Nat) (xha : List UInt8) (ahb : Option Addr) (nhb chb : Nat) (xhb : List UInt8) (w : World) (htg : tg.length = 16) : Calls Tryd.prog 95 #[.agg ([U64 rq, I64 (rk), I64 (er), SL aj nj cj, .bool th, U64 pv, U64 ep, I64 (kd), SL ai ni ci, SL sa ns sc, U64 bl] ++ cu8 tg ++ [SL aha nha cha, SL ahb nhb chb]).toArray] w (Post w [] (fun v L => v = .tuple #[.bool (itB er rk), .bool (chB er rk th), .bool (aB er rk th), .bool (bB er rk th)] ∧ L = [])) := by
 refine (partsG_c rq rk er aj nj cj lj th pv ep kd ai ni ci l sa ns sc ls bl tg aha nha cha xha ahb nhb chb xhb w htg).mono ?_
 rintro E W ⟨v, L, rfl, ⟨_, _, _, hv, _⟩, hw⟩
 exact ⟨v, [], rfl, ⟨hv, rfl⟩, hw.sub (by simp) (by simp)⟩
end Go.Proofs.YtkdpdgpphpngeaaDoor
