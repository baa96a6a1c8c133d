import Derived.Test.YtkdpdgpphpngeaaDoorPkB5
set_option linter.unusedVariables false
set_option linter.unusedSimpArgs false
set_option maxRecDepth 100000
namespace Go.Proofs.YtkdpdgpphpngeaaDoor
open Go Go.Sx
open Go.Value renaming slice → SL
attribute [local irreducible] mid zr8 numK valK constL initL putL RightB tktT mayN idxT selT blankB spanB reqR plainV itB chB bB aB c1B c2B c3B c4B repR repT LargeQ eQ vQ bQ sQ ixQ seQ fQ fN
theorem bld31_01 {w : World} {v0 : Value} {v1 : Value} (h0 : v0.cells = [v0].toArray) (h1 : v1.cells = [v1].toArray) : (Instr.build 31 ([(0, v0), (1, v1)] : List (Nat × Value)).toArray).run Tryd.prog w = .ok (.agg ((((((([v0] : List Value) ++ ([v1] : List Value)) ++ ([.slice none 0 0] : List Value)) ++ ([U64 0] : List Value)) ++ ([I64 0] : List Value)) ++ ([U64 0, U64 0, I64 0, .slice none 0 0, .slice none 0 0, U64 0] ++ cu8 (zr8 16) : List Value)) ++ ([U64 0] : List Value)).toArray) w :=
 ET (places := #[(0, 1), (1, 1), (2, 1), (3, 1), (4, 1), (5, 22), (27, 1)]) (Z := (([U64 0] : List Value) ++ (([I64 0] : List Value) ++ (([.slice none 0 0] : List Value) ++ (([U64 0] : List Value) ++ (([I64 0] : List Value) ++ (([U64 0, U64 0, I64 0, .slice none 0 0, .slice none 0 0, U64 0] ++ cu8 (zr8 16) : List Value) ++ (([U64 0] : List Value) ++ [])))))))) (fun _ => by kernel_rfl) AS (fun _ => by kernel_rfl) ((FV ([U64 0] : List Value) (([I64 0] : List Value) ++ (([.slice none 0 0] : List Value) ++ (([U64 0] : List Value) ++ (([I64 0] : List Value) ++ (([U64 0, U64 0, I64 0, .slice none 0 0, .slice none 0 0, U64 0] ++ cu8 (zr8 16) : List Value) ++ (([U64 0] : List Value) ++ [])))))) ([v0] : List Value) h0 (by simp [AO]) rfl).trans ((E2 ([v0] : List Value) ([I64 0] : List Value) (([.slice none 0 0] : List Value) ++ (([U64 0] : List Value) ++ (([I64 0] : List Value) ++ (([U64 0, U64 0, I64 0, .slice none 0 0, .slice none 0 0, U64 0] ++ cu8 (zr8 16) : List Value) ++ (([U64 0] : List Value) ++ []))))) ([v1] : List Value) h1 (by simp [AO]) rfl).trans ((EW (([v0] : List Value) ++ ([v1] : List Value)) ([.slice none 0 0] : List Value) (([U64 0] : List Value) ++ (([I64 0] : List Value) ++ (([U64 0, U64 0, I64 0, .slice none 0 0, .slice none 0 0, U64 0] ++ cu8 (zr8 16) : List Value) ++ (([U64 0] : List Value) ++ []))))).trans ((EW ((([v0] : List Value) ++ ([v1] : List Value)) ++ ([.slice none 0 0] : List Value)) ([U64 0] : List Value) (([I64 0] : List Value) ++ (([U64 0, U64 0, I64 0, .slice none 0 0, .slice none 0 0, U64 0] ++ cu8 (zr8 16) : List Value) ++ (([U64 0] : List Value) ++ [])))).trans ((EW (((([v0] : List Value) ++ ([v1] : List Value)) ++ ([.slice none 0 0] : List Value)) ++ ([U64 0] : List Value)) ([I64 0] : List Value) (([U64 0, U64 0, I64 0, .slice none 0 0, .slice none 0 0, U64 0] ++ cu8 (zr8 16) : List Value) ++ (([U64 0] : List Value) ++ []))).trans ((EW ((((([v0] : List Value) ++ ([v1] : List Value)) ++ ([.slice none 0 0] : List Value)) ++ ([U64 0] : List Value)) ++ ([I64 0] : List Value)) ([U64 0, U64 0, I64 0, .slice none 0 0, .slice none 0 0, U64 0] ++ cu8 (zr8 16) : List Value) (([U64 0] : List Value) ++ [])).trans ((EW (((((([v0] : List Value) ++ ([v1] : List Value)) ++ ([.slice none 0 0] : List Value)) ++ ([U64 0] : List Value)) ++ ([I64 0] : List Value)) ++ ([U64 0, U64 0, I64 0, .slice none 0 0, .slice none 0 0, U64 0] ++ cu8 (zr8 16) : List Value)) ([U64 0] : List Value) []).trans (by simp [Instr.fill]))))))))
set_option maxHeartbeats 4000000 in
theorem parq_c (ax : Option Addr) (n c : Nat) (z0 : List UInt8)  (w : World) (ha : ax.isNone = false) (hz : z0.length = n) (hn : n ≤ 2000000000) (hc : n ≤ c) (hcm : c ≤ maxLen) (hr : RdB w [] ax z0)  : Calls Tryd.prog 53 #[SL ax n c] w (Post w [] (fun v L => (∃ sq qk niq lq fs mn pv ep kd ni l ns ls bl tg eq g0 cs0 T0 a0 c0 g1 cs1 T1 a1 c1 g2 cs2 T2 a2 c2, GRq z0 sq qk lq fs mn pv ep kd l ls bl tg eq ∧ lq.length = niq ∧ l.length = ni ∧ ls.length = ns ∧ tg.length = 16 ∧ niq ≤ 256 ∧ ni ≤ 256 ∧ ns ≤ 256 ∧ v = .tuple #[.agg (V1 sq qk a0 niq c0 fs mn pv ep kd a1 ni c1 a2 ns c2 bl tg eq).toArray, .nilIface] ∧ L = [(Ez g0 cs0 T0), (Ez g1 cs1 T1), (Ez g2 cs2 T2)] ∧ Gh (cu64 lq) g0 cs0 a0 ∧ niq ≤ c0 ∧ c0 ≤ maxLen ∧ Gh (cu64 l) g1 cs1 a1 ∧ ni ≤ c1 ∧ c1 ≤ maxLen ∧ Gh (ls.flatMap sealC) g2 cs2 a2 ∧ ns ≤ c2 ∧ c2 ≤ maxLen) ∨ (BadRq z0 ∧ v = .tuple #[.agg (V6).toArray, .iface 50 (I64 2)] ∧ L = []))) := by
 have hmx : maxLen = 9223372036854775807 := rfl
 have hk8 := vQ_lt1 z0 8
 have hk9 := vQ_lt1 z0 17
 have hk10 := vQ_lt1 z0 21
 have hmQ : mQ z0 = (vQ z0 17 1).toNat + 1 := rfl
 refine enter w [] 67 [] [SL ax n c] Tryd.func53 rfl rfl (by simp) (BZ (by simp) (by simp) (by simp)) ?_
 show JC _ _ _ [(0, SL ax n c)] _
 refine AF (AC (A2 (C4 _ (V6) Tryd.zeroValue31 (by kernel_rfl)) rfl ?_))
 rintro v1 L1 ⟨nb1, hnb1, rfl, rfl⟩
 show JL _ _ _ _ (_ :: _) [_]
 refine AA _ (AE rfl) rfl ?_
 refine AJ (AD (AF (AC (AA _ (AG rfl) rfl ?_))))
 refine A2 (C6 59 _ _ (AV _ Tryd.call59 rfl) (fun w1 hw1 => fromQ_w ax n c z0 w1 ha hz (by omega) (hr.at (M' := []) hw1 (by simp)))) rfl ?_
 rintro v1 L1 ⟨_, ⟨nb2, nb3, sp1, cp1, rfl, rfl, hc1, hc2, hc3⟩, rfl⟩
 show JL _ _ _ _ ((8, Ptr nb2 0) :: _) [_, (Ez nb2 [errV 50 (eQ z0 0), SL (some ⟨nb3, 0, none⟩) n cp1] 204), (Ez nb3 (cu8 z0 ++ sp1) 5)]
 refine AA _ (AE rfl) rfl ?_
 refine AJ (AD (AF (AC (AA _ (AG rfl) rfl ?_))))
 have hz1 : (z0).length = n := hz
 refine A2 (BD 109 _ [false, true, false] [nb2] _ (AV _ C7 rfl) rfl (fun w1 hw1 => FD nb2 0 8 (some ⟨nb3, 0, none⟩) n cp1 z0 z0 w1 (hw1.en 1 rfl) hz (by omega) (by omega) (by omega) ((fun _ _ h => h) _ _ (RdB.of hw1 (AR 2 rfl (AI (AN _))) (hw1.nm 2 1 rfl rfl (by decide)))) (Lq.zero z0) (by unfold Szd; omega))) rfl ?_
 rintro v1 L1 ⟨_, ⟨rfl, ao1, zz1, ca1, hq1, ⟨hA1, hb1, hb2, hb3⟩, rfl⟩, rfl⟩
 show JL _ _ _ _ ((10, U64 (vQ z0 0 8)) :: _) [_, _, (Ez nb2 [errV 50 (eQ z0 8), SL ao1 zz1.length ca1] 204)]
 refine AA _ (AG rfl) rfl ?_
 refine A2 (BD 109 _ [false, false, true] [nb2] _ (AV _ C7 rfl) rfl (fun w1 hw1 => FD nb2 8 1 ao1 zz1.length ca1 z0 zz1 w1 (hw1.en 2 rfl) rfl (by omega) (by omega) (by omega) (hA1 _ _ (RdB.of hw1 (AR 1 rfl (AI (AN _))) (hw1.nm 1 2 rfl rfl (by decide)))) hq1 (by unfold Szd; omega))) rfl ?_
 rintro v1 L1 ⟨_, ⟨rfl, ao2, zz2, ca2, hq2, ⟨hA2, hb4, hb5, hb6⟩, rfl⟩, rfl⟩
 show JL _ _ _ _ ((12, U64 (vQ z0 8 1)) :: _) [_, _, (Ez nb2 [errV 50 (eQ z0 9), SL ao2 zz2.length ca2] 204)]
 refine AA (I64 (((vQ z0 8 1).toNat:Int))) (CV _ _ rfl fun _ => E5 (by rw [AU]; rfl) A4 (vQ z0 8 1) _ rfl (by omega)) rfl ?_
 refine AA (.agg (V1 (vQ z0 0 8) (((vQ z0 8 1).toNat:Int)) none 0 0 0 0 0 0 0 none 0 0 none 0 0 0 (zr8 16) 0).toArray) (CY [(0, U64 (vQ z0 0 8)), (1, I64 (((vQ z0 8 1).toNat:Int)))] _ rfl (fun _ => bld31_01 rfl rfl)) rfl ?_
 refine A2 (C4 _ (V6) Tryd.zeroValue31 (by kernel_rfl)) rfl ?_
 rintro v1 L1 ⟨nb4, hnb4, rfl, rfl⟩
 show JL _ _ _ _ (_ :: _) [_, _, _, _]
 refine A7 (BS 3 nb4 28 _ 31 (V1 (vQ z0 0 8) (((vQ z0 8 1).toNat:Int)) none 0 0 0 0 0 0 0 none 0 0 none 0 0 0 (zr8 16) 0) rfl rfl rfl BX (by simp [(AO 16)]) (B0 (B0 (by simp [Value.oneCell']) CZ) (by simp [Value.oneCell'])) (by simp [(AO 16)]) (BW (by simp [(AO 16), (AO 16)]))) rfl ?_
 show JL _ _ _ _ _ [_, _, _, _]
 refine AJ (AD (AF (AF (AC (AA (Ptr nb4 1) (AB 1 3 1 AS rfl AW rfl rfl) rfl ?_)))))
 refine AA _ (AL rfl (AX A0 (AR 3 rfl (AI (AI (AH (Seg.head))))))) rfl ?_
 refine AA (.bool (decide ((((vQ z0 8 1).toNat:Int)) = (3:Int)))) (AT rfl rfl fun _ => BP _ _) rfl ?_
 refine AJ (AD (CC (decide ((((vQ z0 8 1).toNat:Int)) = (3:Int))) rfl (fun hb7 => ?_) (fun hb7 => ?_)))
 ·
  have hp7 : (((vQ z0 8 1).toNat:Int)) = (3:Int) := of_decide_eq_true hb7
  refine AC (AA _ (AG rfl) rfl ?_)
  refine A2 (BD 60 _ [false, false, true, false] [nb2] _ (AV _ Tryd.call60 rfl) rfl (fun w1 hw1 => treadU_w nb2 9 ao2 zz2.length ca2 z0 zz2 w1 (hw1.en 2 rfl) rfl (by omega) (by omega) (by omega) ((fun w M h => hA2 w M (hA1 w M h)) _ _ (RdB.of hw1 (AR 1 rfl (AI (AN _))) (hw1.nm 1 2 rfl rfl (by decide)))) hq2)) rfl ?_
  rintro v1 L1 ⟨_, ⟨tv1, te1, tk1, tn1, tl1, tm1, ts1, tb1, tg1, tt1, tq1, ao3, zz3, ca3, ng1, cs1, nT1, na1, nc1, ng2, cs2, nT2, na2, nc2, hT1, hpq1, hc4, hc5, hc6, hc7, hc8, hq3, ⟨hA3, hb8, hb9, hb10⟩, rfl, rfl, hc9, hc10, hc11, hc12, hc13, hc14⟩, rfl⟩
  show JL _ _ _ _ ((19, .agg (V2 tv1 te1 (tk1) na1 tn1 nc1 na2 tm1 nc2 tb1 tg1).toArray) :: _) [_, _, _, (Ez nb2 [errV 50 (eQ z0 tq1), SL ao3 zz3.length ca3] 204), (Ez ng1 cs1 nT1), (Ez ng2 cs2 nT2)]
  refine AA (Ptr nb4 5) (AB 5 29 22 AS rfl BB rfl rfl) rfl ?_
  refine A7 (C0 2 nb4 5 22 _ 31 (.agg (V2 tv1 te1 (tk1) na1 tn1 nc1 na2 tm1 nc2 tb1 tg1).toArray) (V2 tv1 te1 (tk1) na1 tn1 nc1 na2 tm1 nc2 tb1 tg1) (V1 (vQ z0 0 8) (((vQ z0 8 1).toNat:Int)) none 0 0 0 0 tv1 te1 (tk1) na1 tn1 nc1 na2 tm1 nc2 tb1 tg1 0) rfl rfl rfl (by first | rfl | simp) BB (by simp [hc6]) (B0 (by simp [Value.oneCell']) CZ) (by simp [(AO 16)]) (lay_splice (a := [U64 (vQ z0 0 8), I64 (((vQ z0 8 1).toNat:Int)), SL none 0 0, U64 0, I64 0]) (b := V5) (c := [U64 0]) (by simp only [List.append_assoc, List.cons_append, List.nil_append, List.append_nil]) (by simp [(AO 16), hc6]) (by simp [(AO 16), hc6]) (by simp only [List.append_assoc, List.cons_append, List.nil_append, List.append_nil]))) rfl ?_
  show JL _ _ _ _ _ [_, _, _, _, _, _]
  refine AJ (AD (AF (AF (AC (AA (Ptr nb4 1) (AB 1 3 1 AS rfl AW rfl rfl) rfl ?_)))))
  refine AA _ (AL rfl (AX A0 (AR 2 rfl (AI (AI (AH (Seg.head))))))) rfl ?_
  refine AJ (AD (B5 (AF (AC (AA (.bool (decide ((((vQ z0 8 1).toNat:Int)) = (1:Int)))) (AT rfl rfl fun _ => BP _ _) rfl ?_)))))
  refine AA _ (AE rfl) rfl ?_
  refine AJ (AD (BT _ rfl (decide_eq_false (by have h9 := of_decide_eq_true hb7; omega)) ?_))
  refine AF (AC (AA (.bool (decide ((((vQ z0 8 1).toNat:Int)) = (2:Int)))) (AT rfl rfl fun _ => BP _ _) rfl ?_))
  refine AA _ (AE rfl) rfl ?_
  refine AJ (AD (BT _ rfl (decide_eq_false (by have h9 := of_decide_eq_true hb7; omega)) ?_))
  refine BH (BU (AD (AF (AF (AC (AA _ (AG rfl) rfl ?_))))))
  refine A7 (A3 63 _ (errV 50 (endN (eQ z0 tq1) zz3.length)) (AV _ EE rfl) (fun w1 hw1 => end_w nb2 (eQ z0 tq1) ao3 zz3.length ca3 w1 (RdA.of hw1 (AR 3 rfl (AN _)) (by simp)))) rfl ?_
  show JL _ _ _ _ ((57, errV 50 (endN (eQ z0 tq1) zz3.length)) :: _) [_, _, _, _, _, _]
  refine AA (.bool (!(decide (endN (eQ z0 tq1) zz3.length = 0)))) (DM _ _ _ rfl rfl (fun _ => CE ..) fun _ => DW BG _ _) rfl ?_
  refine AA _ (AG rfl) rfl ?_
  rcases Bool.eq_false_or_eq_true (decide (endN (eQ z0 tq1) zz3.length = 0)) with hb11 | hb11
  ·
   have hp11 : endN (eQ z0 tq1) zz3.length = 0 := of_decide_eq_true hb11
   refine AM 3 59 false _ _ rfl rfl (bnotT hb11) (AL rfl (BR CW BX (by simp [hc6]) (AR 2 rfl (AN _)))) rfl ?_
   refine DC 3 59 false _ rfl rfl (bnotT hb11) (A3 22 _ (.bool (reqR (((vQ z0 8 1).toNat:Int)) ([] : List UInt64) (0:UInt64) (0:Int) (0:UInt64) (blankB tv1 te1 (tk1) tl1 ts1 tb1 tg1) (decide (mayN tv1 te1 (tk1) tl1 ts1 tb1 = 0)))) (AV _ Tryd.call22 rfl) (fun w1 hw1 => FP (vQ z0 0 8) (((vQ z0 8 1).toNat:Int)) none 0 0 ([] : List UInt64) (0:UInt64) (0:Int) tv1 te1 (tk1) na1 tn1 nc1 tl1 na2 tm1 nc2 ts1 tb1 tg1 (0:UInt64) w1 rfl (by omega) (by omega) (by omega) RdV.nil hc4 (by omega) (by omega) (by omega) (Gh.at hw1 4 rfl hc9) hc5 (by omega) (by omega) (by omega) (Gh.at hw1 5 rfl hc12) hc6 (by omega) (by omega))) rfl ?_
   rintro v1 L1 ⟨rfl, rfl⟩
   show JL _ _ _ _ ((61, .bool (reqR (((vQ z0 8 1).toNat:Int)) ([] : List UInt64) (0:UInt64) (0:Int) (0:UInt64) (blankB tv1 te1 (tk1) tl1 ts1 tb1 tg1) (decide (mayN tv1 te1 (tk1) tl1 ts1 tb1 = 0)))) :: _) [_, _, _, _, _, _]
   refine AM 3 59 false _ (.bool (!(reqR (((vQ z0 8 1).toNat:Int)) ([] : List UInt64) (0:UInt64) (0:Int) (0:UInt64) (blankB tv1 te1 (tk1) tl1 ts1 tb1 tg1) (decide (mayN tv1 te1 (tk1) tl1 ts1 tb1 = 0))))) rfl rfl (bnotT hb11) (D1 rfl) rfl (AA _ (A5 _ rfl (bnotT hb11) rfl) rfl ?_)
   refine AJ (AD (CC (!(reqR (((vQ z0 8 1).toNat:Int)) ([] : List UInt64) (0:UInt64) (0:Int) (0:UInt64) (blankB tv1 te1 (tk1) tl1 ts1 tb1 tg1) (decide (mayN tv1 te1 (tk1) tl1 ts1 tb1 = 0)))) rfl (fun hb12 => ?_) (fun hb12 => ?_)))
   ·
    have hb13 : (reqR (((vQ z0 8 1).toNat:Int)) ([] : List UInt64) (0:UInt64) (0:Int) (0:UInt64) (blankB tv1 te1 (tk1) tl1 ts1 tb1 tg1) (decide (mayN tv1 te1 (tk1) tl1 ts1 tb1 = 0))) = false := by simpa using hb12
    refine AF (AC (AA (.agg (V6).toArray) (CY [] _ rfl (fun _ => by kernel_rfl)) rfl ?_))
    refine AA (.iface 50 (I64 2)) (DH BN rfl rfl) rfl ?_
    refine A7 (BS 0 nb1 28 _ 31 (V6) rfl rfl rfl BX (by simp [(AO 16)]) (B0 (B0 (by simp [Value.oneCell']) CZ) (by simp [Value.oneCell'])) (by simp [(AO 16)]) (BW (by simp [(AO 16), (AO 16)]))) rfl ?_
    show JL _ _ _ _ _ [_, _, _, _, _, _]
    refine AA _ (AE rfl) rfl ?_
    refine AJ (AD (BK (A6 (BJ (.tuple #[.agg (V6).toArray, .iface 50 (I64 2)]) (res2 EG (DQ rfl (BR CW BX (by simp [(AO 16)]) (AR 0 rfl (AN _)))) (BF rfl)) fun w1 hw1 => ?_))))
    have hR := RqR.k3 (kQT (k := 3) (by decide) hb7) hT1
    have he : tq1 = z0.length := (GA hq3).1 (by have h9 := of_decide_eq_true hb11; omega)
    exact ⟨_, [], rfl, .inr ⟨BadRq.of hR (fun _ => hb13), rfl, rfl⟩, hw1.no⟩
   ·
    have hb14 : (reqR (((vQ z0 8 1).toNat:Int)) ([] : List UInt64) (0:UInt64) (0:Int) (0:UInt64) (blankB tv1 te1 (tk1) tl1 ts1 tb1 tg1) (decide (mayN tv1 te1 (tk1) tl1 ts1 tb1 = 0))) = true := by simpa using hb12
    refine BH (AD (AF (AC (AA _ (AL rfl (BR CW BX (by simp [hc6]) (AR 2 rfl (AN _)))) rfl ?_))))
    refine A7 (BS 0 nb1 28 _ 31 (V1 (vQ z0 0 8) (((vQ z0 8 1).toNat:Int)) none 0 0 0 0 tv1 te1 (tk1) na1 tn1 nc1 na2 tm1 nc2 tb1 tg1 0) rfl rfl rfl BX (by simp [hc6]) (B0 (B0 (by simp [Value.oneCell']) CZ) (by simp [Value.oneCell'])) (by simp [(AO 16)]) (BW (by simp [(AO 16), hc6]))) rfl ?_
    show JL _ _ _ _ _ [_, _, _, _, _, _]
    refine AA _ (AE rfl) rfl ?_
    refine AJ (AD (BK (BJ (.tuple #[.agg (V1 (vQ z0 0 8) (((vQ z0 8 1).toNat:Int)) none 0 0 0 0 tv1 te1 (tk1) na1 tn1 nc1 na2 tm1 nc2 tb1 tg1 0).toArray, .nilIface]) (res2 EG (DQ rfl (BR CW BX (by simp [hc6]) (AR 0 rfl (AN _)))) (BF rfl)) fun w1 hw1 => ?_)))
    have hR := RqR.k3 (kQT (k := 3) (by decide) hb7) hT1
    have he : tq1 = z0.length := (GA hq3).1 (by have h9 := of_decide_eq_true hb11; omega)
    have hz9 : 9 + tt1 = z0.length := by omega
    rw [hz9] at hR
    exact ⟨_, _, rfl, .inl ⟨_, _, 0, _, _, _, _, _, _, tn1, _, tm1, _, _, _, _, _, _, _, none, 0, _, _, _, na1, nc1, _, _, _, na2, nc2, ⟨hR, hb14⟩, rfl, hc4, hc5, hc6, (by omega), hc7, hc8, rfl, rfl, .inl rfl, by first | omega | (unfold maxLen; omega), by first | omega | (unfold maxLen; omega), hc9, by first | omega | (unfold maxLen; omega), by first | omega | (unfold maxLen; omega), hc12, by first | omega | (unfold maxLen; omega), by first | omega | (unfold maxLen; omega)⟩, FC hw1 3 4 5 rfl rfl rfl (by decide) (by decide) (by decide)⟩
  ·
   have hp11 : ¬ (endN (eQ z0 tq1) zz3.length = 0) := of_decide_eq_false hb11
   refine A9 3 3 59 false _ rfl rfl (bnotF hb11) rfl (AA _ (BA _ rfl (bnotF hb11) rfl) rfl ?_)
   refine AJ (AD (CH _ rfl rfl ?_))
   refine AF (AC (AA (.agg (V6).toArray) (CY [] _ rfl (fun _ => by kernel_rfl)) rfl ?_))
   refine AA (.iface 50 (I64 2)) (DH BN rfl rfl) rfl ?_
   refine A7 (BS 0 nb1 28 _ 31 (V6) rfl rfl rfl BX (by simp [(AO 16)]) (B0 (B0 (by simp [Value.oneCell']) CZ) (by simp [Value.oneCell'])) (by simp [(AO 16)]) (BW (by simp [(AO 16), (AO 16)]))) rfl ?_
   show JL _ _ _ _ _ [_, _, _, _, _, _]
   refine AA _ (AE rfl) rfl ?_
   refine AJ (AD (BK (A6 (BJ (.tuple #[.agg (V6).toArray, .iface 50 (I64 2)]) (res2 EG (DQ rfl (BR CW BX (by simp [(AO 16)]) (AR 0 rfl (AN _)))) (BF rfl)) fun w1 hw1 => ?_))))
   have hR := RqR.k3 (kQT (k := 3) (by decide) hb7) hT1
   have hne : tq1 ≠ z0.length := fun e => (of_decide_eq_false hb11) ((GA hq3).2 e)
   exact ⟨_, [], rfl, .inr ⟨BadRq.of hR (fun e => absurd e (by omega)), rfl, rfl⟩, hw1.no⟩
 ·
  have hp7 : ¬ ((((vQ z0 8 1).toNat:Int)) = (3:Int)) := of_decide_eq_false hb7
  refine AC (AA _ (AG rfl) rfl ?_)
  refine A2 (BD 109 _ [false, false, true, false] [nb2] _ (AV _ C7 rfl) rfl (fun w1 hw1 => FD nb2 9 8 ao2 zz2.length ca2 z0 zz2 w1 (hw1.en 2 rfl) rfl (by omega) (by omega) (by omega) ((fun w M h => hA2 w M (hA1 w M h)) _ _ (RdB.of hw1 (AR 1 rfl (AI (AN _))) (hw1.nm 1 2 rfl rfl (by decide)))) hq2 (by unfold Szd; omega))) rfl ?_
  rintro v1 L1 ⟨_, ⟨rfl, ao4, zz4, ca4, hq4, ⟨hA4, hb15, hb16, hb17⟩, rfl⟩, rfl⟩
  show JL _ _ _ _ ((22, U64 (vQ z0 9 8)) :: _) [_, _, _, (Ez nb2 [errV 50 (eQ z0 17), SL ao4 zz4.length ca4] 204)]
  refine AA (Ptr nb4 27) (AB 27 22 1 AS rfl A1 rfl rfl) rfl ?_
  refine A7 (C0 2 nb4 27 1 _ 31 (U64 (vQ z0 9 8)) ([U64 (vQ z0 9 8)]) (V1 (vQ z0 0 8) (((vQ z0 8 1).toNat:Int)) none 0 0 0 0 0 0 0 none 0 0 none 0 0 0 (zr8 16) (vQ z0 9 8)) rfl rfl rfl rfl A1 rfl (by simp [Value.oneCell']) (by simp [(AO 16)]) (E6 27 0 (by simp [(AO 16)]) rfl (BW (by simp [])))) rfl ?_
  show JL _ _ _ _ _ [_, _, _, _]
  refine AJ (AD (AF (AF (AC (AA (Ptr nb4 1) (AB 1 3 1 AS rfl AW rfl rfl) rfl ?_)))))
  refine AA _ (AL rfl (AX A0 (AR 2 rfl (AI (AI (AH (Seg.head))))))) rfl ?_
  refine AJ (AD (B5 (AF (AC (AA (.bool (decide ((((vQ z0 8 1).toNat:Int)) = (1:Int)))) (AT rfl rfl fun _ => BP _ _) rfl ?_)))))
  refine AA _ (AE rfl) rfl ?_
  refine AJ (AD (CC (decide ((((vQ z0 8 1).toNat:Int)) = (1:Int))) rfl (fun hb18 => ?_) (fun hb18 => ?_)))
  ·
   have hp18 : (((vQ z0 8 1).toNat:Int)) = (1:Int) := of_decide_eq_true hb18
   refine AF (AC (AA _ (AG rfl) rfl ?_))
   refine A2 (BD 109 _ [false, false, false, true] [nb2] _ (AV _ C7 rfl) rfl (fun w1 hw1 => FD nb2 17 1 ao4 zz4.length ca4 z0 zz4 w1 (hw1.en 3 rfl) rfl (by omega) (by omega) (by omega) ((fun w M h => hA4 w M (hA2 w M (hA1 w M h))) _ _ (RdB.of hw1 (AR 1 rfl (AI (AN _))) (hw1.nm 1 3 rfl rfl (by decide)))) hq4 (by unfold Szd; omega))) rfl ?_
   rintro v1 L1 ⟨_, ⟨rfl, ao5, zz5, ca5, hq5, ⟨hA5, hb19, hb20, hb21⟩, rfl⟩, rfl⟩
   show JL _ _ _ _ ((29, U64 (vQ z0 17 1)) :: _) [_, _, _, (Ez nb2 [errV 50 (eQ z0 18), SL ao5 zz5.length ca5] 204)]
   refine AA (I64 (((vQ z0 17 1).toNat:Int))) (CV _ _ rfl fun _ => E5 (by rw [AU]; rfl) A4 (vQ z0 17 1) _ rfl (by omega)) rfl ?_
   refine AA (I64 (((vQ z0 17 1).toNat:Int) + 1)) (AT rfl rfl fun _ => DK _ _ (((vQ z0 17 1).toNat:Int) + 1) (by omega) (by omega)) rfl ?_
   refine AA _ (AE rfl) rfl ?_
   refine AJ (AD (AF ?_))
   obtain ⟨m, hm1, hm2, hm3⟩ := minQ hq5
   refine AC (AA _ (AG rfl) rfl ?_)
   refine AA _ (AG rfl) rfl ?_
   refine A7 (A3 61 _ (I64 ((leftN (eQ z0 18) zz5.length:Int))) (AV _ EA rfl) (fun w1 hw1 => left_w nb2 (eQ z0 18) ao5 zz5.length ca5 w1 (RdA.of hw1 (AR 3 rfl (AN _)) (by simp)))) rfl ?_
   show JL _ _ _ _ ((34, I64 ((leftN (eQ z0 18) zz5.length:Int))) :: _) [_, _, _, _]
   refine AA (I64 m) (Ev_min rfl rfl hm1) rfl (AA _ (AG rfl) rfl ?_)
   refine AJ (AD (B5 (FG [0, 3, 1, 2] (by decide) ?_)))
   show JC _ _ _ _ [_, _, _, _]
   refine EO (ι := (Unit) ⊕ (Nat × List UInt64 × Nat × List Value × Nat × Option Addr × List UInt8 × Nat)) (fun x => match x with | .inl _ => [(2, Ptr nb1 0), (3, .nilIface), (4, Ptr nb2 0), (5, Ptr nb4 0), (35, I64 m), (36, I64 0)] | .inr ⟨i, ll, gb, sp, cp, aa, zz, cc⟩ => [(2, Ptr nb1 0), (3, .nilIface), (4, Ptr nb2 0), (5, Ptr nb4 0), (35, I64 m), (36, I64 i)]) (fun x => match x with | .inl _ => [(Ez nb1 (V6) 31), (Ez nb2 [errV 50 (eQ z0 18), SL ao5 zz5.length ca5] 204), (Ez nb3 (cu8 z0 ++ sp1) 5), (Ez nb4 (V1 (vQ z0 0 8) (((vQ z0 8 1).toNat:Int)) none 0 0 0 0 0 0 0 none 0 0 none 0 0 0 (zr8 16) (vQ z0 9 8)) 31)] | .inr ⟨i, ll, gb, sp, cp, aa, zz, cc⟩ => [(Ez nb1 (V6) 31), (Ez nb2 [errV 50 (eQ z0 (4*i + 18)), SL aa zz.length cc] 204), (Ez nb3 (cu8 z0 ++ sp1) 5), (Ez nb4 ([U64 (vQ z0 0 8), I64 (((vQ z0 8 1).toNat:Int)), Slc gb 0 i cp, U64 0, I64 0, U64 0, U64 0, I64 0, SL none 0 0, SL none 0 0, U64 0] ++ cu8 (zr8 16) ++ [U64 (vQ z0 9 8)]) 31), (Ez gb (cu64 ll ++ sp) 22)]) (fun x => match x with | .inl _ => True | .inr ⟨i, ll, gb, sp, cp, aa, zz, cc⟩ => 0 < i ∧ i ≤ m ∧ ll = ixQ z0 18 i ∧ ll.length = i ∧ sp.length = cp - i ∧ i ≤ cp ∧ cp ≤ maxLen ∧ Lq z0 zz (4*i + 18) ∧ (∀ w M, RdB w M (some ⟨nb3, 0, none⟩) z0 → RdB w M aa zz) ∧ zz.length ≤ cc ∧ cc ≤ maxLen ∧ zz.length ≤ n) (fun x => match x with | .inl _ => m + 2 | .inr ⟨i, ll, gb, sp, cp, aa, zz, cc⟩ => m + 1 - i) (.inl ()) trivial (Sub.all rfl) rfl ?_
   rintro (_ | ⟨i, ll, gb, sp, cp, aa, zz, cc⟩) hx
   ·
    obtain _ := hx
    show JC _ _ _ [_, _, _, _, _, _] [_, _, _, _]
    refine AF (AC (AA (.bool (decide ((0:Int) < ((m:Int))))) (AT rfl rfl fun _ => CL _ _) rfl ?_))
    refine AJ (AD (AF (CC (decide ((0:Int) < ((m:Int)))) rfl (fun hb22 => ?_) (fun hb22 => ?_))))
    ·
     have hp22 : (0:Int) < ((m:Int)) := of_decide_eq_true hb22
     refine BH (AD (AF (B5 (DB 67 5 [(0, Ptr nb4 2), (1, SL none 0 0), (2, Ptr nb2 0)] B6 rfl (by decide +kernel) ?_))))
     refine C2 ⟨[], [0, 1, 2], [], [0, 1, 2], [3]⟩ 3 _ rfl rfl (by decide +kernel) rfl ⟨AP rfl rfl (AB 2 23 1 AS rfl BV rfl rfl), AP rfl rfl (AL rfl (AX B4 (AR 3 rfl (AI (AI (AH (AH (Seg.head)))))))), CB rfl rfl rfl, trivial⟩ rfl (BO rfl (BD 109 _ [false, true, false, false] [nb2] _ (AV _ C7 rfl) rfl (fun w1 hw1 => FD nb2 18 4 ao5 zz5.length ca5 z0 zz5 w1 (hw1.en 1 rfl) rfl (by omega) (by omega) (by omega) ((fun w M h => hA5 w M (hA4 w M (hA2 w M (hA1 w M h)))) _ _ (RdB.of hw1 (AR 2 rfl (AI (AN _))) (hw1.nm 2 1 rfl rfl (by decide)))) hq5 (by unfold Szd; omega)))) ?_
     rintro v1 L1 ⟨_, ⟨rfl, ao6, zz6, ca6, hq6, ⟨hA6, hb23, hb24, hb25⟩, rfl⟩, rfl⟩
     refine ⟨[], ?_⟩
     show DP _ _ _ _ _ _ _ _ [_, _, _, (Ez nb2 [errV 50 (eQ z0 22), SL ao6 zz6.length ca6] 204)]
     refine C2 ⟨[3], [0, 1, 2], [2], [0, 1], [4]⟩ 4 _ rfl rfl (by decide +kernel) rfl ⟨AP rfl rfl (AB 2 23 1 AS rfl BV rfl rfl), AP rfl rfl (AL rfl (AX B4 (AR 2 rfl (AI (AI (AH (AH (Seg.head)))))))), trivial⟩ rfl (BO rfl (DF 22 1 _ [(0, U64 (vQ z0 18 4))] ([U64 (vQ z0 18 4)]) BL A1 Tryd.zeroValue22 rfl rfl rfl (by kernel_rfl))) ?_
     rintro v1 L1 ⟨nb5, hnb5, rfl, rfl⟩
     refine ⟨[], ?_⟩
     show DP _ _ _ _ _ _ _ _ [_, _, _, _, (Ez nb5 [U64 (vQ z0 18 4)] 22)]
     refine C2 ⟨[3, 4], [0, 1, 2], [2], [0, 1], [5]⟩ 5 _ rfl rfl (by decide +kernel) rfl ⟨AP rfl rfl (AB 2 23 1 AS rfl BV rfl rfl), AP rfl rfl (AL rfl (AX B4 (AR 2 rfl (AI (AI (AH (AH (Seg.head)))))))), trivial⟩ rfl (BO rfl (Step_appM64 23 22 [false, false, false, false, false] (SL none 0 0) 0 ([] : List UInt64) ([vQ z0 18 4]) (some ⟨nb5, 0, none⟩) 1 1 1 BL Tryd.info22 rfl (.inl ⟨rfl, rfl, rfl, rfl, by omega⟩) rfl (by simp) (SrcAt.mem (AR 4 rfl (Seg.head))) (by omega) (by unfold maxLen; omega) (by omega))) ?_
     rintro v1 L1 ⟨nb6, sp2, cp2, hg1, rfl, rfl, ha1, ha2, ha3, ha4⟩
     refine ⟨[(6, Ptr nb4 2)], ?_⟩
     show DP _ _ _ _ _ _ _ _ [_, _, _, _, _, (Ez nb6 (cu64 (([] : List UInt64) ++ ([vQ z0 18 4])) ++ sp2) 22)]
     refine EI ⟨[3, 4, 5], [0, 1, 2, 6], [0, 1, 2], [6], [7]⟩ 7 rfl rfl (by decide +kernel) rfl ⟨AP rfl rfl (AB 2 23 1 AS rfl BV rfl rfl), trivial⟩ rfl (BO rfl (C0 2 nb4 2 1 _ 31 (Slc nb6 0 1 cp2) ([Slc nb6 0 1 cp2]) ([U64 (vQ z0 0 8), I64 (((vQ z0 8 1).toNat:Int)), Slc nb6 0 1 cp2, U64 0, I64 0, U64 0, U64 0, I64 0, SL none 0 0, SL none 0 0, U64 0] ++ cu8 (zr8 16) ++ [U64 (vQ z0 9 8)]) rfl rfl rfl rfl BV rfl (by simp [Value.oneCell']) (by simp [(AO 16)]) (rfl))) ?_
     show DP _ _ _ _ _ _ _ _ [_, _, (Ez nb4 ([U64 (vQ z0 0 8), I64 (((vQ z0 8 1).toNat:Int)), Slc nb6 0 1 cp2, U64 0, I64 0, U64 0, U64 0, I64 0, SL none 0 0, SL none 0 0, U64 0] ++ cu8 (zr8 16) ++ [U64 (vQ z0 9 8)]) 31), _, _, _]
     refine DR ⟨[3, 4, 5, 7], [0, 1, 2, 6], [0, 1, 2, 6], [], []⟩ rfl rfl (by decide +kernel) rfl trivial ?_
     refine C5 (F' := [(38, Ptr nb4 2), (39, SL none 0 0), (40, Ptr nb2 0), (41, U64 (vQ z0 18 4)), (42, Slc nb5 0 1 1), (43, Slc nb6 0 1 cp2), (44, Ptr nb4 2), (2, Ptr nb1 0), (3, .nilIface), (4, Ptr nb2 0), (5, Ptr nb4 0), (35, I64 m), (36, I64 0), (37, .bool (decide ((0:Int) < ((m:Int)))))]) (by kernel_rfl) ?_
     refine BU (AD (AC (AA (I64 1) (AT rfl rfl fun _ => DK _ _ (1:Int) (by omega) (by omega)) rfl ?_)))
     refine AA _ (AG rfl) rfl ?_
     refine AJ (DU (CD [true, true, true, true, false, true] ?_))
     show K _ _ [_, _, _, _, _] _
     refine FG [0, 3, 1, 2, 4] (by decide) ?_
     show K _ _ [_, _, _, _, _] _
     refine EZ (.inr (1, ([] : List UInt64) ++ ([vQ z0 18 4]), nb6, sp2, cp2, ao6, zz6, ca6)) ⟨by omega, by omega, by rw [ixQ_one]; rfl, (ha1).trans (by first | rfl | simp +arith), (ha2).trans (by first | rfl | omega), by omega, by omega, hq6, (fun w M h => hA6 w M (hA5 w M (hA4 w M (hA2 w M (hA1 w M h))))), by omega, by omega, by omega⟩ (by dsimp only; omega) (Sub.all rfl) rfl
    ·
     have hp22 : ¬ ((0:Int) < ((m:Int))) := of_decide_eq_false hb22
     refine EF (BC (BC (CX (BU (AD (AF (AF (AC ?_))))))))
     refine AA _ (AG rfl) rfl ?_
     refine A7 (A3 63 _ (errV 50 (endN (eQ z0 18) zz5.length)) (AV _ EE rfl) (fun w1 hw1 => end_w nb2 (eQ z0 18) ao5 zz5.length ca5 w1 (RdA.of hw1 (AR 1 rfl (AN _)) (by simp)))) rfl ?_
     show JL _ _ _ _ ((57, errV 50 (endN (eQ z0 18) zz5.length)) :: _) [_, _, _, _]
     refine AA (.bool (!(decide (endN (eQ z0 18) zz5.length = 0)))) (DM _ _ _ rfl rfl (fun _ => CE ..) fun _ => DW BG _ _) rfl ?_
     refine AA _ (AG rfl) rfl ?_
     rcases Bool.eq_false_or_eq_true (decide (endN (eQ z0 18) zz5.length = 0)) with hb26 | hb26
     ·
      have hp26 : endN (eQ z0 18) zz5.length = 0 := of_decide_eq_true hb26
      refine AM 3 59 false _ _ rfl rfl (bnotT hb26) (AL rfl (BR CW BX (by simp [(AO 16)]) (AR 3 rfl (AN _)))) rfl ?_
      refine DC 3 59 false _ rfl rfl (bnotT hb26) (A3 22 _ (.bool (reqR (((vQ z0 8 1).toNat:Int)) ([] : List UInt64) (0:UInt64) (0:Int) (vQ z0 9 8) (blankB (0:UInt64) (0:UInt64) (0:Int) ([] : List UInt64) ([] : List SealR) (0:UInt64) (zr8 16)) (decide (mayN (0:UInt64) (0:UInt64) (0:Int) ([] : List UInt64) ([] : List SealR) (0:UInt64) = 0)))) (AV _ Tryd.call22 rfl) (fun w1 hw1 => FP (vQ z0 0 8) (((vQ z0 8 1).toNat:Int)) none 0 0 ([] : List UInt64) (0:UInt64) (0:Int) (0:UInt64) (0:UInt64) (0:Int) none 0 0 ([] : List UInt64) none 0 0 ([] : List SealR) (0:UInt64) (zr8 16) (vQ z0 9 8) w1 rfl (by omega) (by omega) (by omega) RdV.nil rfl (by omega) (by omega) (by omega) RdV.nil rfl (by omega) (by omega) (by omega) RdV.nil (AO 16) (by omega) (by omega))) rfl ?_
      rintro v1 L1 ⟨rfl, rfl⟩
      show JL _ _ _ _ ((61, .bool (reqR (((vQ z0 8 1).toNat:Int)) ([] : List UInt64) (0:UInt64) (0:Int) (vQ z0 9 8) (blankB (0:UInt64) (0:UInt64) (0:Int) ([] : List UInt64) ([] : List SealR) (0:UInt64) (zr8 16)) (decide (mayN (0:UInt64) (0:UInt64) (0:Int) ([] : List UInt64) ([] : List SealR) (0:UInt64) = 0)))) :: _) [_, _, _, _]
      refine AM 3 59 false _ (.bool (!(reqR (((vQ z0 8 1).toNat:Int)) ([] : List UInt64) (0:UInt64) (0:Int) (vQ z0 9 8) (blankB (0:UInt64) (0:UInt64) (0:Int) ([] : List UInt64) ([] : List SealR) (0:UInt64) (zr8 16)) (decide (mayN (0:UInt64) (0:UInt64) (0:Int) ([] : List UInt64) ([] : List SealR) (0:UInt64) = 0))))) rfl rfl (bnotT hb26) (D1 rfl) rfl (AA _ (A5 _ rfl (bnotT hb26) rfl) rfl ?_)
      refine AJ (AD (CH _ rfl (bnotF (by rw [show ((vQ z0 8 1).toNat:Int) = (1:Int) from of_decide_eq_true hb18]; exact reqR_nil)) ?_))
      refine AF (AC (AA (.agg (V6).toArray) (CY [] _ rfl (fun _ => by kernel_rfl)) rfl ?_))
      refine AA (.iface 50 (I64 2)) (DH BN rfl rfl) rfl ?_
      refine A7 (BS 0 nb1 28 _ 31 (V6) rfl rfl rfl BX (by simp [(AO 16)]) (B0 (B0 (by simp [Value.oneCell']) CZ) (by simp [Value.oneCell'])) (by simp [(AO 16)]) (BW (by simp [(AO 16), (AO 16)]))) rfl ?_
      show JL _ _ _ _ _ [_, _, _, _]
      refine AA _ (AE rfl) rfl ?_
      refine AJ (AD (BK (A6 (BJ (.tuple #[.agg (V6).toArray, .iface 50 (I64 2)]) (res2 EG (DQ rfl (BR CW BX (by simp [(AO 16)]) (AR 0 rfl (AN _)))) (BF rfl)) fun w1 hw1 => ?_))))
      have hR := RqR.k1 (kQT (k := 1) (by decide) hb18)
      have he : 18 = z0.length := (GA hq5).1 (by have h9 := of_decide_eq_true hb26; omega)
      exact ⟨_, [], rfl, .inr ⟨BadRq.of hR (fun e => absurd e (by have h8 := mQ_eq z0; omega)), rfl, rfl⟩, hw1.no⟩
     ·
      have hp26 : ¬ (endN (eQ z0 18) zz5.length = 0) := of_decide_eq_false hb26
      refine A9 3 3 59 false _ rfl rfl (bnotF hb26) rfl (AA _ (BA _ rfl (bnotF hb26) rfl) rfl ?_)
      refine AJ (AD (CH _ rfl rfl ?_))
      refine AF (AC (AA (.agg (V6).toArray) (CY [] _ rfl (fun _ => by kernel_rfl)) rfl ?_))
      refine AA (.iface 50 (I64 2)) (DH BN rfl rfl) rfl ?_
      refine A7 (BS 0 nb1 28 _ 31 (V6) rfl rfl rfl BX (by simp [(AO 16)]) (B0 (B0 (by simp [Value.oneCell']) CZ) (by simp [Value.oneCell'])) (by simp [(AO 16)]) (BW (by simp [(AO 16), (AO 16)]))) rfl ?_
      show JL _ _ _ _ _ [_, _, _, _]
      refine AA _ (AE rfl) rfl ?_
      refine AJ (AD (BK (A6 (BJ (.tuple #[.agg (V6).toArray, .iface 50 (I64 2)]) (res2 EG (DQ rfl (BR CW BX (by simp [(AO 16)]) (AR 0 rfl (AN _)))) (BF rfl)) fun w1 hw1 => ?_))))
      have hR := RqR.k1 (kQT (k := 1) (by decide) hb18)
      have hne : 18 ≠ z0.length := fun e => (of_decide_eq_false hb26) ((GA hq5).2 e)
      exact ⟨_, [], rfl, .inr ⟨BadRq.of hR (fun e => absurd e (by have h8 := mQ_eq z0; omega)), rfl, rfl⟩, hw1.no⟩
   ·
    obtain ⟨hi1, hi2, hi3, hi4, hi5, hi6, hi7, hi8, hi9, hi10, hi11, hi12⟩ := hx
    show JC _ _ _ [_, _, _, _, _, _] [_, _, _, _, _]
    refine AF (AC (AA (.bool (decide (((i:Int)) < ((m:Int))))) (AT rfl rfl fun _ => CL _ _) rfl ?_))
    refine AJ (AD (AF (CC (decide (((i:Int)) < ((m:Int)))) rfl (fun hb27 => ?_) (fun hb27 => ?_))))
    ·
     have hp27 : ((i:Int)) < ((m:Int)) := of_decide_eq_true hb27
     refine BH (AD (AF (B5 (DB 67 5 [(0, Ptr nb4 2), (1, Slc gb 0 i cp), (2, Ptr nb2 0)] B6 rfl (by decide +kernel) ?_))))
     refine C2 ⟨[], [0, 1, 2], [], [0, 1, 2], [3]⟩ 3 _ rfl rfl (by decide +kernel) rfl ⟨AP rfl rfl (AB 2 23 1 AS rfl BV rfl rfl), AP rfl rfl (AL rfl (AX B4 (AR 3 rfl (AI (AI (AH (AH (Seg.head)))))))), CB rfl rfl rfl, trivial⟩ rfl (BO rfl (BD 109 _ [false, true, false, false, false] [nb2] _ (AV _ C7 rfl) rfl (fun w1 hw1 => FD nb2 (4*i + 18) 4 aa zz.length cc z0 zz w1 (hw1.en 1 rfl) rfl (by omega) (by omega) (by omega) (hi9 _ _ (RdB.of hw1 (AR 2 rfl (AI (AN _))) (hw1.nm 2 1 rfl rfl (by decide)))) hi8 (by unfold Szd; omega)))) ?_
     rintro v1 L1 ⟨_, ⟨rfl, ao7, zz7, ca7, hq7, ⟨hA7, hb28, hb29, hb30⟩, rfl⟩, rfl⟩
     refine ⟨[], ?_⟩
     show DP _ _ _ _ _ _ _ _ [_, _, _, _, (Ez nb2 [errV 50 (eQ z0 (4*i + 22)), SL ao7 zz7.length ca7] 204)]
     refine C2 ⟨[3], [0, 1, 2], [2], [0, 1], [4]⟩ 4 _ rfl rfl (by decide +kernel) rfl ⟨AP rfl rfl (AB 2 23 1 AS rfl BV rfl rfl), AP rfl rfl (AL rfl (AX B4 (AR 2 rfl (AI (AI (AH (AH (Seg.head)))))))), trivial⟩ rfl (BO rfl (DF 22 1 _ [(0, U64 (vQ z0 (4*i + 18) 4))] ([U64 (vQ z0 (4*i + 18) 4)]) BL A1 Tryd.zeroValue22 rfl rfl rfl (by kernel_rfl))) ?_
     rintro v1 L1 ⟨nb7, hnb7, rfl, rfl⟩
     refine ⟨[], ?_⟩
     show DP _ _ _ _ _ _ _ _ [_, _, _, _, _, (Ez nb7 [U64 (vQ z0 (4*i + 18) 4)] 22)]
     refine C2 ⟨[3, 4], [0, 1, 2], [2], [0, 1], [5]⟩ 5 _ rfl rfl (by decide +kernel) rfl ⟨AP rfl rfl (AB 2 23 1 AS rfl BV rfl rfl), AP rfl rfl (AL rfl (AX B4 (AR 2 rfl (AI (AI (AH (AH (Seg.head)))))))), trivial⟩ rfl (BO rfl (Step_appM64 23 22 [false, false, false, true, false, false] (Slc gb 0 i cp) i ll ([vQ z0 (4*i + 18) 4]) (some ⟨nb7, 0, none⟩) 1 1 (i + 1) BL Tryd.info22 rfl (.inr ⟨gb, sp, cp, rfl, rfl, (by first | exact hi4 | simp [hi4]), hi5, (by omega), (by omega)⟩) rfl (by simp) (SrcAt.mem (AR 5 rfl (Seg.head))) (by omega) (by unfold maxLen; omega) (by omega))) ?_
     rintro v1 L1 ⟨nb8, sp3, cp3, hg2, rfl, rfl, ha5, ha6, ha7, ha8⟩
     refine ⟨[(6, Ptr nb4 2)], ?_⟩
     show DP _ _ _ _ _ _ _ _ [_, _, _, _, _, (Ez nb8 (cu64 (ll ++ ([vQ z0 (4*i + 18) 4])) ++ sp3) 22)]
     refine EI ⟨[3, 4, 5], [0, 1, 2, 6], [0, 1, 2], [6], [7]⟩ 7 rfl rfl (by decide +kernel) rfl ⟨AP rfl rfl (AB 2 23 1 AS rfl BV rfl rfl), trivial⟩ rfl (BO rfl (C0 2 nb4 2 1 _ 31 (Slc nb8 0 (i + 1) cp3) ([Slc nb8 0 (i + 1) cp3]) ([U64 (vQ z0 0 8), I64 (((vQ z0 8 1).toNat:Int)), Slc nb8 0 (i + 1) cp3, U64 0, I64 0, U64 0, U64 0, I64 0, SL none 0 0, SL none 0 0, U64 0] ++ cu8 (zr8 16) ++ [U64 (vQ z0 9 8)]) rfl rfl rfl rfl BV rfl (by simp [Value.oneCell']) (by simp [(AO 16)]) (rfl))) ?_
     show DP _ _ _ _ _ _ _ _ [_, _, (Ez nb4 ([U64 (vQ z0 0 8), I64 (((vQ z0 8 1).toNat:Int)), Slc nb8 0 (i + 1) cp3, U64 0, I64 0, U64 0, U64 0, I64 0, SL none 0 0, SL none 0 0, U64 0] ++ cu8 (zr8 16) ++ [U64 (vQ z0 9 8)]) 31), _, _, _]
     refine DR ⟨[3, 4, 5, 7], [0, 1, 2, 6], [0, 1, 2, 6], [], []⟩ rfl rfl (by decide +kernel) rfl trivial ?_
     refine C5 (F' := [(38, Ptr nb4 2), (39, Slc gb 0 i cp), (40, Ptr nb2 0), (41, U64 (vQ z0 (4*i + 18) 4)), (42, Slc nb7 0 1 1), (43, Slc nb8 0 (i + 1) cp3), (44, Ptr nb4 2), (2, Ptr nb1 0), (3, .nilIface), (4, Ptr nb2 0), (5, Ptr nb4 0), (35, I64 m), (36, I64 i), (37, .bool (decide (((i:Int)) < ((m:Int)))))]) (by kernel_rfl) ?_
     refine BU (AD (AC (AA (I64 ((i:Int) + 1)) (AT rfl rfl fun _ => DK _ _ ((i:Int) + 1) (by omega) (by omega)) rfl ?_)))
     refine AA _ (AG rfl) rfl ?_
     refine AJ (DU (CD [true, true, true, true, false, true] ?_))
     show K _ _ [_, _, _, _, _] _
     refine FG [0, 3, 1, 2, 4] (by decide) ?_
     show K _ _ [_, _, _, _, _] _
     refine EZ (.inr (i + 1, ll ++ ([vQ z0 (4*i + 18) 4]), nb8, sp3, cp3, ao7, zz7, ca7)) ⟨by omega, by omega, by rw [ixQ_succ, ← hi3, Nat.add_comm 18 (4*i)], (ha5).trans (by first | rfl | simp +arith), (ha6).trans (by first | rfl | omega), by omega, by omega, hq7, (fun w M h => hA7 w M (hi9 w M h)), by omega, by omega, by omega⟩ (by dsimp only; omega) (Sub.all rfl) rfl
    ·
     have hp27 : ¬ (((i:Int)) < ((m:Int))) := of_decide_eq_false hb27
     refine EF (BC (BC (CX (BU (AD (AF (AF ?_)))))))
     have ei : m = i := by omega
     subst ei
     subst hi3
     show JC _ _ _ _ [(Ez nb1 (V6) 31), (Ez nb2 [errV 50 (eQ z0 (4*m + 18)), SL aa zz.length cc] 204), (Ez nb3 (cu8 z0 ++ sp1) 5), (Ez nb4 ([U64 (vQ z0 0 8), I64 (((vQ z0 8 1).toNat:Int)), Slc gb 0 m cp, U64 0, I64 0, U64 0, U64 0, I64 0, SL none 0 0, SL none 0 0, U64 0] ++ cu8 (zr8 16) ++ [U64 (vQ z0 9 8)]) 31), (Ez gb (cu64 (ixQ z0 18 m) ++ sp) 22)]
     refine AC (AA _ (AG rfl) rfl ?_)
     refine A7 (A3 63 _ (errV 50 (endN (eQ z0 (4*m + 18)) zz.length)) (AV _ EE rfl) (fun w1 hw1 => end_w nb2 (eQ z0 (4*m + 18)) aa zz.length cc w1 (RdA.of hw1 (AR 1 rfl (AN _)) (by simp)))) rfl ?_
     show JL _ _ _ _ ((57, errV 50 (endN (eQ z0 (4*m + 18)) zz.length)) :: _) [_, _, _, _, _]
     refine AA (.bool (!(decide (endN (eQ z0 (4*m + 18)) zz.length = 0)))) (DM _ _ _ rfl rfl (fun _ => CE ..) fun _ => DW BG _ _) rfl ?_
     refine AA _ (AG rfl) rfl ?_
     rcases Bool.eq_false_or_eq_true (decide (endN (eQ z0 (4*m + 18)) zz.length = 0)) with hb31 | hb31
     ·
      have hp31 : endN (eQ z0 (4*m + 18)) zz.length = 0 := of_decide_eq_true hb31
      refine AM 3 59 false _ _ rfl rfl (bnotT hb31) (AL rfl (BR CW BX (by simp [(AO 16)]) (AR 3 rfl (AN _)))) rfl ?_
      refine DC 3 59 false _ rfl rfl (bnotT hb31) (A3 22 _ (.bool (reqR (((vQ z0 8 1).toNat:Int)) (ixQ z0 18 m) (0:UInt64) (0:Int) (vQ z0 9 8) (blankB (0:UInt64) (0:UInt64) (0:Int) ([] : List UInt64) ([] : List SealR) (0:UInt64) (zr8 16)) (decide (mayN (0:UInt64) (0:UInt64) (0:Int) ([] : List UInt64) ([] : List SealR) (0:UInt64) = 0)))) (AV _ Tryd.call22 rfl) (fun w1 hw1 => FP (vQ z0 0 8) (((vQ z0 8 1).toNat:Int)) (some ⟨gb, 0, none⟩) m cp (ixQ z0 18 m) (0:UInt64) (0:Int) (0:UInt64) (0:UInt64) (0:Int) none 0 0 ([] : List UInt64) none 0 0 ([] : List SealR) (0:UInt64) (zr8 16) (vQ z0 9 8) w1 (F7 _ _ _) (by omega) (by omega) (by omega) (RdV.of hw1 (AR 4 rfl (AI (AN _)))) rfl (by omega) (by omega) (by omega) RdV.nil rfl (by omega) (by omega) (by omega) RdV.nil (AO 16) (by omega) (by omega))) rfl ?_
      rintro v1 L1 ⟨rfl, rfl⟩
      show JL _ _ _ _ ((61, .bool (reqR (((vQ z0 8 1).toNat:Int)) (ixQ z0 18 m) (0:UInt64) (0:Int) (vQ z0 9 8) (blankB (0:UInt64) (0:UInt64) (0:Int) ([] : List UInt64) ([] : List SealR) (0:UInt64) (zr8 16)) (decide (mayN (0:UInt64) (0:UInt64) (0:Int) ([] : List UInt64) ([] : List SealR) (0:UInt64) = 0)))) :: _) [_, _, _, _, _]
      refine AM 3 59 false _ (.bool (!(reqR (((vQ z0 8 1).toNat:Int)) (ixQ z0 18 m) (0:UInt64) (0:Int) (vQ z0 9 8) (blankB (0:UInt64) (0:UInt64) (0:Int) ([] : List UInt64) ([] : List SealR) (0:UInt64) (zr8 16)) (decide (mayN (0:UInt64) (0:UInt64) (0:Int) ([] : List UInt64) ([] : List SealR) (0:UInt64) = 0))))) rfl rfl (bnotT hb31) (D1 rfl) rfl (AA _ (A5 _ rfl (bnotT hb31) rfl) rfl ?_)
      refine AJ (AD (CC (!(reqR (((vQ z0 8 1).toNat:Int)) (ixQ z0 18 m) (0:UInt64) (0:Int) (vQ z0 9 8) (blankB (0:UInt64) (0:UInt64) (0:Int) ([] : List UInt64) ([] : List SealR) (0:UInt64) (zr8 16)) (decide (mayN (0:UInt64) (0:UInt64) (0:Int) ([] : List UInt64) ([] : List SealR) (0:UInt64) = 0)))) rfl (fun hb32 => ?_) (fun hb32 => ?_)))
      ·
       have hb33 : (reqR (((vQ z0 8 1).toNat:Int)) (ixQ z0 18 m) (0:UInt64) (0:Int) (vQ z0 9 8) (blankB (0:UInt64) (0:UInt64) (0:Int) ([] : List UInt64) ([] : List SealR) (0:UInt64) (zr8 16)) (decide (mayN (0:UInt64) (0:UInt64) (0:Int) ([] : List UInt64) ([] : List SealR) (0:UInt64) = 0))) = false := by simpa using hb32
       refine AF (AC (AA (.agg (V6).toArray) (CY [] _ rfl (fun _ => by kernel_rfl)) rfl ?_))
       refine AA (.iface 50 (I64 2)) (DH BN rfl rfl) rfl ?_
       refine A7 (BS 0 nb1 28 _ 31 (V6) rfl rfl rfl BX (by simp [(AO 16)]) (B0 (B0 (by simp [Value.oneCell']) CZ) (by simp [Value.oneCell'])) (by simp [(AO 16)]) (BW (by simp [(AO 16), (AO 16)]))) rfl ?_
       show JL _ _ _ _ _ [_, _, _, _, _]
       refine AA _ (AE rfl) rfl ?_
       refine AJ (AD (BK (A6 (BJ (.tuple #[.agg (V6).toArray, .iface 50 (I64 2)]) (res2 EG (DQ rfl (BR CW BX (by simp [(AO 16)]) (AR 0 rfl (AN _)))) (BF rfl)) fun w1 hw1 => ?_))))
       have hR := RqR.k1 (kQT (k := 1) (by decide) hb18)
       have he : 4*m + 18 = z0.length := (GA hi8).1 (by have h9 := of_decide_eq_true hb31; omega)
       obtain rfl : m = mQ z0 := by omega
       exact ⟨_, [], rfl, .inr ⟨BadRq.of hR (fun _ => hb33), rfl, rfl⟩, hw1.no⟩
      ·
       have hb34 : (reqR (((vQ z0 8 1).toNat:Int)) (ixQ z0 18 m) (0:UInt64) (0:Int) (vQ z0 9 8) (blankB (0:UInt64) (0:UInt64) (0:Int) ([] : List UInt64) ([] : List SealR) (0:UInt64) (zr8 16)) (decide (mayN (0:UInt64) (0:UInt64) (0:Int) ([] : List UInt64) ([] : List SealR) (0:UInt64) = 0))) = true := by simpa using hb32
       refine BH (AD (AF (AC (AA _ (AL rfl (BR CW BX (by simp [(AO 16)]) (AR 3 rfl (AN _)))) rfl ?_))))
       refine A7 (BS 0 nb1 28 _ 31 ([U64 (vQ z0 0 8), I64 (((vQ z0 8 1).toNat:Int)), Slc gb 0 m cp, U64 0, I64 0, U64 0, U64 0, I64 0, SL none 0 0, SL none 0 0, U64 0] ++ cu8 (zr8 16) ++ [U64 (vQ z0 9 8)]) rfl rfl rfl BX (by simp [(AO 16)]) (B0 (B0 (by simp [Value.oneCell']) CZ) (by simp [Value.oneCell'])) (by simp [(AO 16)]) (BW (by simp [(AO 16), (AO 16)]))) rfl ?_
       show JL _ _ _ _ _ [_, _, _, _, _]
       refine AA _ (AE rfl) rfl ?_
       refine AJ (AD (BK (BJ (.tuple #[.agg ([U64 (vQ z0 0 8), I64 (((vQ z0 8 1).toNat:Int)), Slc gb 0 m cp, U64 0, I64 0, U64 0, U64 0, I64 0, SL none 0 0, SL none 0 0, U64 0] ++ cu8 (zr8 16) ++ [U64 (vQ z0 9 8)]).toArray, .nilIface]) (res2 EG (DQ rfl (BR CW BX (by simp [(AO 16)]) (AR 0 rfl (AN _)))) (BF rfl)) fun w1 hw1 => ?_)))
       have hR := RqR.k1 (kQT (k := 1) (by decide) hb18)
       have he : 4*m + 18 = z0.length := (GA hi8).1 (by have h9 := of_decide_eq_true hb31; omega)
       obtain rfl : m = mQ z0 := by omega
       have hz9 : 4*mQ z0 + 18 = z0.length := by omega
       rw [hz9] at hR
       exact ⟨_, _, rfl, .inl ⟨_, _, (mQ z0), _, _, _, _, _, _, 0, _, 0, _, _, _, _, _, _, _, (some ⟨gb, 0, none⟩), cp, _, _, _, none, 0, _, _, _, none, 0, ⟨hR, hb34⟩, (F7 _ _ _), rfl, rfl, (AO 16), (mQ_le z0), (by omega), (by omega), rfl, rfl, .inr ⟨rfl, _, rfl⟩, by first | omega | (unfold maxLen; omega), by first | omega | (unfold maxLen; omega), .inl rfl, by first | omega | (unfold maxLen; omega), by first | omega | (unfold maxLen; omega), .inl rfl, by first | omega | (unfold maxLen; omega), by first | omega | (unfold maxLen; omega)⟩, FC hw1 4 3 1 rfl rfl rfl (by decide) (by decide) (by decide)⟩
     ·
      have hp31 : ¬ (endN (eQ z0 (4*m + 18)) zz.length = 0) := of_decide_eq_false hb31
      refine A9 3 3 59 false _ rfl rfl (bnotF hb31) rfl (AA _ (BA _ rfl (bnotF hb31) rfl) rfl ?_)
      refine AJ (AD (CH _ rfl rfl ?_))
      refine AF (AC (AA (.agg (V6).toArray) (CY [] _ rfl (fun _ => by kernel_rfl)) rfl ?_))
      refine AA (.iface 50 (I64 2)) (DH BN rfl rfl) rfl ?_
      refine A7 (BS 0 nb1 28 _ 31 (V6) rfl rfl rfl BX (by simp [(AO 16)]) (B0 (B0 (by simp [Value.oneCell']) CZ) (by simp [Value.oneCell'])) (by simp [(AO 16)]) (BW (by simp [(AO 16), (AO 16)]))) rfl ?_
      show JL _ _ _ _ _ [_, _, _, _, _]
      refine AA _ (AE rfl) rfl ?_
      refine AJ (AD (BK (A6 (BJ (.tuple #[.agg (V6).toArray, .iface 50 (I64 2)]) (res2 EG (DQ rfl (BR CW BX (by simp [(AO 16)]) (AR 0 rfl (AN _)))) (BF rfl)) fun w1 hw1 => ?_))))
      have hR := RqR.k1 (kQT (k := 1) (by decide) hb18)
      have hne : 4*m + 18 ≠ z0.length := fun e => (of_decide_eq_false hb31) ((GA hi8).2 e)
      exact ⟨_, [], rfl, .inr ⟨BadRq.of hR (fun e => absurd e (by have h8 := mQ_eq z0; omega)), rfl, rfl⟩, hw1.no⟩
  ·
   have hp18 : ¬ ((((vQ z0 8 1).toNat:Int)) = (1:Int)) := of_decide_eq_false hb18
   refine AF (AC (AA (.bool (decide ((((vQ z0 8 1).toNat:Int)) = (2:Int)))) (AT rfl rfl fun _ => BP _ _) rfl ?_))
   refine AA _ (AE rfl) rfl ?_
   refine AJ (AD (CC (decide ((((vQ z0 8 1).toNat:Int)) = (2:Int))) rfl (fun hb35 => ?_) (fun hb35 => ?_)))
   ·
    have hp35 : (((vQ z0 8 1).toNat:Int)) = (2:Int) := of_decide_eq_true hb35
    refine AF (AC (AA _ (AG rfl) rfl ?_))
    refine A2 (BD 109 _ [false, false, false, true] [nb2] _ (AV _ C7 rfl) rfl (fun w1 hw1 => FD nb2 17 4 ao4 zz4.length ca4 z0 zz4 w1 (hw1.en 3 rfl) rfl (by omega) (by omega) (by omega) ((fun w M h => hA4 w M (hA2 w M (hA1 w M h))) _ _ (RdB.of hw1 (AR 1 rfl (AI (AN _))) (hw1.nm 1 3 rfl rfl (by decide)))) hq4 (by unfold Szd; omega))) rfl ?_
    rintro v1 L1 ⟨_, ⟨rfl, ao8, zz8, ca8, hq8, ⟨hA8, hb36, hb37, hb38⟩, rfl⟩, rfl⟩
    show JL _ _ _ _ ((49, U64 (vQ z0 17 4)) :: _) [_, _, _, (Ez nb2 [errV 50 (eQ z0 21), SL ao8 zz8.length ca8] 204)]
    refine AA (Ptr nb4 3) (AB 3 22 1 AS rfl A1 rfl rfl) rfl ?_
    refine A7 (C0 2 nb4 3 1 _ 31 (U64 (vQ z0 17 4)) ([U64 (vQ z0 17 4)]) (V1 (vQ z0 0 8) (((vQ z0 8 1).toNat:Int)) none 0 0 (vQ z0 17 4) 0 0 0 0 none 0 0 none 0 0 0 (zr8 16) (vQ z0 9 8)) rfl rfl rfl rfl A1 rfl (by simp [Value.oneCell']) (by simp [(AO 16)]) (rfl)) rfl ?_
    show JL _ _ _ _ _ [_, _, _, _]
    refine AJ (AD (AC (AA _ (AG rfl) rfl ?_)))
    refine A2 (BD 109 _ [false, false, false, true] [nb2] _ (AV _ C7 rfl) rfl (fun w1 hw1 => FD nb2 21 1 ao8 zz8.length ca8 z0 zz8 w1 (hw1.en 3 rfl) rfl (by omega) (by omega) (by omega) ((fun w M h => hA8 w M (hA4 w M (hA2 w M (hA1 w M h)))) _ _ (RdB.of hw1 (AR 1 rfl (AI (AN _))) (hw1.nm 1 3 rfl rfl (by decide)))) hq8 (by unfold Szd; omega))) rfl ?_
    rintro v1 L1 ⟨_, ⟨rfl, ao9, zz9, ca9, hq9, ⟨hA9, hb39, hb40, hb41⟩, rfl⟩, rfl⟩
    show JL _ _ _ _ ((52, U64 (vQ z0 21 1)) :: _) [_, _, _, (Ez nb2 [errV 50 (eQ z0 22), SL ao9 zz9.length ca9] 204)]
    refine AA (I64 (((vQ z0 21 1).toNat:Int))) (CV _ _ rfl fun _ => E5 (by rw [AU]; rfl) A4 (vQ z0 21 1) _ rfl (by omega)) rfl ?_
    refine AA (I64 (((vQ z0 21 1).toNat:Int) + 1)) (AT rfl rfl fun _ => DK _ _ (((vQ z0 21 1).toNat:Int) + 1) (by omega) (by omega)) rfl ?_
    refine AA (Ptr nb4 4) (AB 4 3 1 AS rfl AW rfl rfl) rfl ?_
    refine A7 (C0 2 nb4 4 1 _ 31 (I64 (((vQ z0 21 1).toNat:Int) + 1)) ([I64 (((vQ z0 21 1).toNat:Int) + 1)]) (V1 (vQ z0 0 8) (((vQ z0 8 1).toNat:Int)) none 0 0 (vQ z0 17 4) (((vQ z0 21 1).toNat:Int) + 1) 0 0 0 none 0 0 none 0 0 0 (zr8 16) (vQ z0 9 8)) rfl rfl rfl rfl AW rfl (by simp [Value.oneCell']) (by simp [(AO 16)]) (rfl)) rfl ?_
    show JL _ _ _ _ _ [_, _, _, _]
    refine AJ (BU (AD (AF (AF (AC (AA _ (AG rfl) rfl ?_))))))
    refine A7 (A3 63 _ (errV 50 (endN (eQ z0 22) zz9.length)) (AV _ EE rfl) (fun w1 hw1 => end_w nb2 (eQ z0 22) ao9 zz9.length ca9 w1 (RdA.of hw1 (AR 3 rfl (AN _)) (by simp)))) rfl ?_
    show JL _ _ _ _ ((57, errV 50 (endN (eQ z0 22) zz9.length)) :: _) [_, _, _, _]
    refine AA (.bool (!(decide (endN (eQ z0 22) zz9.length = 0)))) (DM _ _ _ rfl rfl (fun _ => CE ..) fun _ => DW BG _ _) rfl ?_
    refine AA _ (AG rfl) rfl ?_
    rcases Bool.eq_false_or_eq_true (decide (endN (eQ z0 22) zz9.length = 0)) with hb42 | hb42
    ·
     have hp42 : endN (eQ z0 22) zz9.length = 0 := of_decide_eq_true hb42
     refine AM 3 59 false _ _ rfl rfl (bnotT hb42) (AL rfl (BR CW BX (by simp [(AO 16)]) (AR 2 rfl (AN _)))) rfl ?_
     refine DC 3 59 false _ rfl rfl (bnotT hb42) (A3 22 _ (.bool (reqR (((vQ z0 8 1).toNat:Int)) ([] : List UInt64) (vQ z0 17 4) (((vQ z0 21 1).toNat:Int) + 1) (vQ z0 9 8) (blankB (0:UInt64) (0:UInt64) (0:Int) ([] : List UInt64) ([] : List SealR) (0:UInt64) (zr8 16)) (decide (mayN (0:UInt64) (0:UInt64) (0:Int) ([] : List UInt64) ([] : List SealR) (0:UInt64) = 0)))) (AV _ Tryd.call22 rfl) (fun w1 hw1 => FP (vQ z0 0 8) (((vQ z0 8 1).toNat:Int)) none 0 0 ([] : List UInt64) (vQ z0 17 4) (((vQ z0 21 1).toNat:Int) + 1) (0:UInt64) (0:UInt64) (0:Int) none 0 0 ([] : List UInt64) none 0 0 ([] : List SealR) (0:UInt64) (zr8 16) (vQ z0 9 8) w1 rfl (by omega) (by omega) (by omega) RdV.nil rfl (by omega) (by omega) (by omega) RdV.nil rfl (by omega) (by omega) (by omega) RdV.nil (AO 16) (by omega) (by omega))) rfl ?_
     rintro v1 L1 ⟨rfl, rfl⟩
     show JL _ _ _ _ ((61, .bool (reqR (((vQ z0 8 1).toNat:Int)) ([] : List UInt64) (vQ z0 17 4) (((vQ z0 21 1).toNat:Int) + 1) (vQ z0 9 8) (blankB (0:UInt64) (0:UInt64) (0:Int) ([] : List UInt64) ([] : List SealR) (0:UInt64) (zr8 16)) (decide (mayN (0:UInt64) (0:UInt64) (0:Int) ([] : List UInt64) ([] : List SealR) (0:UInt64) = 0)))) :: _) [_, _, _, _]
     refine AM 3 59 false _ (.bool (!(reqR (((vQ z0 8 1).toNat:Int)) ([] : List UInt64) (vQ z0 17 4) (((vQ z0 21 1).toNat:Int) + 1) (vQ z0 9 8) (blankB (0:UInt64) (0:UInt64) (0:Int) ([] : List UInt64) ([] : List SealR) (0:UInt64) (zr8 16)) (decide (mayN (0:UInt64) (0:UInt64) (0:Int) ([] : List UInt64) ([] : List SealR) (0:UInt64) = 0))))) rfl rfl (bnotT hb42) (D1 rfl) rfl (AA _ (A5 _ rfl (bnotT hb42) rfl) rfl ?_)
     refine AJ (AD (CC (!(reqR (((vQ z0 8 1).toNat:Int)) ([] : List UInt64) (vQ z0 17 4) (((vQ z0 21 1).toNat:Int) + 1) (vQ z0 9 8) (blankB (0:UInt64) (0:UInt64) (0:Int) ([] : List UInt64) ([] : List SealR) (0:UInt64) (zr8 16)) (decide (mayN (0:UInt64) (0:UInt64) (0:Int) ([] : List UInt64) ([] : List SealR) (0:UInt64) = 0)))) rfl (fun hb43 => ?_) (fun hb43 => ?_)))
     ·
      have hb44 : (reqR (((vQ z0 8 1).toNat:Int)) ([] : List UInt64) (vQ z0 17 4) (((vQ z0 21 1).toNat:Int) + 1) (vQ z0 9 8) (blankB (0:UInt64) (0:UInt64) (0:Int) ([] : List UInt64) ([] : List SealR) (0:UInt64) (zr8 16)) (decide (mayN (0:UInt64) (0:UInt64) (0:Int) ([] : List UInt64) ([] : List SealR) (0:UInt64) = 0))) = false := by simpa using hb43
      refine AF (AC (AA (.agg (V6).toArray) (CY [] _ rfl (fun _ => by kernel_rfl)) rfl ?_))
      refine AA (.iface 50 (I64 2)) (DH BN rfl rfl) rfl ?_
      refine A7 (BS 0 nb1 28 _ 31 (V6) rfl rfl rfl BX (by simp [(AO 16)]) (B0 (B0 (by simp [Value.oneCell']) CZ) (by simp [Value.oneCell'])) (by simp [(AO 16)]) (BW (by simp [(AO 16), (AO 16)]))) rfl ?_
      show JL _ _ _ _ _ [_, _, _, _]
      refine AA _ (AE rfl) rfl ?_
      refine AJ (AD (BK (A6 (BJ (.tuple #[.agg (V6).toArray, .iface 50 (I64 2)]) (res2 EG (DQ rfl (BR CW BX (by simp [(AO 16)]) (AR 0 rfl (AN _)))) (BF rfl)) fun w1 hw1 => ?_))))
      have hR := RqR.k2 (kQT (k := 2) (by decide) hb35)
      have he : 22 = z0.length := (GA hq9).1 (by have h9 := of_decide_eq_true hb42; omega)
      exact ⟨_, [], rfl, .inr ⟨BadRq.of hR (fun _ => hb44), rfl, rfl⟩, hw1.no⟩
     ·
      have hb45 : (reqR (((vQ z0 8 1).toNat:Int)) ([] : List UInt64) (vQ z0 17 4) (((vQ z0 21 1).toNat:Int) + 1) (vQ z0 9 8) (blankB (0:UInt64) (0:UInt64) (0:Int) ([] : List UInt64) ([] : List SealR) (0:UInt64) (zr8 16)) (decide (mayN (0:UInt64) (0:UInt64) (0:Int) ([] : List UInt64) ([] : List SealR) (0:UInt64) = 0))) = true := by simpa using hb43
      refine BH (AD (AF (AC (AA _ (AL rfl (BR CW BX (by simp [(AO 16)]) (AR 2 rfl (AN _)))) rfl ?_))))
      refine A7 (BS 0 nb1 28 _ 31 (V1 (vQ z0 0 8) (((vQ z0 8 1).toNat:Int)) none 0 0 (vQ z0 17 4) (((vQ z0 21 1).toNat:Int) + 1) 0 0 0 none 0 0 none 0 0 0 (zr8 16) (vQ z0 9 8)) rfl rfl rfl BX (by simp [(AO 16)]) (B0 (B0 (by simp [Value.oneCell']) CZ) (by simp [Value.oneCell'])) (by simp [(AO 16)]) (BW (by simp [(AO 16), (AO 16)]))) rfl ?_
      show JL _ _ _ _ _ [_, _, _, _]
      refine AA _ (AE rfl) rfl ?_
      refine AJ (AD (BK (BJ (.tuple #[.agg (V1 (vQ z0 0 8) (((vQ z0 8 1).toNat:Int)) none 0 0 (vQ z0 17 4) (((vQ z0 21 1).toNat:Int) + 1) 0 0 0 none 0 0 none 0 0 0 (zr8 16) (vQ z0 9 8)).toArray, .nilIface]) (res2 EG (DQ rfl (BR CW BX (by simp [(AO 16)]) (AR 0 rfl (AN _)))) (BF rfl)) fun w1 hw1 => ?_)))
      have hR := RqR.k2 (kQT (k := 2) (by decide) hb35)
      have he : 22 = z0.length := (GA hq9).1 (by have h9 := of_decide_eq_true hb42; omega)
      have hz9 : 22 = z0.length := by omega
      rw [hz9] at hR
      exact ⟨_, _, rfl, .inl ⟨_, _, 0, _, _, _, _, _, _, 0, _, 0, _, _, _, _, _, _, _, none, 0, _, _, _, none, 0, _, _, _, none, 0, ⟨hR, hb45⟩, rfl, rfl, rfl, (AO 16), (by omega), (by omega), (by omega), rfl, rfl, .inl rfl, by first | omega | (unfold maxLen; omega), by first | omega | (unfold maxLen; omega), .inl rfl, by first | omega | (unfold maxLen; omega), by first | omega | (unfold maxLen; omega), .inl rfl, by first | omega | (unfold maxLen; omega), by first | omega | (unfold maxLen; omega)⟩, FC hw1 3 2 0 rfl rfl rfl (by decide) (by decide) (by decide)⟩
    ·
     have hp42 : ¬ (endN (eQ z0 22) zz9.length = 0) := of_decide_eq_false hb42
     refine A9 3 3 59 false _ rfl rfl (bnotF hb42) rfl (AA _ (BA _ rfl (bnotF hb42) rfl) rfl ?_)
     refine AJ (AD (CH _ rfl rfl ?_))
     refine AF (AC (AA (.agg (V6).toArray) (CY [] _ rfl (fun _ => by kernel_rfl)) rfl ?_))
     refine AA (.iface 50 (I64 2)) (DH BN rfl rfl) rfl ?_
     refine A7 (BS 0 nb1 28 _ 31 (V6) rfl rfl rfl BX (by simp [(AO 16)]) (B0 (B0 (by simp [Value.oneCell']) CZ) (by simp [Value.oneCell'])) (by simp [(AO 16)]) (BW (by simp [(AO 16), (AO 16)]))) rfl ?_
     show JL _ _ _ _ _ [_, _, _, _]
     refine AA _ (AE rfl) rfl ?_
     refine AJ (AD (BK (A6 (BJ (.tuple #[.agg (V6).toArray, .iface 50 (I64 2)]) (res2 EG (DQ rfl (BR CW BX (by simp [(AO 16)]) (AR 0 rfl (AN _)))) (BF rfl)) fun w1 hw1 => ?_))))
     have hR := RqR.k2 (kQT (k := 2) (by decide) hb35)
     have hne : 22 ≠ z0.length := fun e => (of_decide_eq_false hb42) ((GA hq9).2 e)
     exact ⟨_, [], rfl, .inr ⟨BadRq.of hR (fun e => absurd e (by omega)), rfl, rfl⟩, hw1.no⟩
   ·
    have hp35 : ¬ ((((vQ z0 8 1).toNat:Int)) = (2:Int)) := of_decide_eq_false hb35
    refine BH (BU (AD (AF (AF (AC (AA _ (AG rfl) rfl ?_))))))
    refine A7 (A3 63 _ (errV 50 (endN (eQ z0 17) zz4.length)) (AV _ EE rfl) (fun w1 hw1 => end_w nb2 (eQ z0 17) ao4 zz4.length ca4 w1 (RdA.of hw1 (AR 3 rfl (AN _)) (by simp)))) rfl ?_
    show JL _ _ _ _ ((57, errV 50 (endN (eQ z0 17) zz4.length)) :: _) [_, _, _, _]
    refine AA (.bool (!(decide (endN (eQ z0 17) zz4.length = 0)))) (DM _ _ _ rfl rfl (fun _ => CE ..) fun _ => DW BG _ _) rfl ?_
    refine AA _ (AG rfl) rfl ?_
    rcases Bool.eq_false_or_eq_true (decide (endN (eQ z0 17) zz4.length = 0)) with hb46 | hb46
    ·
     have hp46 : endN (eQ z0 17) zz4.length = 0 := of_decide_eq_true hb46
     refine AM 3 59 false _ _ rfl rfl (bnotT hb46) (AL rfl (BR CW BX (by simp [(AO 16)]) (AR 2 rfl (AN _)))) rfl ?_
     refine DC 3 59 false _ rfl rfl (bnotT hb46) (A3 22 _ (.bool (reqR (((vQ z0 8 1).toNat:Int)) ([] : List UInt64) (0:UInt64) (0:Int) (vQ z0 9 8) (blankB (0:UInt64) (0:UInt64) (0:Int) ([] : List UInt64) ([] : List SealR) (0:UInt64) (zr8 16)) (decide (mayN (0:UInt64) (0:UInt64) (0:Int) ([] : List UInt64) ([] : List SealR) (0:UInt64) = 0)))) (AV _ Tryd.call22 rfl) (fun w1 hw1 => FP (vQ z0 0 8) (((vQ z0 8 1).toNat:Int)) none 0 0 ([] : List UInt64) (0:UInt64) (0:Int) (0:UInt64) (0:UInt64) (0:Int) none 0 0 ([] : List UInt64) none 0 0 ([] : List SealR) (0:UInt64) (zr8 16) (vQ z0 9 8) w1 rfl (by omega) (by omega) (by omega) RdV.nil rfl (by omega) (by omega) (by omega) RdV.nil rfl (by omega) (by omega) (by omega) RdV.nil (AO 16) (by omega) (by omega))) rfl ?_
     rintro v1 L1 ⟨rfl, rfl⟩
     show JL _ _ _ _ ((61, .bool (reqR (((vQ z0 8 1).toNat:Int)) ([] : List UInt64) (0:UInt64) (0:Int) (vQ z0 9 8) (blankB (0:UInt64) (0:UInt64) (0:Int) ([] : List UInt64) ([] : List SealR) (0:UInt64) (zr8 16)) (decide (mayN (0:UInt64) (0:UInt64) (0:Int) ([] : List UInt64) ([] : List SealR) (0:UInt64) = 0)))) :: _) [_, _, _, _]
     refine AM 3 59 false _ (.bool (!(reqR (((vQ z0 8 1).toNat:Int)) ([] : List UInt64) (0:UInt64) (0:Int) (vQ z0 9 8) (blankB (0:UInt64) (0:UInt64) (0:Int) ([] : List UInt64) ([] : List SealR) (0:UInt64) (zr8 16)) (decide (mayN (0:UInt64) (0:UInt64) (0:Int) ([] : List UInt64) ([] : List SealR) (0:UInt64) = 0))))) rfl rfl (bnotT hb46) (D1 rfl) rfl (AA _ (A5 _ rfl (bnotT hb46) rfl) rfl ?_)
     refine AJ (AD (CC (!(reqR (((vQ z0 8 1).toNat:Int)) ([] : List UInt64) (0:UInt64) (0:Int) (vQ z0 9 8) (blankB (0:UInt64) (0:UInt64) (0:Int) ([] : List UInt64) ([] : List SealR) (0:UInt64) (zr8 16)) (decide (mayN (0:UInt64) (0:UInt64) (0:Int) ([] : List UInt64) ([] : List SealR) (0:UInt64) = 0)))) rfl (fun hb47 => ?_) (fun hb47 => ?_)))
     ·
      have hb48 : (reqR (((vQ z0 8 1).toNat:Int)) ([] : List UInt64) (0:UInt64) (0:Int) (vQ z0 9 8) (blankB (0:UInt64) (0:UInt64) (0:Int) ([] : List UInt64) ([] : List SealR) (0:UInt64) (zr8 16)) (decide (mayN (0:UInt64) (0:UInt64) (0:Int) ([] : List UInt64) ([] : List SealR) (0:UInt64) = 0))) = false := by simpa using hb47
      refine AF (AC (AA (.agg (V6).toArray) (CY [] _ rfl (fun _ => by kernel_rfl)) rfl ?_))
      refine AA (.iface 50 (I64 2)) (DH BN rfl rfl) rfl ?_
      refine A7 (BS 0 nb1 28 _ 31 (V6) rfl rfl rfl BX (by simp [(AO 16)]) (B0 (B0 (by simp [Value.oneCell']) CZ) (by simp [Value.oneCell'])) (by simp [(AO 16)]) (BW (by simp [(AO 16), (AO 16)]))) rfl ?_
      show JL _ _ _ _ _ [_, _, _, _]
      refine AA _ (AE rfl) rfl ?_
      refine AJ (AD (BK (A6 (BJ (.tuple #[.agg (V6).toArray, .iface 50 (I64 2)]) (res2 EG (DQ rfl (BR CW BX (by simp [(AO 16)]) (AR 0 rfl (AN _)))) (BF rfl)) fun w1 hw1 => ?_))))
      have hR := RqR.k0 (kQF (k := 3) (by decide) hb7) (kQF (k := 1) (by decide) hb18) (kQF (k := 2) (by decide) hb35)
      have he : 17 = z0.length := (GA hq4).1 (by have h9 := of_decide_eq_true hb46; omega)
      exact ⟨_, [], rfl, .inr ⟨BadRq.of hR (fun _ => hb48), rfl, rfl⟩, hw1.no⟩
     ·
      have hb49 : (reqR (((vQ z0 8 1).toNat:Int)) ([] : List UInt64) (0:UInt64) (0:Int) (vQ z0 9 8) (blankB (0:UInt64) (0:UInt64) (0:Int) ([] : List UInt64) ([] : List SealR) (0:UInt64) (zr8 16)) (decide (mayN (0:UInt64) (0:UInt64) (0:Int) ([] : List UInt64) ([] : List SealR) (0:UInt64) = 0))) = true := by simpa using hb47
      refine BH (AD (AF (AC (AA _ (AL rfl (BR CW BX (by simp [(AO 16)]) (AR 2 rfl (AN _)))) rfl ?_))))
      refine A7 (BS 0 nb1 28 _ 31 (V1 (vQ z0 0 8) (((vQ z0 8 1).toNat:Int)) none 0 0 0 0 0 0 0 none 0 0 none 0 0 0 (zr8 16) (vQ z0 9 8)) rfl rfl rfl BX (by simp [(AO 16)]) (B0 (B0 (by simp [Value.oneCell']) CZ) (by simp [Value.oneCell'])) (by simp [(AO 16)]) (BW (by simp [(AO 16), (AO 16)]))) rfl ?_
      show JL _ _ _ _ _ [_, _, _, _]
      refine AA _ (AE rfl) rfl ?_
      refine AJ (AD (BK (BJ (.tuple #[.agg (V1 (vQ z0 0 8) (((vQ z0 8 1).toNat:Int)) none 0 0 0 0 0 0 0 none 0 0 none 0 0 0 (zr8 16) (vQ z0 9 8)).toArray, .nilIface]) (res2 EG (DQ rfl (BR CW BX (by simp [(AO 16)]) (AR 0 rfl (AN _)))) (BF rfl)) fun w1 hw1 => ?_)))
      have hR := RqR.k0 (kQF (k := 3) (by decide) hb7) (kQF (k := 1) (by decide) hb18) (kQF (k := 2) (by decide) hb35)
      have he : 17 = z0.length := (GA hq4).1 (by have h9 := of_decide_eq_true hb46; omega)
      have hz9 : 17 = z0.length := by omega
      rw [hz9] at hR
      exact ⟨_, _, rfl, .inl ⟨_, _, 0, _, _, _, _, _, _, 0, _, 0, _, _, _, _, _, _, _, none, 0, _, _, _, none, 0, _, _, _, none, 0, ⟨hR, hb49⟩, rfl, rfl, rfl, (AO 16), (by omega), (by omega), (by omega), rfl, rfl, .inl rfl, by first | omega | (unfold maxLen; omega), by first | omega | (unfold maxLen; omega), .inl rfl, by first | omega | (unfold maxLen; omega), by first | omega | (unfold maxLen; omega), .inl rfl, by first | omega | (unfold maxLen; omega), by first | omega | (unfold maxLen; omega)⟩, FC hw1 3 2 0 rfl rfl rfl (by decide) (by decide) (by decide)⟩
    ·
     have hp46 : ¬ (endN (eQ z0 17) zz4.length = 0) := of_decide_eq_false hb46
     refine A9 3 3 59 false _ rfl rfl (bnotF hb46) rfl (AA _ (BA _ rfl (bnotF hb46) rfl) rfl ?_)
     refine AJ (AD (CH _ rfl rfl ?_))
     refine AF (AC (AA (.agg (V6).toArray) (CY [] _ rfl (fun _ => by kernel_rfl)) rfl ?_))
     refine AA (.iface 50 (I64 2)) (DH BN rfl rfl) rfl ?_
     refine A7 (BS 0 nb1 28 _ 31 (V6) rfl rfl rfl BX (by simp [(AO 16)]) (B0 (B0 (by simp [Value.oneCell']) CZ) (by simp [Value.oneCell'])) (by simp [(AO 16)]) (BW (by simp [(AO 16), (AO 16)]))) rfl ?_
     show JL _ _ _ _ _ [_, _, _, _]
     refine AA _ (AE rfl) rfl ?_
     refine AJ (AD (BK (A6 (BJ (.tuple #[.agg (V6).toArray, .iface 50 (I64 2)]) (res2 EG (DQ rfl (BR CW BX (by simp [(AO 16)]) (AR 0 rfl (AN _)))) (BF rfl)) fun w1 hw1 => ?_))))
     have hR := RqR.k0 (kQF (k := 3) (by decide) hb7) (kQF (k := 1) (by decide) hb18) (kQF (k := 2) (by decide) hb35)
     have hne : 17 ≠ z0.length := fun e => (of_decide_eq_false hb46) ((GA hq4).2 e)
     exact ⟨_, [], rfl, .inr ⟨BadRq.of hR (fun e => absurd e (by omega)), rfl, rfl⟩, hw1.no⟩
attribute [local irreducible] hQ
theorem listQ_c (rb p : Nat) (ao : Option Addr) (n c : Nat) (z0 z : List UInt8)  (w : World) (h0 : w.heap[rb]? = some (.cells [errV 50 (eQ z0 p), SL ao n c].toArray 204 (0, 0))) (hz : z.length = n) (hn : n ≤ 2000000000) (hc : n ≤ c) (hcm : c ≤ maxLen) (hr : RdB w [rb] ao z) (hq : Lq z0 z p)  : Calls Tryd.prog 122 #[Ptr rb 0] w (Post w [rb] (fun v L => ∃ q ao' z' c' m, q = p + 2 + 32*hN z0 p ∧ Lq z0 z' q ∧ Adv ao z c ao' z' c' ∧ m ≤ 65535 ∧ (q ≤ z0.length → m = hN z0 p) ∧ ((m = 0 ∧ v = SL none 0 0 ∧ L = [(Ez rb [errV 50 (eQ z0 q), SL ao' z'.length c'] 204)]) ∨ (0 < m ∧ ∃ g sp cap, v = Slc g 0 m cap ∧ L = [(Ez rb [errV 50 (eQ z0 q), SL ao' z'.length c'] 204), (Ez g (cu8 (hQ z0 (p + 2) m) ++ sp) 54)] ∧ sp.length = 32*cap - 32*m ∧ m ≤ cap ∧ cap ≤ maxLen)))) := by
 have hmx : maxLen = 9223372036854775807 := rfl
 have hh2 := vQ_lt2 z0 p
 have hhN : hN z0 p = (vQ z0 p 2).toNat := rfl
 refine enter w [rb] 21 [(Ez rb [errV 50 (eQ z0 p), SL ao n c] 204)] [Ptr rb 0] Tryd.func122 rfl rfl (by simp) (BZ (by simpa using h0) (by simp) (by simp)) ?_
 show JC _ _ _ [(0, Ptr rb 0)] _
 refine AF (AC (AA _ (AE rfl) rfl ?_))
 refine AJ (AD (AF (AC (AA _ (AE rfl) rfl ?_))))
 refine AJ (AD (AF (AF (AC (AA _ (AG rfl) rfl ?_)))))
 have hz1 : (z).length = n := hz
 refine A2 (BD 109 _ [true] [rb] _ (AV _ C7 rfl) rfl (fun w1 hw1 => FD rb p 2 ao n c z0 z w1 (hw1.en 0 rfl) hz (by omega) (by omega) (by omega) ((fun _ _ h => h) _ _ (hr.at (M' := [rb]) hw1 (hw1.apart [0] _ rfl))) hq (by unfold Szd; omega))) rfl ?_
 rintro v1 L1 ⟨_, ⟨rfl, ao1, zz1, ca1, hq1, ⟨hA1, hb1, hb2, hb3⟩, rfl⟩, rfl⟩
 show JL _ _ _ _ ((5, U64 (vQ z0 p 2)) :: _) [(Ez rb [errV 50 (eQ z0 (p + 2)), SL ao1 zz1.length ca1] 204)]
 refine AA _ (AG rfl) rfl ?_
 refine AJ (AD (B5 (EO (ι := (Unit) ⊕ (Nat × Nat × List UInt8 × Nat × List Value × Nat × Option Addr × List UInt8 × Nat)) (fun x => match x with | .inl _ => [(0, Ptr rb 0), (2, SL none 0 0), (5, U64 (vQ z0 p 2)), (6, U64 0), (3, SL none 0 0)] | .inr ⟨pp, i, xx, gb, sp, cp, aa, zz, cc⟩ => [(0, Ptr rb 0), (2, SL none 0 0), (5, U64 (vQ z0 p 2)), (6, U64 (UInt64.ofNat i)), (3, Slc gb 0 i cp)]) (fun x => match x with | .inl _ => [(Ez rb [errV 50 (eQ z0 (p + 2)), SL ao1 zz1.length ca1] 204)] | .inr ⟨pp, i, xx, gb, sp, cp, aa, zz, cc⟩ => [(Ez rb [errV 50 (eQ z0 pp), SL aa zz.length cc] 204), (Ez gb (cu8 xx ++ sp) 54)]) (fun x => match x with | .inl _ => True | .inr ⟨pp, i, xx, gb, sp, cp, aa, zz, cc⟩ => pp = p + 2 + 32*i ∧ 0 < i ∧ i ≤ hN z0 p ∧ xx = hQ z0 (p + 2) i ∧ xx.length = 32*i ∧ sp.length = 32*cp - 32*i ∧ i ≤ cp ∧ cp ≤ maxLen ∧ Lq z0 zz (pp) ∧ (∀ w M, RdB w M ao z → RdB w M aa zz) ∧ zz.length ≤ cc ∧ cc ≤ maxLen ∧ zz.length ≤ n) (fun x => match x with | .inl _ => hN z0 p + 2 | .inr ⟨pp, i, xx, gb, sp, cp, aa, zz, cc⟩ => hN z0 p + 1 - i) (.inl ()) trivial (Sub.all rfl) rfl ?_)))
 rintro (_ | ⟨pp, i, xx, gb, sp, cp, aa, zz, cc⟩) hx
 ·
  obtain _ := hx
  show JC _ _ _ [_, _, _, _, _] [_]
  refine AF (AC (AA (.bool (decide ((0:UInt64) < (vQ z0 p 2)))) (AT rfl rfl fun _ => bin_lss_u64 (0:UInt64) (vQ z0 p 2)) rfl ?_))
  refine AJ (AD (AF (CC (decide ((0:UInt64) < (vQ z0 p 2))) rfl (fun hb4 => ?_) (fun hb4 => ?_))))
  ·
   have hp4 : (0:UInt64) < (vQ z0 p 2) := of_decide_eq_true hb4
   refine BH (AD (AF (B5 (AF (AF ?_)))))
   have hlt : 0 < hN z0 p := u64_lt (i := 0) (by omega) (of_decide_eq_true hb4)
   refine AC (AA _ (AG rfl) rfl ?_)
   refine A7 (A3 61 _ (I64 ((leftN (eQ z0 (p + 2)) zz1.length:Int))) (AV _ EA rfl) (fun w1 hw1 => left_w rb (eQ z0 (p + 2)) ao1 zz1.length ca1 w1 (RdA.of hw1 (AR 0 rfl (AN _)) (by simp)))) rfl ?_
   show JL _ _ _ _ ((9, I64 ((leftN (eQ z0 (p + 2)) zz1.length:Int))) :: _) [_]
   refine AA (.bool (decide (((leftN (eQ z0 (p + 2)) zz1.length:Int)) = (0:Int)))) (AT rfl rfl fun _ => BP _ _) rfl ?_
   refine AJ (AD (CC (decide (((leftN (eQ z0 (p + 2)) zz1.length:Int)) = (0:Int))) rfl (fun hb5 => ?_) (fun hb5 => ?_)))
   ·
    have hp5 : ((leftN (eQ z0 (p + 2)) zz1.length:Int)) = (0:Int) := of_decide_eq_true hb5
    refine AF (AC (AA _ (AG rfl) rfl ?_))
    refine AA (.iface 50 (I64 2)) (DH BN rfl rfl) rfl ?_
    refine A2 (D7 121 [Ptr rb 0, .iface 50 (I64 2)] 0 (Ez rb [errV 50 (eQ z0 (p + 2)), SL ao1 zz1.length ca1] 204) _ (fun v e' l' => v = .tuple #[] ∧ e' = (Ez rb [errV 50 (erN (eQ z0 (p + 2)) 2), SL ao1 zz1.length ca1] 204) ∧ l' = []) (AV _ ED rfl) rfl (by rintro v l ⟨rfl, rfl⟩; exact ⟨_, _, rfl, rfl, rfl, rfl, rfl⟩) (fun w1 hw1 => EX rb (eQ z0 (p + 2)) 2 (SL ao1 zz1.length ca1) w1 (by decide) (hw1.en 0 rfl))) rfl ?_
    rintro v1 L1 ⟨_, _, ⟨rfl, rfl, rfl⟩, rfl⟩
    show JL _ _ _ _ ((13, .tuple #[]) :: _) [(Ez rb [errV 50 (erN (eQ z0 (p + 2)) 2), SL ao1 zz1.length ca1] 204)]
    refine AJ (AD (EF (BC (JQ_in_other rfl ?_))))
    refine BC (BC (CX (AD (AF (AC (AA _ (AG rfl) rfl ?_))))))
    refine AA _ (AE rfl) rfl ?_
    refine AJ (AD (BK (BJ (SL none 0 0) (res1 Tryd.results122 (BF rfl)) fun w1 hw1 => ?_)))
    have hb0 : z0.length < p + 2 + 32*hN z0 p := brk_lt hq1 (by have h9 := of_decide_eq_true hb5; omega) (by omega)
    rw [show erN (eQ z0 (p + 2)) 2 = eQ z0 (p + 2 + 32*hN z0 p) from brk_q hq1 (by have h9 := of_decide_eq_true hb5; omega) (by omega)] at hw1
    exact ⟨_, _, rfl, ⟨p + 2 + 32*hN z0 p, ao1, zz1, ca1, 0, rfl, (fun h => absurd h (by omega)), ⟨hA1, by omega, by omega, by omega⟩, by omega, (fun h => absurd h (by omega)), .inl ⟨rfl, rfl, rfl⟩⟩, hw1⟩
   ·
    have hp5 : ¬ (((leftN (eQ z0 (p + 2)) zz1.length:Int)) = (0:Int)) := of_decide_eq_false hb5
    refine BH (AD (AC (AA _ (AG rfl) rfl ?_)))
    refine AA _ (AG rfl) rfl ?_
    refine A2 (BD 152 _ [true] [rb] _ (AV _ Tryd.call152 rfl) rfl (fun w1 hw1 => hasQ_w rb (p + 2) ao1 zz1.length ca1 z0 zz1 w1 (hw1.en 0 rfl) rfl (by omega) (by omega) (by omega) (hA1 _ _ (hr.at (M' := [rb]) hw1 (hw1.apart [0] _ rfl))) hq1)) rfl ?_
    rintro v1 L1 ⟨_, ⟨rfl, ao2, zz2, ca2, hq2, ⟨hA2, hb6, hb7, hb8⟩, rfl⟩, rfl⟩
    show JL _ _ _ _ ((16, .agg (cu8 (bQ z0 (p + 2) 32)).toArray) :: _) [(Ez rb [errV 50 (eQ z0 (p + 34)), SL ao2 zz2.length ca2] 204)]
    refine A2 (DF 54 32 _ [(0, .agg (cu8 (bQ z0 (p + 2) 32)).toArray)] (cu8 (bQ z0 (p + 2) 32)) CP D2 Tryd.zeroValue54 rfl rfl rfl (fill_firstS (CG _ _ _) (by kernel_rfl))) rfl ?_
    rintro v1 L1 ⟨nb1, hnb1, rfl, rfl⟩
    show JL _ _ _ _ ((17, Slc nb1 0 1 1) :: _) [_, (Ez nb1 (cu8 (bQ z0 (p + 2) 32)) 54)]
    refine A2 (Step_appH 65 54 32 32 (.agg (cu8 (zr8 32)).toArray) [false, false] (SL none 0 0) 0 ([] : List UInt8) (bQ z0 (p + 2) 32) (some ⟨nb1, 0, none⟩) 1 1 1 32 CP (by kernel_rfl) (by kernel_rfl) (by decide) rfl (.inl ⟨rfl, rfl, rfl, rfl, by omega⟩) rfl (by have h : (bQ z0 (p + 2) 32).length = 32 := (CG _ _ _); omega) (SrcAt.mem (AR 1 rfl (AN _))) (by omega) (by unfold maxLen; omega) (by omega) (by omega)) rfl ?_
    rintro v1 L1 ⟨nb2, sp1, cp1, hg1, rfl, rfl, ha1, ha2, ha3, ha4⟩
    show JL _ _ _ _ ((18, Slc nb2 0 1 cp1) :: _) [_, _, (Ez nb2 (cu8 (([] : List UInt8) ++ (bQ z0 (p + 2) 32)) ++ sp1) 54)]
    refine AA _ (AE rfl) rfl ?_
    refine AJ (BU (AD (AC (AA (U64 ((0:UInt64) + (1:UInt64))) (AT rfl rfl fun _ => bin_add_u64 (0:UInt64) (1:UInt64)) rfl ?_))))
    refine AA _ (AG rfl) rfl ?_
    refine AJ (DU (CD [true, false, true] ?_))
    show K _ _ [_, _] _
    refine EZ (.inr ((p + 34), 1, ([] : List UInt8) ++ (bQ z0 (p + 2) 32), nb2, sp1, cp1, ao2, zz2, ca2)) ⟨by omega, by omega, by omega, hQ_one _ _, (by have h := ha1; omega), (by have h := ha2; omega), by omega, by omega, (fun h8 => (hq2 (by omega)).trans (by congr 1 <;> omega)), (fun w M h => hA2 w M (hA1 w M h)), by omega, by omega, by omega⟩ (by dsimp only; omega) (Sub.cons rfl (Sub.cons rfl (Sub.cons rfl (Sub.cons (congrArg (fun x => some (U64 x)) (rfl)) (Sub.all rfl))))) (by first | rfl | (simp; done))
  ·
   have hp4 : ¬ ((0:UInt64) < (vQ z0 p 2)) := of_decide_eq_false hb4
   refine EF (BC (BC (CX (AD (AF (AC (AA _ (AG rfl) rfl ?_)))))))
   refine AA _ (AE rfl) rfl ?_
   refine AJ (AD (BK (BJ (SL none 0 0) (res1 Tryd.results122 (BF rfl)) fun w1 hw1 => ?_)))
   have hge : hN z0 p ≤ 0 := u64_ge (i := 0) (by omega) (of_decide_eq_false hb4)
   have hQ9 : (p + 2) = p + 2 + 32*hN z0 p := by omega
   rw [hQ9] at hw1
   exact ⟨_, _, rfl, ⟨p + 2 + 32*hN z0 p, ao1, zz1, ca1, 0, rfl, (by rw [← hQ9]; exact hq1), ⟨hA1, by omega, by omega, by omega⟩, by omega, (fun _ => by omega), .inl ⟨rfl, rfl, rfl⟩⟩, hw1⟩
 ·
  obtain ⟨hip, hi1, hi2, hi3, hi4, hi5, hi6, hi7, hi8, hi9, hi10, hi11, hi12⟩ := hx
  show JC _ _ _ [_, _, _, _, _] [_, _]
  refine AF (AC (AA (.bool (decide ((UInt64.ofNat i) < (vQ z0 p 2)))) (AT rfl rfl fun _ => bin_lss_u64 (UInt64.ofNat i) (vQ z0 p 2)) rfl ?_))
  refine AJ (AD (AF (CC (decide ((UInt64.ofNat i) < (vQ z0 p 2))) rfl (fun hb9 => ?_) (fun hb9 => ?_))))
  ·
   have hp9 : (UInt64.ofNat i) < (vQ z0 p 2) := of_decide_eq_true hb9
   refine BH (AD (AF (B5 (AF (AF ?_)))))
   have hlt : i < hN z0 p := u64_lt (i := i) (by omega) (of_decide_eq_true hb9)
   refine AC (AA _ (AG rfl) rfl ?_)
   refine A7 (A3 61 _ (I64 ((leftN (eQ z0 pp) zz.length:Int))) (AV _ EA rfl) (fun w1 hw1 => left_w rb (eQ z0 pp) aa zz.length cc w1 (RdA.of hw1 (AR 0 rfl (AN _)) (by simp)))) rfl ?_
   show JL _ _ _ _ ((9, I64 ((leftN (eQ z0 pp) zz.length:Int))) :: _) [_, _]
   refine AA (.bool (decide (((leftN (eQ z0 pp) zz.length:Int)) = (0:Int)))) (AT rfl rfl fun _ => BP _ _) rfl ?_
   refine AJ (AD (CC (decide (((leftN (eQ z0 pp) zz.length:Int)) = (0:Int))) rfl (fun hb10 => ?_) (fun hb10 => ?_)))
   ·
    have hp10 : ((leftN (eQ z0 pp) zz.length:Int)) = (0:Int) := of_decide_eq_true hb10
    refine AF (AC (AA _ (AG rfl) rfl ?_))
    refine AA (.iface 50 (I64 2)) (DH BN rfl rfl) rfl ?_
    refine A2 (D7 121 [Ptr rb 0, .iface 50 (I64 2)] 0 (Ez rb [errV 50 (eQ z0 pp), SL aa zz.length cc] 204) _ (fun v e' l' => v = .tuple #[] ∧ e' = (Ez rb [errV 50 (erN (eQ z0 pp) 2), SL aa zz.length cc] 204) ∧ l' = []) (AV _ ED rfl) rfl (by rintro v l ⟨rfl, rfl⟩; exact ⟨_, _, rfl, rfl, rfl, rfl, rfl⟩) (fun w1 hw1 => EX rb (eQ z0 pp) 2 (SL aa zz.length cc) w1 (by decide) (hw1.en 0 rfl))) rfl ?_
    rintro v1 L1 ⟨_, _, ⟨rfl, rfl, rfl⟩, rfl⟩
    show JL _ _ _ _ ((13, .tuple #[]) :: _) [(Ez rb [errV 50 (erN (eQ z0 pp) 2), SL aa zz.length cc] 204), _]
    refine AJ (AD (EF (BC (JQ_in_other rfl ?_))))
    refine BC (BC (CX (AD (AF (AC (AA _ (AG rfl) rfl ?_))))))
    refine AA _ (AE rfl) rfl ?_
    refine AJ (AD (BK (BJ (Slc gb 0 i cp) (res1 Tryd.results122 (BF rfl)) fun w1 hw1 => ?_)))
    have hb0 : z0.length < p + 2 + 32*hN z0 p := brk_lt hi8 (by have h9 := of_decide_eq_true hb10; omega) (by omega)
    rw [show erN (eQ z0 pp) 2 = eQ z0 (p + 2 + 32*hN z0 p) from brk_q hi8 (by have h9 := of_decide_eq_true hb10; omega) (by omega)] at hw1
    exact ⟨_, _, rfl, ⟨p + 2 + 32*hN z0 p, aa, zz, cc, i, rfl, (fun h => absurd h (by omega)), ⟨hi9, by omega, by omega, by omega⟩, by omega, (fun h => absurd h (by omega)), .inr ⟨hi1, gb, sp, cp, rfl, (by rw [hi3]), hi5, hi6, hi7⟩⟩, hw1⟩
   ·
    have hp10 : ¬ (((leftN (eQ z0 pp) zz.length:Int)) = (0:Int)) := of_decide_eq_false hb10
    refine BH (AD (AC (AA _ (AG rfl) rfl ?_)))
    refine AA _ (AG rfl) rfl ?_
    refine A2 (BD 152 _ [true, false] [rb] _ (AV _ Tryd.call152 rfl) rfl (fun w1 hw1 => hasQ_w rb pp aa zz.length cc z0 zz w1 (hw1.en 0 rfl) rfl (by omega) (by omega) (by omega) (hi9 _ _ (hr.at (M' := [rb]) hw1 (hw1.apart [0] _ rfl))) hi8)) rfl ?_
    rintro v1 L1 ⟨_, ⟨rfl, ao3, zz3, ca3, hq3, ⟨hA3, hb11, hb12, hb13⟩, rfl⟩, rfl⟩
    show JL _ _ _ _ ((16, .agg (cu8 (bQ z0 pp 32)).toArray) :: _) [_, (Ez rb [errV 50 (eQ z0 (pp + 32)), SL ao3 zz3.length ca3] 204)]
    refine A2 (DF 54 32 _ [(0, .agg (cu8 (bQ z0 pp 32)).toArray)] (cu8 (bQ z0 pp 32)) CP D2 Tryd.zeroValue54 rfl rfl rfl (fill_firstS (CG _ _ _) (by kernel_rfl))) rfl ?_
    rintro v1 L1 ⟨nb3, hnb3, rfl, rfl⟩
    show JL _ _ _ _ ((17, Slc nb3 0 1 1) :: _) [_, _, (Ez nb3 (cu8 (bQ z0 pp 32)) 54)]
    refine A2 (Step_appH 65 54 32 32 (.agg (cu8 (zr8 32)).toArray) [true, false, false] (Slc gb 0 i cp) i xx (bQ z0 pp 32) (some ⟨nb3, 0, none⟩) 1 1 (i + 1) (32*i + 32) CP (by kernel_rfl) (by kernel_rfl) (by decide) rfl (.inr ⟨gb, sp, cp, rfl, rfl, (by have h : (xx).length = (32*i) := hi4; omega), (by first | exact hi5 | omega), (by omega), (by omega)⟩) rfl (by have h : (bQ z0 pp 32).length = 32 := (CG _ _ _); omega) (SrcAt.mem (AR 2 rfl (AN _))) (by omega) (by unfold maxLen; omega) (by omega) (by omega)) rfl ?_
    rintro v1 L1 ⟨nb4, sp2, cp2, hg2, rfl, rfl, ha5, ha6, ha7, ha8⟩
    show JL _ _ _ _ ((18, Slc nb4 0 (i + 1) cp2) :: _) [_, _, (Ez nb4 (cu8 (xx ++ (bQ z0 pp 32)) ++ sp2) 54)]
    refine AA _ (AE rfl) rfl ?_
    refine AJ (BU (AD (AC (AA (U64 ((UInt64.ofNat i) + (1:UInt64))) (AT rfl rfl fun _ => bin_add_u64 (UInt64.ofNat i) (1:UInt64)) rfl ?_))))
    refine AA _ (AG rfl) rfl ?_
    refine AJ (DU (CD [true, false, true] ?_))
    show K _ _ [_, _] _
    refine EZ (.inr ((pp + 32), i + 1, xx ++ (bQ z0 pp 32), nb4, sp2, cp2, ao3, zz3, ca3)) ⟨by omega, by omega, by omega, (by rw [hQ_succ, hi3, ← hip]), (by have h := ha5; omega), (by have h := ha6; omega), by omega, by omega, (fun h8 => (hq3 (by omega)).trans (by congr 1 <;> omega)), (fun w M h => hA3 w M (hi9 w M h)), by omega, by omega, by omega⟩ (by dsimp only; omega) (Sub.cons rfl (Sub.cons rfl (Sub.cons rfl (Sub.cons (congrArg (fun x => some (U64 x)) (u64_suc i)) (Sub.all rfl))))) (by first | rfl | (simp; done))
  ·
   have hp9 : ¬ ((UInt64.ofNat i) < (vQ z0 p 2)) := of_decide_eq_false hb9
   refine EF (BC (BC (CX (AD (AF (AC (AA _ (AG rfl) rfl ?_)))))))
   refine AA _ (AE rfl) rfl ?_
   refine AJ (AD (BK (BJ (Slc gb 0 i cp) (res1 Tryd.results122 (BF rfl)) fun w1 hw1 => ?_)))
   have hge : hN z0 p ≤ i := u64_ge (i := i) (by omega) (of_decide_eq_false hb9)
   have hQ9 : pp = p + 2 + 32*hN z0 p := by omega
   rw [hQ9] at hw1
   exact ⟨_, _, rfl, ⟨p + 2 + 32*hN z0 p, aa, zz, cc, i, rfl, (by rw [← hQ9]; exact hi8), ⟨hi9, by omega, by omega, by omega⟩, by omega, (fun _ => by omega), .inr ⟨hi1, gb, sp, cp, rfl, (by rw [hi3]), hi5, hi6, hi7⟩⟩, hw1⟩
theorem bld67_012 {w : World} {v0 : Value} {v1 : Value} {v2 : Value} (h0 : v0.cells = [v0].toArray) (h1 : v1.cells = [v1].toArray) (h2 : v2.cells = [v2].toArray) : (Instr.build 67 ([(0, v0), (1, v1), (2, v2)] : List (Nat × Value)).toArray).run Tryd.prog w = .ok (.agg (((((((([v0] : List Value) ++ ([v1] : List Value)) ++ ([v2] : List Value)) ++ ([.slice none 0 0] : List Value)) ++ ([.bool false] : List Value)) ++ ([U64 0, U64 0, I64 0, .slice none 0 0, .slice none 0 0, U64 0] ++ cu8 (zr8 16) : List Value)) ++ ([.slice none 0 0] : List Value)) ++ ([.slice none 0 0] : List Value)).toArray) w :=
 ET (places := #[(0, 1), (1, 1), (2, 1), (3, 1), (4, 1), (5, 22), (27, 1), (28, 1)]) (Z := (([U64 0] : List Value) ++ (([I64 0] : List Value) ++ (([I64 0] : List Value) ++ (([.slice none 0 0] : List Value) ++ (([.bool false] : List Value) ++ (([U64 0, U64 0, I64 0, .slice none 0 0, .slice none 0 0, U64 0] ++ cu8 (zr8 16) : List Value) ++ (([.slice none 0 0] : List Value) ++ (([.slice none 0 0] : List Value) ++ []))))))))) (fun _ => by kernel_rfl) AK (fun _ => by kernel_rfl) ((FV ([U64 0] : List Value) (([I64 0] : List Value) ++ (([I64 0] : List Value) ++ (([.slice none 0 0] : List Value) ++ (([.bool false] : List Value) ++ (([U64 0, U64 0, I64 0, .slice none 0 0, .slice none 0 0, U64 0] ++ cu8 (zr8 16) : List Value) ++ (([.slice none 0 0] : List Value) ++ (([.slice none 0 0] : List Value) ++ []))))))) ([v0] : List Value) h0 (by simp [AO]) rfl).trans ((E2 ([v0] : List Value) ([I64 0] : List Value) (([I64 0] : List Value) ++ (([.slice none 0 0] : List Value) ++ (([.bool false] : List Value) ++ (([U64 0, U64 0, I64 0, .slice none 0 0, .slice none 0 0, U64 0] ++ cu8 (zr8 16) : List Value) ++ (([.slice none 0 0] : List Value) ++ (([.slice none 0 0] : List Value) ++ [])))))) ([v1] : List Value) h1 (by simp [AO]) rfl).trans ((E2 (([v0] : List Value) ++ ([v1] : List Value)) ([I64 0] : List Value) (([.slice none 0 0] : List Value) ++ (([.bool false] : List Value) ++ (([U64 0, U64 0, I64 0, .slice none 0 0, .slice none 0 0, U64 0] ++ cu8 (zr8 16) : List Value) ++ (([.slice none 0 0] : List Value) ++ (([.slice none 0 0] : List Value) ++ []))))) ([v2] : List Value) h2 (by simp [AO]) rfl).trans ((EW ((([v0] : List Value) ++ ([v1] : List Value)) ++ ([v2] : List Value)) ([.slice none 0 0] : List Value) (([.bool false] : List Value) ++ (([U64 0, U64 0, I64 0, .slice none 0 0, .slice none 0 0, U64 0] ++ cu8 (zr8 16) : List Value) ++ (([.slice none 0 0] : List Value) ++ (([.slice none 0 0] : List Value) ++ []))))).trans ((EW (((([v0] : List Value) ++ ([v1] : List Value)) ++ ([v2] : List Value)) ++ ([.slice none 0 0] : List Value)) ([.bool false] : List Value) (([U64 0, U64 0, I64 0, .slice none 0 0, .slice none 0 0, U64 0] ++ cu8 (zr8 16) : List Value) ++ (([.slice none 0 0] : List Value) ++ (([.slice none 0 0] : List Value) ++ [])))).trans ((EW ((((([v0] : List Value) ++ ([v1] : List Value)) ++ ([v2] : List Value)) ++ ([.slice none 0 0] : List Value)) ++ ([.bool false] : List Value)) ([U64 0, U64 0, I64 0, .slice none 0 0, .slice none 0 0, U64 0] ++ cu8 (zr8 16) : List Value) (([.slice none 0 0] : List Value) ++ (([.slice none 0 0] : List Value) ++ []))).trans ((EW (((((([v0] : List Value) ++ ([v1] : List Value)) ++ ([v2] : List Value)) ++ ([.slice none 0 0] : List Value)) ++ ([.bool false] : List Value)) ++ ([U64 0, U64 0, I64 0, .slice none 0 0, .slice none 0 0, U64 0] ++ cu8 (zr8 16) : List Value)) ([.slice none 0 0] : List Value) (([.slice none 0 0] : List Value) ++ [])).trans ((EW ((((((([v0] : List Value) ++ ([v1] : List Value)) ++ ([v2] : List Value)) ++ ([.slice none 0 0] : List Value)) ++ ([.bool false] : List Value)) ++ ([U64 0, U64 0, I64 0, .slice none 0 0, .slice none 0 0, U64 0] ++ cu8 (zr8 16) : List Value)) ++ ([.slice none 0 0] : List Value)) ([.slice none 0 0] : List Value) []).trans (by simp [Instr.fill])))))))))
theorem bld163_0 {w : World} {v0 : Value} (h0 : v0.cells = [v0].toArray) : (Instr.build 163 ([(0, v0)] : List (Nat × Value)).toArray).run Tryd.prog w = .ok (.agg (([v0] : List Value) ++ ([U64 0] ++ cu8 (zr8 32) ++ cu8 (zr8 16) : List Value)).toArray) w :=
 ET (places := #[(0, 1), (1, 49)]) (Z := (([.bool false] : List Value) ++ (([U64 0] ++ cu8 (zr8 32) ++ cu8 (zr8 16) : List Value) ++ []))) (fun _ => by kernel_rfl) DS (fun _ => by kernel_rfl) ((FV ([.bool false] : List Value) (([U64 0] ++ cu8 (zr8 32) ++ cu8 (zr8 16) : List Value) ++ []) ([v0] : List Value) h0 (by simp [AO]) rfl).trans ((EW ([v0] : List Value) ([U64 0] ++ cu8 (zr8 32) ++ cu8 (zr8 16) : List Value) []).trans (by simp [Instr.fill])))
set_option maxHeartbeats 8000000 in
theorem parp_c (ax : Option Addr) (n c : Nat) (z0 : List UInt8)  (w : World) (ha : ax.isNone = false) (hz : z0.length = n) (hn : n ≤ 200000) (hc : n ≤ c) (hcm : c ≤ maxLen) (hr : RdB w [] ax z0)  : Calls Tryd.prog 55 #[SL ax n c] w (Post w [] (fun v L => (∃ rq rk er nj lj th pv ep kd ni l ns ls bl tg na xa nb xb g0 cs0 T0 a0 c0 g1 cs1 T1 a1 c1 g2 cs2 T2 a2 c2 g3 cs3 T3 a3 c3 g4 cs4 T4 a4 c4, GRp z0 rq rk er lj th pv ep kd l ls bl tg na xa nb xb ∧ lj.length = nj ∧ l.length = ni ∧ ls.length = ns ∧ tg.length = 16 ∧ nj ≤ 256 ∧ ni ≤ 256 ∧ ns ≤ 256 ∧ xa.length = na*32 ∧ xb.length = nb*32 ∧ v = .tuple #[.agg (V0 rq rk er a0 nj c0 th pv ep kd a1 ni c1 a2 ns c2 bl tg a3 na c3 a4 nb c4).toArray, .nilIface] ∧ L = [(Ez g0 cs0 T0), (Ez g1 cs1 T1), (Ez g2 cs2 T2), (Ez g3 cs3 T3), (Ez g4 cs4 T4)] ∧ Gh (lj.flatMap itemC) g0 cs0 a0 ∧ nj ≤ c0 ∧ c0 ≤ maxLen ∧ Gh (cu64 l) g1 cs1 a1 ∧ ni ≤ c1 ∧ c1 ≤ maxLen ∧ Gh (ls.flatMap sealC) g2 cs2 a2 ∧ ns ≤ c2 ∧ c2 ≤ maxLen ∧ Gh (cu8 xa) g3 cs3 a3 ∧ na ≤ c3 ∧ c3 ≤ maxLen ∧ Gh (cu8 xb) g4 cs4 a4 ∧ nb ≤ c4 ∧ c4 ≤ maxLen) ∨ (BadRp z0 ∧ v = .tuple #[.agg (V7).toArray, .iface 50 (I64 2)] ∧ L = []))) := by
 have hmx : maxLen = 9223372036854775807 := rfl
 have hk8 := vQ_lt1 z0 8
 have hk9 := vQ_lt1 z0 9
 have hk10 := vQ_lt1 z0 10
 refine enter w [] 109 [] [SL ax n c] Tryd.func55 rfl rfl (by simp) (BZ (by simp) (by simp) (by simp)) ?_
 show JC _ _ _ [(0, SL ax n c)] _
 refine AF (AC (A2 (C4 _ (V7) Tryd.zeroValue67 (by kernel_rfl)) rfl ?_))
 rintro v1 L1 ⟨nb1, hnb1, rfl, rfl⟩
 show JL _ _ _ _ (_ :: _) [_]
 refine AA _ (AE rfl) rfl ?_
 refine AJ (AD (AF (AC (AA _ (AG rfl) rfl ?_))))
 refine A2 (C6 59 _ _ (AV _ Tryd.call59 rfl) (fun w1 hw1 => fromQ_w ax n c z0 w1 ha hz (by omega) (hr.at (M' := []) hw1 (by simp)))) rfl ?_
 rintro v1 L1 ⟨_, ⟨nb2, nb3, sp1, cp1, rfl, rfl, hc1, hc2, hc3⟩, rfl⟩
 show JL _ _ _ _ ((17, Ptr nb2 0) :: _) [_, (Ez nb2 [errV 50 (eQ z0 0), SL (some ⟨nb3, 0, none⟩) n cp1] 204), (Ez nb3 (cu8 z0 ++ sp1) 5)]
 refine AA _ (AE rfl) rfl ?_
 refine AJ (AD (AF (AC (AA _ (AG rfl) rfl ?_))))
 have hz1 : (z0).length = n := hz
 refine A2 (BD 109 _ [false, true, false] [nb2] _ (AV _ C7 rfl) rfl (fun w1 hw1 => FD nb2 0 8 (some ⟨nb3, 0, none⟩) n cp1 z0 z0 w1 (hw1.en 1 rfl) hz (by omega) (by omega) (by omega) ((fun _ _ h => h) _ _ (RdB.of hw1 (AR 2 rfl (AI (AN _))) (hw1.nm 2 1 rfl rfl (by decide)))) (Lq.zero z0) (by unfold Szd; omega))) rfl ?_
 rintro v1 L1 ⟨_, ⟨rfl, ao1, zz1, ca1, hq1, ⟨hA1, hb1, hb2, hb3⟩, rfl⟩, rfl⟩
 show JL _ _ _ _ ((19, U64 (vQ z0 0 8)) :: _) [_, _, (Ez nb2 [errV 50 (eQ z0 8), SL ao1 zz1.length ca1] 204)]
 refine AA _ (AG rfl) rfl ?_
 refine A2 (BD 109 _ [false, false, true] [nb2] _ (AV _ C7 rfl) rfl (fun w1 hw1 => FD nb2 8 1 ao1 zz1.length ca1 z0 zz1 w1 (hw1.en 2 rfl) rfl (by omega) (by omega) (by omega) (hA1 _ _ (RdB.of hw1 (AR 1 rfl (AI (AN _))) (hw1.nm 1 2 rfl rfl (by decide)))) hq1 (by unfold Szd; omega))) rfl ?_
 rintro v1 L1 ⟨_, ⟨rfl, ao2, zz2, ca2, hq2, ⟨hA2, hb4, hb5, hb6⟩, rfl⟩, rfl⟩
 show JL _ _ _ _ ((21, U64 (vQ z0 8 1)) :: _) [_, _, (Ez nb2 [errV 50 (eQ z0 9), SL ao2 zz2.length ca2] 204)]
 refine AA (I64 (((vQ z0 8 1).toNat:Int))) (CV _ _ rfl fun _ => E5 (by rw [AU]; rfl) A4 (vQ z0 8 1) _ rfl (by omega)) rfl ?_
 refine AA _ (AG rfl) rfl ?_
 refine A2 (BD 109 _ [false, false, true] [nb2] _ (AV _ C7 rfl) rfl (fun w1 hw1 => FD nb2 9 1 ao2 zz2.length ca2 z0 zz2 w1 (hw1.en 2 rfl) rfl (by omega) (by omega) (by omega) ((fun w M h => hA2 w M (hA1 w M h)) _ _ (RdB.of hw1 (AR 1 rfl (AI (AN _))) (hw1.nm 1 2 rfl rfl (by decide)))) hq2 (by unfold Szd; omega))) rfl ?_
 rintro v1 L1 ⟨_, ⟨rfl, ao3, zz3, ca3, hq3, ⟨hA3, hb7, hb8, hb9⟩, rfl⟩, rfl⟩
 show JL _ _ _ _ ((24, U64 (vQ z0 9 1)) :: _) [_, _, (Ez nb2 [errV 50 (eQ z0 10), SL ao3 zz3.length ca3] 204)]
 refine AA (I64 (((vQ z0 9 1).toNat:Int))) (CV _ _ rfl fun _ => E5 (by rw [AU]; rfl) A4 (vQ z0 9 1) _ rfl (by omega)) rfl ?_
 refine AA (.agg (V0 (vQ z0 0 8) (((vQ z0 8 1).toNat:Int)) (((vQ z0 9 1).toNat:Int)) none 0 0 false 0 0 0 none 0 0 none 0 0 0 (zr8 16) none 0 0 none 0 0).toArray) (CY [(0, U64 (vQ z0 0 8)), (1, I64 (((vQ z0 8 1).toNat:Int))), (2, I64 (((vQ z0 9 1).toNat:Int)))] _ rfl (fun _ => (bld67_012 rfl rfl rfl ).trans (by first | rfl | simp only [List.append_assoc, List.cons_append, List.nil_append]))) rfl ?_
 refine A2 (C4 _ (V7) Tryd.zeroValue67 (by kernel_rfl)) rfl ?_
 rintro v1 L1 ⟨nb4, hnb4, rfl, rfl⟩
 show JL _ _ _ _ (_ :: _) [_, _, _, _]
 refine A7 (BS 3 nb4 29 _ 67 (V0 (vQ z0 0 8) (((vQ z0 8 1).toNat:Int)) (((vQ z0 9 1).toNat:Int)) none 0 0 false 0 0 0 none 0 0 none 0 0 0 (zr8 16) none 0 0 none 0 0) rfl rfl rfl BQ (by simp [(AO 16)]) (B0 (B0 (by simp [Value.oneCell']) CZ) (by simp [Value.oneCell'])) (by simp [(AO 16)]) (BW (by simp [(AO 16), (AO 16)]))) rfl ?_
 show JL _ _ _ _ _ [_, _, _, _]
 refine AJ (AD (AF (AC (AA _ (AL rfl (BR B8 BQ (by simp [(AO 16)]) (AR 3 rfl (AN _)))) rfl ?_))))
 refine A2 (C6 95 _ _ (AV _ Tryd.call95 rfl) (fun w1 hw1 => partsG_c (vQ z0 0 8) (((vQ z0 8 1).toNat:Int)) (((vQ z0 9 1).toNat:Int)) none 0 0 ([] : List ItemR) false (0:UInt64) (0:UInt64) (0:Int) none 0 0 ([] : List UInt64) none 0 0 ([] : List SealR) (0:UInt64) (zr8 16) none 0 0 [] none 0 0 [] w1 (AO 16))) rfl ?_
 rintro v1 L1 ⟨_, ⟨sg1, cs1, nT1, rfl, rfl⟩, rfl⟩
 show JL _ _ _ _ ((29, .tuple #[.bool (itB (((vQ z0 9 1).toNat:Int)) (((vQ z0 8 1).toNat:Int))), .bool (chB (((vQ z0 9 1).toNat:Int)) (((vQ z0 8 1).toNat:Int)) false), .bool (aB (((vQ z0 9 1).toNat:Int)) (((vQ z0 8 1).toNat:Int)) false), .bool (bB (((vQ z0 9 1).toNat:Int)) (((vQ z0 8 1).toNat:Int)) false)]) :: _) [_, _, _, _, (Ez sg1 cs1 nT1)]
 refine AA _ (AG rfl) rfl (AA _ (BI rfl rfl) rfl (AA _ (BI rfl rfl) rfl (AA _ (BI rfl rfl) rfl (AA _ (BI rfl rfl) rfl (AA _ (AE rfl) rfl (AA _ (AE rfl) rfl (AA _ (AE rfl) rfl (AA _ (AE rfl) rfl ?_))))))))
 refine AJ (AD (AF (F9 (ι := Nat × Option Addr × List ItemR × Nat × Nat × Nat × List Value × Nat × Option Addr × List UInt8 × Nat) (fun ⟨qa, ja, jl, jn, jc, jg, jcs, jT, ra, zr, rc⟩ => [(2, Ptr nb1 0), (3, .nilIface), (4, Ptr nb2 0), (5, Ptr nb4 0)]) (fun ⟨qa, ja, jl, jn, jc, jg, jcs, jT, ra, zr, rc⟩ => [(Ez nb1 (V7) 67), (Ez nb3 (cu8 z0 ++ sp1) 5), (Ez nb2 [errV 50 (eQ z0 qa), SL ra zr.length rc] 204), (Ez nb4 (V0 (vQ z0 0 8) (((vQ z0 8 1).toNat:Int)) (((vQ z0 9 1).toNat:Int)) ja jn jc false 0 0 0 none 0 0 none 0 0 0 (zr8 16) none 0 0 none 0 0) 67), (Ez jg jcs jT)]) (fun ⟨qa, ja, jl, jn, jc, jg, jcs, jT, ra, zr, rc⟩ => qa = P1 z0 ∧ (qa ≤ z0.length → jl = ljZ z0) ∧ jl.length = jn ∧ jn ≤ 256 ∧ Gh (jl.flatMap itemC) jg jcs ja ∧ jn ≤ jc ∧ jc ≤ maxLen ∧ Lq z0 zr qa ∧ (∀ w M, RdB w M (some ⟨nb3, 0, none⟩) z0 → RdB w M ra zr) ∧ zr.length ≤ rc ∧ rc ≤ maxLen ∧ zr.length ≤ n) ?_ ?_)))
 ·
  refine AF (AC (AA _ (AG rfl) rfl ?_))
  refine AJ (AD (CC (itB (((vQ z0 9 1).toNat:Int)) (((vQ z0 8 1).toNat:Int))) rfl (fun hb10 => ?_) (fun hb10 => ?_)))
  ·
   refine AF (AC (AA _ (AG rfl) rfl ?_))
   refine A2 (BD 109 _ [false, false, true, false, false] [nb2] _ (AV _ C7 rfl) rfl (fun w1 hw1 => FD nb2 10 1 ao3 zz3.length ca3 z0 zz3 w1 (hw1.en 2 rfl) rfl (by omega) (by omega) (by omega) ((fun w M h => hA3 w M (hA2 w M (hA1 w M h))) _ _ (RdB.of hw1 (AR 1 rfl (AI (AN _))) (hw1.nm 1 2 rfl rfl (by decide)))) hq3 (by unfold Szd; omega))) rfl ?_
   rintro v1 L1 ⟨_, ⟨rfl, ao4, zz4, ca4, hq4, ⟨hA4, hb11, hb12, hb13⟩, rfl⟩, rfl⟩
   show JL _ _ _ _ ((36, U64 (vQ z0 10 1)) :: _) [_, _, _, _, (Ez nb2 [errV 50 (eQ z0 11), SL ao4 zz4.length ca4] 204)]
   refine AA (I64 (((vQ z0 10 1).toNat:Int))) (CV _ _ rfl fun _ => E5 (by rw [AU]; rfl) A4 (vQ z0 10 1) _ rfl (by omega)) rfl ?_
   refine AA (I64 (((vQ z0 10 1).toNat:Int) + 1)) (AT rfl rfl fun _ => DK _ _ (((vQ z0 10 1).toNat:Int) + 1) (by omega) (by omega)) rfl ?_
   refine AA _ (AE rfl) rfl ?_
   refine AJ (AD (AF (AF ?_)))
   obtain ⟨m, hm1, hm2, hm3⟩ := minI hq4
   refine AC (AA _ (AG rfl) rfl ?_)
   refine AA _ (AG rfl) rfl ?_
   refine A7 (A3 61 _ (I64 ((leftN (eQ z0 11) zz4.length:Int))) (AV _ EA rfl) (fun w1 hw1 => left_w nb2 (eQ z0 11) ao4 zz4.length ca4 w1 (RdA.of hw1 (AR 4 rfl (AN _)) (by simp)))) rfl ?_
   show JL _ _ _ _ ((41, I64 ((leftN (eQ z0 11) zz4.length:Int))) :: _) [_, _, _, _, _]
   refine AA (I64 m) (Ev_min rfl rfl hm1) rfl (AA _ (AG rfl) rfl ?_)
   refine AJ (AD (B5 (EO (ι := (Unit) ⊕ (Nat × Nat × List ItemR × Nat × List Value × Nat × Option Addr × List UInt8 × Nat)) (fun x => match x with | .inl _ => [(2, Ptr nb1 0), (3, .nilIface), (4, Ptr nb2 0), (5, Ptr nb4 0), (10, I64 (((vQ z0 10 1).toNat:Int) + 1)), (42, I64 m), (43, I64 0)] | .inr ⟨qi, i, ll, gb, sp, cp, aa, zz, cc⟩ => [(2, Ptr nb1 0), (3, .nilIface), (4, Ptr nb2 0), (5, Ptr nb4 0), (10, I64 (((vQ z0 10 1).toNat:Int) + 1)), (42, I64 m), (43, I64 i)]) (fun x => match x with | .inl _ => [(Ez nb1 (V7) 67), (Ez nb3 (cu8 z0 ++ sp1) 5), (Ez nb4 (V0 (vQ z0 0 8) (((vQ z0 8 1).toNat:Int)) (((vQ z0 9 1).toNat:Int)) none 0 0 false 0 0 0 none 0 0 none 0 0 0 (zr8 16) none 0 0 none 0 0) 67), (Ez sg1 cs1 nT1), (Ez nb2 [errV 50 (eQ z0 11), SL ao4 zz4.length ca4] 204)] | .inr ⟨qi, i, ll, gb, sp, cp, aa, zz, cc⟩ => [(Ez nb1 (V7) 67), (Ez nb3 (cu8 z0 ++ sp1) 5), (Ez nb4 ([U64 (vQ z0 0 8), I64 (((vQ z0 8 1).toNat:Int)), I64 (((vQ z0 9 1).toNat:Int)), Slc gb 0 i cp, .bool false, U64 0, U64 0, I64 0, SL none 0 0, SL none 0 0, U64 0] ++ cu8 (zr8 16) ++ [SL none 0 0, SL none 0 0]) 67), (Ez sg1 cs1 nT1), (Ez nb2 [errV 50 (eQ z0 qi), SL aa zz.length cc] 204), (Ez gb ((ll).flatMap itemC ++ sp) 163)]) (fun x => match x with | .inl _ => True | .inr ⟨qi, i, ll, gb, sp, cp, aa, zz, cc⟩ => qi = qI z0 11 i ∧ 0 < i ∧ i ≤ m ∧ ll = itQ z0 11 i ∧ ll.length = i ∧ sp.length = cp * 50 - i * 50 ∧ i ≤ cp ∧ cp ≤ maxLen ∧ Lq z0 zz qi ∧ (∀ w M, RdB w M (some ⟨nb3, 0, none⟩) z0 → RdB w M aa zz) ∧ zz.length ≤ cc ∧ cc ≤ maxLen ∧ zz.length ≤ n) (fun x => match x with | .inl _ => m + 2 | .inr ⟨qi, i, ll, gb, sp, cp, aa, zz, cc⟩ => m + 1 - i) (.inl ()) trivial (Sub.all rfl) rfl ?_)))
   rintro (_ | ⟨qi, i, ll, gb, sp, cp, aa, zz, cc⟩) hx
   ·
    obtain _ := hx
    show JC _ _ _ [_, _, _, _, _, _, _] [_, _, _, _, _]
    refine AF (AC (AA (.bool (decide ((0:Int) < ((m:Int))))) (AT rfl rfl fun _ => CL _ _) rfl ?_))
    refine AJ (AD (AF (CC (decide ((0:Int) < ((m:Int)))) rfl (fun hb14 => ?_) (fun hb14 => ?_))))
    ·
     have hp14 : (0:Int) < ((m:Int)) := of_decide_eq_true hb14
     refine BH (AD (AF (B5 (AF (AC (AA _ (AG rfl) rfl ?_))))))
     refine A2 (BD 119 _ [false, false, false, false, true] [nb2] _ (AV _ Tryd.call119 rfl) rfl (fun w1 hw1 => flgQ_w nb2 11 ao4 zz4.length ca4 z0 zz4 w1 (hw1.en 4 rfl) rfl (by omega) (by omega) (by omega) ((fun w M h => hA4 w M (hA3 w M (hA2 w M (hA1 w M h)))) _ _ (RdB.of hw1 (AR 1 rfl (AI (AN _))) (hw1.nm 1 4 rfl rfl (by decide)))) hq4)) rfl ?_
     rintro v1 L1 ⟨_, ⟨rfl, pq1, ao5, zz5, ca5, hpq1, hq5, ⟨hA5, hb15, hb16, hb17⟩, rfl⟩, rfl⟩
     show JL _ _ _ _ ((46, .bool (fQ z0 11)) :: _) [_, _, _, _, (Ez nb2 [errV 50 (eQ z0 pq1), SL ao5 zz5.length ca5] 204)]
     refine AA (.agg (List.toArray (α := Value) (V3 (fQ z0 11) 0 (zr8 32) (zr8 16)))) (CY [(0, .bool (fQ z0 11))] _ rfl (fun _ => bld163_0 rfl)) rfl ?_
     refine A2 (C4 _ (V9) Tryd.zeroValue163 (by kernel_rfl)) rfl ?_
     rintro v1 L1 ⟨nb5, hnb5, rfl, rfl⟩
     show JL _ _ _ _ (_ :: _) [_, _, _, _, _, _]
     refine A7 (BS 5 nb5 50 _ 163 (V3 (fQ z0 11) 0 (zr8 32) (zr8 16)) rfl rfl rfl DD (by simp [(AO 32), (AO 16)]) (B0 (B0 (by simp [Value.oneCell']) CZ) CZ) (by simp [(AO 32), (AO 16)]) (BW (by simp [(AO 32), (AO 16), (AO 32), (AO 16)]))) rfl ?_
     show JL _ _ _ _ _ [_, _, _, _, _, _]
     refine AJ (AD (AF (AF (AC (AA (Ptr nb5 0) (AB 0 4 1 DS rfl Tryd.sizeOf4 rfl rfl) rfl ?_)))))
     refine AA _ (AL rfl (AX Tryd.isAgg4 (AR 5 rfl (AI (AI (Seg.head)))))) rfl ?_
     refine AJ (AD (CC (fQ z0 11) rfl (fun hb18 => ?_) (fun hb18 => ?_)))
     ·
      refine AC (AA _ (AG rfl) rfl ?_)
      refine A2 (BD 120 _ [false, false, false, false, true, false] [nb2] _ (AV _ Tryd.call120 rfl) rfl (fun w1 hw1 => sreadQ_c nb2 pq1 ao5 zz5.length ca5 z0 zz5 w1 (hw1.en 4 rfl) rfl (by omega) (by omega) (by omega) ((fun w M h => hA5 w M (hA4 w M (hA3 w M (hA2 w M (hA1 w M h))))) _ _ (RdB.of hw1 (AR 1 rfl (AI (AN _))) (hw1.nm 1 4 rfl rfl (by decide)))) hq5)) rfl ?_
      rintro v1 L1 ⟨_, ⟨rfl, ao6, zz6, ca6, hq6, ⟨hA6, hb19, hb20, hb21⟩, rfl⟩, rfl⟩
      show JL _ _ _ _ ((51, .agg ([U64 (vQ z0 pq1 8)] ++ cu8 (bQ z0 (pq1 + 8) 32) ++ cu8 (bQ z0 (pq1 + 40) 16)).toArray) :: _) [_, _, _, _, _, (Ez nb2 [errV 50 (eQ z0 (pq1 + 56)), SL ao6 zz6.length ca6] 204)]
      refine AA (Ptr nb5 1) (AB 1 161 49 DS rfl BY rfl rfl) rfl ?_
      refine A7 (C0 4 nb5 1 49 _ 163 (.agg ([U64 (vQ z0 pq1 8)] ++ cu8 (bQ z0 (pq1 + 8) 32) ++ cu8 (bQ z0 (pq1 + 40) 16)).toArray) ([U64 (vQ z0 pq1 8)] ++ cu8 (bQ z0 (pq1 + 8) 32) ++ cu8 (bQ z0 (pq1 + 40) 16)) (V3 (fQ z0 11) (vQ z0 pq1 8) (bQ z0 (pq1 + 8) 32) (bQ z0 (pq1 + 40) 16)) rfl rfl rfl (by first | rfl | simp) BY (by simp [(CG _ _ _), (CG _ _ _)]) (B0 (B0 (by simp [Value.oneCell']) CZ) CZ) (by simp [(AO 32), (AO 16)]) (lay_splice (a := [.bool (fQ z0 11)]) (b := [U64 0] ++ cu8 (zr8 32) ++ cu8 (zr8 16)) (c := ([] : List Value)) (by simp only [List.append_assoc, List.cons_append, List.nil_append, List.append_nil]) (by simp [(AO 32), (AO 16), (CG _ _ _), (CG _ _ _)]) (by simp [(AO 32), (AO 16), (CG _ _ _), (CG _ _ _)]) (by simp only [List.append_assoc, List.cons_append, List.nil_append, List.append_nil]))) rfl ?_
      show JL _ _ _ _ _ [_, _, _, _, _, _]
      refine AJ (AD (AC (AA (Ptr nb4 3) (AB 3 64 1 AK rfl C1 rfl rfl) rfl ?_)))
      refine AA _ (AL rfl (AX DZ (AR 2 rfl (AI (AI (AH (AH (AH (Seg.head))))))))) rfl (AA _ (AL rfl (BR Tryd.isAgg163 DD (by simp [(CG _ _ _), (CG _ _ _)]) (AR 4 rfl (AN _)))) rfl ?_)
      refine A2 (DF 163 50 _ [(0, .agg (List.toArray (α := Value) (V3 (fQ z0 11) (vQ z0 pq1 8) (bQ z0 (pq1 + 8) 32) (bQ z0 (pq1 + 40) 16))))] (V3 (fQ z0 11) (vQ z0 pq1 8) (bQ z0 (pq1 + 8) 32) (bQ z0 (pq1 + 40) 16)) B2 DD Tryd.zeroValue163 rfl rfl rfl (fill_one (Z := V9) (by simp [(CG _ _ _), (CG _ _ _)]) (by kernel_rfl) (by simp [zr8]))) rfl ?_
      rintro v1 L1 ⟨nb6, hnb6, rfl, rfl⟩
      show JL _ _ _ _ ((56, Slc nb6 0 1 1) :: _) [_, _, _, _, _, _, (Ez nb6 (V3 (fQ z0 11) (vQ z0 pq1 8) (bQ z0 (pq1 + 8) 32) (bQ z0 (pq1 + 40) 16)) 163)]
      refine A2 (Step_appI 64 163 64 (.agg (List.toArray (α := Value) (V9))) [false, false, false, false, false, false, false] (SL none 0 0) 0 ([] : List ItemR) (ItemR.mk (fQ z0 11) (SealR.mk (vQ z0 pq1 8) (bQ z0 (pq1 + 8) 32) (bQ z0 (pq1 + 40) 16) (CG _ _ _) (CG _ _ _))) (some ⟨nb6, 0, none⟩) 1 1 B2 (by kernel_rfl) (by kernel_rfl) rfl (.inl ⟨rfl, rfl, rfl, rfl⟩) rfl (SrcAt.mem (AR 6 rfl (AN _))) (by omega) (by omega) (by omega)) rfl ?_
      rintro v1 L1 ⟨nb7, sp2, cp2, hg1, rfl, rfl, ha1, ha2, ha3, ha4⟩
      show JL _ _ _ _ ((57, Slc nb7 0 1 cp2) :: _) [_, _, _, _, _, _, _, (Ez nb7 ((([] : List ItemR) ++ [(ItemR.mk (fQ z0 11) (SealR.mk (vQ z0 pq1 8) (bQ z0 (pq1 + 8) 32) (bQ z0 (pq1 + 40) 16) (CG _ _ _) (CG _ _ _)))]).flatMap itemC ++ sp2) 163)]
      refine AA (Ptr nb4 3) (AB 3 64 1 AK rfl C1 rfl rfl) rfl ?_
      refine A7 (C0 2 nb4 3 1 _ 67 (Slc nb7 0 1 cp2) ([Slc nb7 0 1 cp2]) ([U64 (vQ z0 0 8), I64 (((vQ z0 8 1).toNat:Int)), I64 (((vQ z0 9 1).toNat:Int)), Slc nb7 0 1 cp2, .bool false, U64 0, U64 0, I64 0, SL none 0 0, SL none 0 0, U64 0] ++ cu8 (zr8 16) ++ [SL none 0 0, SL none 0 0]) rfl rfl rfl rfl C1 rfl (by simp [Value.oneCell']) (by simp [(AO 16)]) (rfl)) rfl ?_
      show JL _ _ _ _ _ [_, _, _, _, _, _, _, _]
      refine AJ (BU (AD (AC (AA (I64 1) (AT rfl rfl fun _ => DK _ _ (1:Int) (by omega) (by omega)) rfl ?_))))
      refine AA _ (AG rfl) rfl ?_
      refine AJ (DU (CD [true, true, true, true, false, true, false, true] ?_))
      show K _ _ [_, _, _, _, _, _] _
      refine EZ (.inr ((pq1 + 56), 1, ([] : List ItemR) ++ [(ItemR.mk (fQ z0 11) (SealR.mk (vQ z0 pq1 8) (bQ z0 (pq1 + 8) 32) (bQ z0 (pq1 + 40) 16) (CG _ _ _) (CG _ _ _)))], nb7, sp2, cp2, ao6, zz6, ca6)) ⟨qI_t (i := 0) (rfl : 11 = qI z0 11 0) hb18 hpq1, by omega, by omega, (congrArg (fun x => [x]) (iQ_t hb18 hpq1 _ _) : _ = itQ z0 11 1), (ha1).trans (by first | rfl | simp +arith), (ha2).trans (by first | rfl | simp +arith), by omega, by omega, hq6, (fun w M h => hA6 w M (hA5 w M (hA4 w M (hA3 w M (hA2 w M (hA1 w M h)))))), by omega, by omega, by omega⟩ (by dsimp only; omega) (Sub.all rfl) rfl
     ·
      refine BH (AD (AC (AA (Ptr nb4 3) (AB 3 64 1 AK rfl C1 rfl rfl) rfl ?_)))
      refine AA _ (AL rfl (AX DZ (AR 2 rfl (AI (AI (AH (AH (AH (Seg.head))))))))) rfl (AA _ (AL rfl (BR Tryd.isAgg163 DD (by simp [(AO 32), (AO 16)]) (AR 5 rfl (AN _)))) rfl ?_)
      refine A2 (DF 163 50 _ [(0, .agg (List.toArray (α := Value) (V3 (fQ z0 11) 0 (zr8 32) (zr8 16))))] (V3 (fQ z0 11) 0 (zr8 32) (zr8 16)) B2 DD Tryd.zeroValue163 rfl rfl rfl (fill_one (Z := V9) (by simp [(AO 32), (AO 16)]) (by kernel_rfl) (by simp [zr8]))) rfl ?_
      rintro v1 L1 ⟨nb8, hnb8, rfl, rfl⟩
      show JL _ _ _ _ ((56, Slc nb8 0 1 1) :: _) [_, _, _, _, _, _, (Ez nb8 (V3 (fQ z0 11) 0 (zr8 32) (zr8 16)) 163)]
      refine A2 (Step_appI 64 163 64 (.agg (List.toArray (α := Value) (V9))) [false, false, false, false, false, false, false] (SL none 0 0) 0 ([] : List ItemR) (ItemR.mk (fQ z0 11) (SealR.mk (0:UInt64) (zr8 32) (zr8 16) (AO 32) (AO 16))) (some ⟨nb8, 0, none⟩) 1 1 B2 (by kernel_rfl) (by kernel_rfl) rfl (.inl ⟨rfl, rfl, rfl, rfl⟩) rfl (SrcAt.mem (AR 6 rfl (AN _))) (by omega) (by omega) (by omega)) rfl ?_
      rintro v1 L1 ⟨nb9, sp3, cp3, hg2, rfl, rfl, ha5, ha6, ha7, ha8⟩
      show JL _ _ _ _ ((57, Slc nb9 0 1 cp3) :: _) [_, _, _, _, _, _, _, (Ez nb9 ((([] : List ItemR) ++ [(ItemR.mk (fQ z0 11) (SealR.mk (0:UInt64) (zr8 32) (zr8 16) (AO 32) (AO 16)))]).flatMap itemC ++ sp3) 163)]
      refine AA (Ptr nb4 3) (AB 3 64 1 AK rfl C1 rfl rfl) rfl ?_
      refine A7 (C0 2 nb4 3 1 _ 67 (Slc nb9 0 1 cp3) ([Slc nb9 0 1 cp3]) ([U64 (vQ z0 0 8), I64 (((vQ z0 8 1).toNat:Int)), I64 (((vQ z0 9 1).toNat:Int)), Slc nb9 0 1 cp3, .bool false, U64 0, U64 0, I64 0, SL none 0 0, SL none 0 0, U64 0] ++ cu8 (zr8 16) ++ [SL none 0 0, SL none 0 0]) rfl rfl rfl rfl C1 rfl (by simp [Value.oneCell']) (by simp [(AO 16)]) (rfl)) rfl ?_
      show JL _ _ _ _ _ [_, _, _, _, _, _, _, _]
      refine AJ (BU (AD (AC (AA (I64 1) (AT rfl rfl fun _ => DK _ _ (1:Int) (by omega) (by omega)) rfl ?_))))
      refine AA _ (AG rfl) rfl ?_
      refine AJ (DU (CD [true, true, true, true, true, false, false, true] ?_))
      show K _ _ [_, _, _, _, _, _] _
      refine EZ (.inr (pq1, 1, ([] : List ItemR) ++ [(ItemR.mk (fQ z0 11) (SealR.mk (0:UInt64) (zr8 32) (zr8 16) (AO 32) (AO 16)))], nb9, sp3, cp3, ao5, zz5, ca5)) ⟨qI_f (i := 0) (rfl : 11 = qI z0 11 0) hb18 hpq1, by omega, by omega, (congrArg (fun x => [x]) (iQ_f hb18 _ _) : _ = itQ z0 11 1), (ha5).trans (by first | rfl | simp +arith), (ha6).trans (by first | rfl | simp +arith), by omega, by omega, hq5, (fun w M h => hA5 w M (hA4 w M (hA3 w M (hA2 w M (hA1 w M h))))), by omega, by omega, by omega⟩ (by dsimp only; omega) (Sub.all rfl) rfl
    ·
     have hp14 : ¬ ((0:Int) < ((m:Int))) := of_decide_eq_false hb14
     refine EF (BC (BC (CX (AD (AF (AC (AA (Ptr nb4 3) (AB 3 64 1 AK rfl C1 rfl rfl) rfl ?_)))))))
     refine AA _ (AL rfl (AX DZ (AR 2 rfl (AI (AI (AH (AH (AH (Seg.head))))))))) rfl ?_
     refine AA (I64 0) (DA B2 rfl) rfl (AA _ (AG rfl) rfl ?_)
     refine AA (.bool (decide ((0:Int) < (((vQ z0 10 1).toNat:Int) + 1)))) (AT rfl rfl fun _ => CL _ _) rfl ?_
     refine AJ (AD (CH _ rfl (decide_eq_true (by omega)) ?_))
     refine AC (AA _ (AG rfl) rfl ?_)
     refine AA (.iface 50 (I64 2)) (DH BN rfl rfl) rfl ?_
     refine A2 (D7 121 [Ptr nb2 0, .iface 50 (I64 2)] 4 (Ez nb2 [errV 50 (eQ z0 11), SL ao4 zz4.length ca4] 204) _ (fun v e' l' => v = .tuple #[] ∧ e' = (Ez nb2 [errV 50 (erN (eQ z0 11) 2), SL ao4 zz4.length ca4] 204) ∧ l' = []) (AV _ ED rfl) rfl (by rintro v l ⟨rfl, rfl⟩; exact ⟨_, _, rfl, rfl, rfl, rfl, rfl⟩) (fun w1 hw1 => EX nb2 (eQ z0 11) 2 (SL ao4 zz4.length ca4) w1 (by decide) (hw1.en 4 rfl))) rfl ?_
     rintro v1 L1 ⟨_, _, ⟨rfl, rfl, rfl⟩, rfl⟩
     show JL _ _ _ _ ((67, .tuple #[]) :: _) [_, _, _, _, (Ez nb2 [errV 50 (erN (eQ z0 11) 2), SL ao4 zz4.length ca4] 204)]
     refine AJ ?_
     have hit : itZ z0 = true := hb10
     have hgl : z0.length < qI z0 11 (nI z0) := by have h9 := qI_ge z0 11 (nI z0); have h8 : nI z0 = (vQ z0 10 1).toNat + 1 := rfl; omega
     rw [show erN (eQ z0 11) 2 = eQ z0 (qI z0 11 (nI z0)) from erQ_q hgl]
     refine FG [0, 1, 4, 2, 3] (by decide) ?_
     show JQ _ _ _ _ [_, _, _, _, _]
     refine D9 ((qI z0 11 (nI z0), none, ([] : List ItemR), 0, 0, sg1, cs1, nT1, ao4, zz4, ca4)) ⟨(P1_t hit).symm, (fun h => absurd h (by omega)), rfl, by omega, .inl rfl, by omega, by first | omega | (unfold maxLen; omega), (fun h => absurd h (by omega)), (fun w M h => hA4 w M (hA3 w M (hA2 w M (hA1 w M h)))), by omega, by omega, by omega⟩ (Sub.all rfl) rfl
   ·
    obtain ⟨hiq, hi1, hi2, hi3, hi4, hi5, hi6, hi7, hi8, hi9, hi10, hi11, hi12⟩ := hx
    show JC _ _ _ [_, _, _, _, _, _, _] [_, _, _, _, _, _]
    refine AF (AC (AA (.bool (decide (((i:Int)) < ((m:Int))))) (AT rfl rfl fun _ => CL _ _) rfl ?_))
    refine AJ (AD (AF (CC (decide (((i:Int)) < ((m:Int)))) rfl (fun hb22 => ?_) (fun hb22 => ?_))))
    ·
     have hp22 : ((i:Int)) < ((m:Int)) := of_decide_eq_true hb22
     refine BH (AD (AF (B5 (AF (AC (AA _ (AG rfl) rfl ?_))))))
     refine A2 (BD 119 _ [false, false, false, false, true, false] [nb2] _ (AV _ Tryd.call119 rfl) rfl (fun w1 hw1 => flgQ_w nb2 qi aa zz.length cc z0 zz w1 (hw1.en 4 rfl) rfl (by omega) (by omega) (by omega) (hi9 _ _ (RdB.of hw1 (AR 1 rfl (AI (AN _))) (hw1.nm 1 4 rfl rfl (by decide)))) hi8)) rfl ?_
     rintro v1 L1 ⟨_, ⟨rfl, pq2, ao7, zz7, ca7, hpq2, hq7, ⟨hA7, hb23, hb24, hb25⟩, rfl⟩, rfl⟩
     show JL _ _ _ _ ((46, .bool (fQ z0 qi)) :: _) [_, _, _, _, _, (Ez nb2 [errV 50 (eQ z0 pq2), SL ao7 zz7.length ca7] 204)]
     refine AA (.agg (List.toArray (α := Value) (V3 (fQ z0 qi) 0 (zr8 32) (zr8 16)))) (CY [(0, .bool (fQ z0 qi))] _ rfl (fun _ => bld163_0 rfl)) rfl ?_
     refine A2 (C4 _ (V9) Tryd.zeroValue163 (by kernel_rfl)) rfl ?_
     rintro v1 L1 ⟨nb10, hnb10, rfl, rfl⟩
     show JL _ _ _ _ (_ :: _) [_, _, _, _, _, _, _]
     refine A7 (BS 6 nb10 50 _ 163 (V3 (fQ z0 qi) 0 (zr8 32) (zr8 16)) rfl rfl rfl DD (by simp [(AO 32), (AO 16)]) (B0 (B0 (by simp [Value.oneCell']) CZ) CZ) (by simp [(AO 32), (AO 16)]) (BW (by simp [(AO 32), (AO 16), (AO 32), (AO 16)]))) rfl ?_
     show JL _ _ _ _ _ [_, _, _, _, _, _, _]
     refine AJ (AD (AF (AF (AC (AA (Ptr nb10 0) (AB 0 4 1 DS rfl Tryd.sizeOf4 rfl rfl) rfl ?_)))))
     refine AA _ (AL rfl (AX Tryd.isAgg4 (AR 6 rfl (AI (AI (Seg.head)))))) rfl ?_
     refine AJ (AD (CC (fQ z0 qi) rfl (fun hb26 => ?_) (fun hb26 => ?_)))
     ·
      refine AC (AA _ (AG rfl) rfl ?_)
      refine A2 (BD 120 _ [false, false, false, false, false, true, false] [nb2] _ (AV _ Tryd.call120 rfl) rfl (fun w1 hw1 => sreadQ_c nb2 pq2 ao7 zz7.length ca7 z0 zz7 w1 (hw1.en 5 rfl) rfl (by omega) (by omega) (by omega) ((fun w M h => hA7 w M (hi9 w M h)) _ _ (RdB.of hw1 (AR 1 rfl (AI (AN _))) (hw1.nm 1 5 rfl rfl (by decide)))) hq7)) rfl ?_
      rintro v1 L1 ⟨_, ⟨rfl, ao8, zz8, ca8, hq8, ⟨hA8, hb27, hb28, hb29⟩, rfl⟩, rfl⟩
      show JL _ _ _ _ ((51, .agg ([U64 (vQ z0 pq2 8)] ++ cu8 (bQ z0 (pq2 + 8) 32) ++ cu8 (bQ z0 (pq2 + 40) 16)).toArray) :: _) [_, _, _, _, _, _, (Ez nb2 [errV 50 (eQ z0 (pq2 + 56)), SL ao8 zz8.length ca8] 204)]
      refine AA (Ptr nb10 1) (AB 1 161 49 DS rfl BY rfl rfl) rfl ?_
      refine A7 (C0 5 nb10 1 49 _ 163 (.agg ([U64 (vQ z0 pq2 8)] ++ cu8 (bQ z0 (pq2 + 8) 32) ++ cu8 (bQ z0 (pq2 + 40) 16)).toArray) ([U64 (vQ z0 pq2 8)] ++ cu8 (bQ z0 (pq2 + 8) 32) ++ cu8 (bQ z0 (pq2 + 40) 16)) (V3 (fQ z0 qi) (vQ z0 pq2 8) (bQ z0 (pq2 + 8) 32) (bQ z0 (pq2 + 40) 16)) rfl rfl rfl (by first | rfl | simp) BY (by simp [(CG _ _ _), (CG _ _ _)]) (B0 (B0 (by simp [Value.oneCell']) CZ) CZ) (by simp [(AO 32), (AO 16)]) (lay_splice (a := [.bool (fQ z0 qi)]) (b := [U64 0] ++ cu8 (zr8 32) ++ cu8 (zr8 16)) (c := ([] : List Value)) (by simp only [List.append_assoc, List.cons_append, List.nil_append, List.append_nil]) (by simp [(AO 32), (AO 16), (CG _ _ _), (CG _ _ _)]) (by simp [(AO 32), (AO 16), (CG _ _ _), (CG _ _ _)]) (by simp only [List.append_assoc, List.cons_append, List.nil_append, List.append_nil]))) rfl ?_
      show JL _ _ _ _ _ [_, _, _, _, _, _, _]
      refine AJ (AD (AC (AA (Ptr nb4 3) (AB 3 64 1 AK rfl C1 rfl rfl) rfl ?_)))
      refine AA _ (AL rfl (AX DZ (AR 2 rfl (AI (AI (AH (AH (AH (Seg.head))))))))) rfl (AA _ (AL rfl (BR Tryd.isAgg163 DD (by simp [(CG _ _ _), (CG _ _ _)]) (AR 5 rfl (AN _)))) rfl ?_)
      refine A2 (DF 163 50 _ [(0, .agg (List.toArray (α := Value) (V3 (fQ z0 qi) (vQ z0 pq2 8) (bQ z0 (pq2 + 8) 32) (bQ z0 (pq2 + 40) 16))))] (V3 (fQ z0 qi) (vQ z0 pq2 8) (bQ z0 (pq2 + 8) 32) (bQ z0 (pq2 + 40) 16)) B2 DD Tryd.zeroValue163 rfl rfl rfl (fill_one (Z := V9) (by simp [(CG _ _ _), (CG _ _ _)]) (by kernel_rfl) (by simp [zr8]))) rfl ?_
      rintro v1 L1 ⟨nb11, hnb11, rfl, rfl⟩
      show JL _ _ _ _ ((56, Slc nb11 0 1 1) :: _) [_, _, _, _, _, _, _, (Ez nb11 (V3 (fQ z0 qi) (vQ z0 pq2 8) (bQ z0 (pq2 + 8) 32) (bQ z0 (pq2 + 40) 16)) 163)]
      refine A2 (Step_appI 64 163 64 (.agg (List.toArray (α := Value) (V9))) [false, false, false, false, true, false, false, false] (Slc gb 0 i cp) i ll (ItemR.mk (fQ z0 qi) (SealR.mk (vQ z0 pq2 8) (bQ z0 (pq2 + 8) 32) (bQ z0 (pq2 + 40) 16) (CG _ _ _) (CG _ _ _))) (some ⟨nb11, 0, none⟩) 1 (i + 1) B2 (by kernel_rfl) (by kernel_rfl) rfl (.inr ⟨gb, sp, cp, rfl, rfl, (by have h : (ll).length = i := hi4; omega), (by first | exact hi5 | omega), (by omega), (by omega)⟩) rfl (SrcAt.mem (AR 7 rfl (AN _))) (by omega) (by omega) (by omega)) rfl ?_
      rintro v1 L1 ⟨nb12, sp4, cp4, hg3, rfl, rfl, ha9, ha10, ha11, ha12⟩
      show JL _ _ _ _ ((57, Slc nb12 0 (i + 1) cp4) :: _) [_, _, _, _, _, _, _, (Ez nb12 ((ll ++ [(ItemR.mk (fQ z0 qi) (SealR.mk (vQ z0 pq2 8) (bQ z0 (pq2 + 8) 32) (bQ z0 (pq2 + 40) 16) (CG _ _ _) (CG _ _ _)))]).flatMap itemC ++ sp4) 163)]
      refine AA (Ptr nb4 3) (AB 3 64 1 AK rfl C1 rfl rfl) rfl ?_
      refine A7 (C0 2 nb4 3 1 _ 67 (Slc nb12 0 (i + 1) cp4) ([Slc nb12 0 (i + 1) cp4]) ([U64 (vQ z0 0 8), I64 (((vQ z0 8 1).toNat:Int)), I64 (((vQ z0 9 1).toNat:Int)), Slc nb12 0 (i + 1) cp4, .bool false, U64 0, U64 0, I64 0, SL none 0 0, SL none 0 0, U64 0] ++ cu8 (zr8 16) ++ [SL none 0 0, SL none 0 0]) rfl rfl rfl rfl C1 rfl (by simp [Value.oneCell']) (by simp [(AO 16)]) (rfl)) rfl ?_
      show JL _ _ _ _ _ [_, _, _, _, _, _, _, _]
      refine AJ (BU (AD (AC (AA (I64 ((i:Int) + 1)) (AT rfl rfl fun _ => DK _ _ ((i:Int) + 1) (by omega) (by omega)) rfl ?_))))
      refine AA _ (AG rfl) rfl ?_
      refine AJ (DU (CD [true, true, true, true, false, true, false, true] ?_))
      show K _ _ [_, _, _, _, _, _] _
      refine EZ (.inr ((pq2 + 56), i + 1, ll ++ [(ItemR.mk (fQ z0 qi) (SealR.mk (vQ z0 pq2 8) (bQ z0 (pq2 + 8) 32) (bQ z0 (pq2 + 40) 16) (CG _ _ _) (CG _ _ _)))], nb12, sp4, cp4, ao8, zz8, ca8)) ⟨qI_t (i := i) hiq hb26 hpq2, by omega, by omega, (by rw [itQ_suc, ← hiq, ← hi3]; exact congrArg (fun x => ll ++ [x]) (iQ_t hb26 hpq2 _ _)), (ha9).trans (by first | rfl | simp +arith), (ha10).trans (by first | rfl | simp +arith), by omega, by omega, hq8, (fun w M h => hA8 w M (hA7 w M (hi9 w M h))), by omega, by omega, by omega⟩ (by dsimp only; omega) (Sub.all rfl) rfl
     ·
      refine BH (AD (AC (AA (Ptr nb4 3) (AB 3 64 1 AK rfl C1 rfl rfl) rfl ?_)))
      refine AA _ (AL rfl (AX DZ (AR 2 rfl (AI (AI (AH (AH (AH (Seg.head))))))))) rfl (AA _ (AL rfl (BR Tryd.isAgg163 DD (by simp [(AO 32), (AO 16)]) (AR 6 rfl (AN _)))) rfl ?_)
      refine A2 (DF 163 50 _ [(0, .agg (List.toArray (α := Value) (V3 (fQ z0 qi) 0 (zr8 32) (zr8 16))))] (V3 (fQ z0 qi) 0 (zr8 32) (zr8 16)) B2 DD Tryd.zeroValue163 rfl rfl rfl (fill_one (Z := V9) (by simp [(AO 32), (AO 16)]) (by kernel_rfl) (by simp [zr8]))) rfl ?_
      rintro v1 L1 ⟨nb13, hnb13, rfl, rfl⟩
      show JL _ _ _ _ ((56, Slc nb13 0 1 1) :: _) [_, _, _, _, _, _, _, (Ez nb13 (V3 (fQ z0 qi) 0 (zr8 32) (zr8 16)) 163)]
      refine A2 (Step_appI 64 163 64 (.agg (List.toArray (α := Value) (V9))) [false, false, false, false, true, false, false, false] (Slc gb 0 i cp) i ll (ItemR.mk (fQ z0 qi) (SealR.mk (0:UInt64) (zr8 32) (zr8 16) (AO 32) (AO 16))) (some ⟨nb13, 0, none⟩) 1 (i + 1) B2 (by kernel_rfl) (by kernel_rfl) rfl (.inr ⟨gb, sp, cp, rfl, rfl, (by have h : (ll).length = i := hi4; omega), (by first | exact hi5 | omega), (by omega), (by omega)⟩) rfl (SrcAt.mem (AR 7 rfl (AN _))) (by omega) (by omega) (by omega)) rfl ?_
      rintro v1 L1 ⟨nb14, sp5, cp5, hg4, rfl, rfl, ha13, ha14, ha15, ha16⟩
      show JL _ _ _ _ ((57, Slc nb14 0 (i + 1) cp5) :: _) [_, _, _, _, _, _, _, (Ez nb14 ((ll ++ [(ItemR.mk (fQ z0 qi) (SealR.mk (0:UInt64) (zr8 32) (zr8 16) (AO 32) (AO 16)))]).flatMap itemC ++ sp5) 163)]
      refine AA (Ptr nb4 3) (AB 3 64 1 AK rfl C1 rfl rfl) rfl ?_
      refine A7 (C0 2 nb4 3 1 _ 67 (Slc nb14 0 (i + 1) cp5) ([Slc nb14 0 (i + 1) cp5]) ([U64 (vQ z0 0 8), I64 (((vQ z0 8 1).toNat:Int)), I64 (((vQ z0 9 1).toNat:Int)), Slc nb14 0 (i + 1) cp5, .bool false, U64 0, U64 0, I64 0, SL none 0 0, SL none 0 0, U64 0] ++ cu8 (zr8 16) ++ [SL none 0 0, SL none 0 0]) rfl rfl rfl rfl C1 rfl (by simp [Value.oneCell']) (by simp [(AO 16)]) (rfl)) rfl ?_
      show JL _ _ _ _ _ [_, _, _, _, _, _, _, _]
      refine AJ (BU (AD (AC (AA (I64 ((i:Int) + 1)) (AT rfl rfl fun _ => DK _ _ ((i:Int) + 1) (by omega) (by omega)) rfl ?_))))
      refine AA _ (AG rfl) rfl ?_
      refine AJ (DU (CD [true, true, true, true, true, false, false, true] ?_))
      show K _ _ [_, _, _, _, _, _] _
      refine EZ (.inr (pq2, i + 1, ll ++ [(ItemR.mk (fQ z0 qi) (SealR.mk (0:UInt64) (zr8 32) (zr8 16) (AO 32) (AO 16)))], nb14, sp5, cp5, ao7, zz7, ca7)) ⟨qI_f (i := i) hiq hb26 hpq2, by omega, by omega, (by rw [itQ_suc, ← hiq, ← hi3]; exact congrArg (fun x => ll ++ [x]) (iQ_f hb26 _ _)), (ha13).trans (by first | rfl | simp +arith), (ha14).trans (by first | rfl | simp +arith), by omega, by omega, hq7, (fun w M h => hA7 w M (hi9 w M h)), by omega, by omega, by omega⟩ (by dsimp only; omega) (Sub.all rfl) rfl
    ·
     have hp22 : ¬ (((i:Int)) < ((m:Int))) := of_decide_eq_false hb22
     refine EF (BC (BC (CX (AD (AF (AC (AA (Ptr nb4 3) (AB 3 64 1 AK rfl C1 rfl rfl) rfl ?_)))))))
     refine AA _ (AL rfl (AX DZ (AR 2 rfl (AI (AI (AH (AH (AH (Seg.head))))))))) rfl ?_
     refine AA (I64 i) (DA B2 rfl) rfl (AA _ (AG rfl) rfl ?_)
     refine AA (.bool (decide (((i:Int)) < (((vQ z0 10 1).toNat:Int) + 1)))) (AT rfl rfl fun _ => CL _ _) rfl ?_
     refine AJ (AD (CC (decide (((i:Int)) < (((vQ z0 10 1).toNat:Int) + 1))) rfl (fun hb30 => ?_) (fun hb30 => ?_)))
     ·
      have hp30 : ((i:Int)) < (((vQ z0 10 1).toNat:Int) + 1) := of_decide_eq_true hb30
      refine AC (AA _ (AG rfl) rfl ?_)
      refine AA (.iface 50 (I64 2)) (DH BN rfl rfl) rfl ?_
      refine A2 (D7 121 [Ptr nb2 0, .iface 50 (I64 2)] 4 (Ez nb2 [errV 50 (eQ z0 qi), SL aa zz.length cc] 204) _ (fun v e' l' => v = .tuple #[] ∧ e' = (Ez nb2 [errV 50 (erN (eQ z0 qi) 2), SL aa zz.length cc] 204) ∧ l' = []) (AV _ ED rfl) rfl (by rintro v l ⟨rfl, rfl⟩; exact ⟨_, _, rfl, rfl, rfl, rfl, rfl⟩) (fun w1 hw1 => EX nb2 (eQ z0 qi) 2 (SL aa zz.length cc) w1 (by decide) (hw1.en 4 rfl))) rfl ?_
      rintro v1 L1 ⟨_, _, ⟨rfl, rfl, rfl⟩, rfl⟩
      show JL _ _ _ _ ((67, .tuple #[]) :: _) [_, _, _, _, (Ez nb2 [errV 50 (erN (eQ z0 qi) 2), SL aa zz.length cc] 204), _]
      refine AJ ?_
      have hit : itZ z0 = true := hb10
      have ei : m = i := by omega
      subst ei
      have hgl : z0.length < qI z0 11 (nI z0) := by have h9 := qI_ge z0 11 (nI z0); have h8 : nI z0 = (vQ z0 10 1).toNat + 1 := rfl; omega
      rw [show erN (eQ z0 qi) 2 = eQ z0 (qI z0 11 (nI z0)) from erQ_q hgl]
      refine FG [0, 1, 4, 2, 5] (by decide) ?_
      show JQ _ _ _ _ [_, _, _, _, _]
      refine D9 ((qI z0 11 (nI z0), (some ⟨gb, 0, none⟩), ll, m, cp, gb, (ll).flatMap itemC ++ sp, 163, aa, zz, cc)) ⟨(P1_t hit).symm, (fun h => absurd h (by omega)), hi4, by omega, .inr ⟨rfl, _, rfl⟩, by omega, by first | omega | (unfold maxLen; omega), (fun h => absurd h (by omega)), hi9, by omega, by omega, by omega⟩ (Sub.all rfl) rfl
     ·
      have hp30 : ¬ (((i:Int)) < (((vQ z0 10 1).toNat:Int) + 1)) := of_decide_eq_false hb30
      refine BH ?_
      have hit : itZ z0 = true := hb10
      have ei : m = i := by omega
      subst ei
      have en : m = nI z0 := by have h8 : nI z0 = (vQ z0 10 1).toNat + 1 := rfl; omega
      subst en
      refine FG [0, 1, 4, 2, 5] (by decide) ?_
      show JQ _ _ _ _ [_, _, _, _, _]
      refine D9 ((qi, (some ⟨gb, 0, none⟩), ll, nI z0, cp, gb, (ll).flatMap itemC ++ sp, 163, aa, zz, cc)) ⟨(hiq.trans (P1_t hit).symm), (fun _ => hi3.trans (ljZ_t hit).symm), hi4, by omega, .inr ⟨rfl, _, rfl⟩, by omega, by first | omega | (unfold maxLen; omega), hi8, hi9, by omega, by omega, by omega⟩ (Sub.all rfl) rfl
  ·
   refine BH ?_
   have hit : itZ z0 = false := hb10
   refine D9 ((10, none, ([] : List ItemR), 0, 0, sg1, cs1, nT1, ao3, zz3, ca3)) ⟨(P1_f hit).symm, (fun _ => (ljZ_f hit).symm), rfl, by omega, .inl rfl, by omega, by first | omega | (unfold maxLen; omega), hq3, (fun w M h => hA3 w M (hA2 w M (hA1 w M h))), by omega, by omega, by omega⟩ (Sub.all rfl) rfl
 ·
  rintro ⟨qa, ja, jl, jn, jc, jg, jcs, jT, ra, zr, rc⟩ hx
  obtain ⟨hqa, hja, hjl, hjn, hjg, hjc, hjm, hrq, hrA, hr1, hr2, hr3⟩ := hx
  show JQ _ _ _ [_, _, _, _] [_, _, _, _, _]
  refine AD (AF (F9 (ι := Nat × Bool × Option Addr × List UInt8 × Nat) (fun ⟨qb, th, rb, zb, sb⟩ => [(2, Ptr nb1 0), (3, .nilIface), (4, Ptr nb2 0), (5, Ptr nb4 0)]) (fun ⟨qb, th, rb, zb, sb⟩ => [(Ez nb1 (V7) 67), (Ez nb3 (cu8 z0 ++ sp1) 5), (Ez nb2 [errV 50 (eQ z0 qb), SL rb zb.length sb] 204), (Ez nb4 (V0 (vQ z0 0 8) (((vQ z0 8 1).toNat:Int)) (((vQ z0 9 1).toNat:Int)) ja jn jc th 0 0 0 none 0 0 none 0 0 0 (zr8 16) none 0 0 none 0 0) 67), (Ez jg jcs jT)]) (fun ⟨qb, th, rb, zb, sb⟩ => qb = P2 z0 ∧ th = thZ z0 ∧ Lq z0 zb qb ∧ (∀ w M, RdB w M (some ⟨nb3, 0, none⟩) z0 → RdB w M rb zb) ∧ zb.length ≤ sb ∧ sb ≤ maxLen ∧ zb.length ≤ n) ?_ ?_))
  ·
   refine AF (AC (AA (Ptr nb4 2) (AB 2 3 1 AK rfl AW rfl rfl) rfl ?_))
   refine AA _ (AL rfl (AX A0 (AR 3 rfl (AI (AI (AH (AH (Seg.head)))))))) rfl ?_
   refine AA (.bool (decide ((((vQ z0 9 1).toNat:Int)) = (0:Int)))) (AT rfl rfl fun _ => BP _ _) rfl ?_
   refine AA _ (AG rfl) rfl ?_
   rcases Bool.eq_false_or_eq_true (decide ((((vQ z0 9 1).toNat:Int)) = (0:Int))) with hb31 | hb31
   ·
    have hp31 : (((vQ z0 9 1).toNat:Int)) = (0:Int) := of_decide_eq_true hb31
    refine AM 3 71 true _ (Ptr nb4 1) rfl rfl hb31 (AB 1 3 1 AK rfl AW rfl rfl) rfl ?_
    refine AM 3 71 true _ _ rfl rfl hb31 (AL rfl (AX A0 (AR 3 rfl (AI (AI (AH (Seg.head))))))) rfl ?_
    refine AM 3 71 true _ (.bool (decide ((((vQ z0 8 1).toNat:Int)) = (4:Int)))) rfl rfl hb31 (AT rfl rfl fun _ => BP _ _) rfl ?_
    refine AA _ (BA _ rfl hb31 rfl) rfl ?_
    refine AJ (AD (CC (decide ((((vQ z0 8 1).toNat:Int)) = (4:Int))) rfl (fun hb32 => ?_) (fun hb32 => ?_)))
    ·
     have hp32 : (((vQ z0 8 1).toNat:Int)) = (4:Int) := of_decide_eq_true hb32
     refine AC (AA _ (AG rfl) rfl ?_)
     refine A2 (BD 119 _ [false, false, true, false, false] [nb2] _ (AV _ Tryd.call119 rfl) rfl (fun w1 hw1 => flgQ_w nb2 qa ra zr.length rc z0 zr w1 (hw1.en 2 rfl) rfl (by omega) (by omega) (by omega) (hrA _ _ (RdB.of hw1 (AR 1 rfl (AI (AN _))) (hw1.nm 1 2 rfl rfl (by decide)))) hrq)) rfl ?_
     rintro v1 L1 ⟨_, ⟨rfl, pq3, ao9, zz9, ca9, hpq3, hq9, ⟨hA9, hb33, hb34, hb35⟩, rfl⟩, rfl⟩
     show JL _ _ _ _ ((77, .bool (fQ z0 qa)) :: _) [_, _, _, _, (Ez nb2 [errV 50 (eQ z0 pq3), SL ao9 zz9.length ca9] 204)]
     refine AA (Ptr nb4 4) (AB 4 4 1 AK rfl Tryd.sizeOf4 rfl rfl) rfl ?_
     refine A7 (C0 2 nb4 4 1 _ 67 (.bool (fQ z0 qa)) ([.bool (fQ z0 qa)]) (V0 (vQ z0 0 8) (((vQ z0 8 1).toNat:Int)) (((vQ z0 9 1).toNat:Int)) ja jn jc (fQ z0 qa) 0 0 0 none 0 0 none 0 0 0 (zr8 16) none 0 0 none 0 0) rfl rfl rfl rfl Tryd.sizeOf4 rfl (by simp [Value.oneCell']) (by simp [(AO 16)]) (rfl)) rfl ?_
     show JL _ _ _ _ _ [_, _, _, _, _]
     refine AJ ?_
     have hf4 : F4 z0 = true := F4_t hb31 hb32
     refine FG [0, 1, 4, 2, 3] (by decide) ?_
     show JQ _ _ _ _ [_, _, _, _, _]
     refine D9 ((pq3, fQ z0 qa, ao9, zz9, ca9)) ⟨by rw [P2_t hf4, ← hqa]; exact hpq3, by rw [thZ_t hf4, ← hqa], hq9, (fun w M h => hA9 w M (hrA w M h)), by omega, by omega, by omega⟩ (Sub.all rfl) rfl
    ·
     have hp32 : ¬ ((((vQ z0 8 1).toNat:Int)) = (4:Int)) := of_decide_eq_false hb32
     refine BH ?_
     have hf4 : F4 z0 = false := F4_n4 hb32
     refine D9 ((qa, false, ra, zr, rc)) ⟨hqa.trans (P2_f hf4).symm, (thZ_f hf4).symm, hrq, hrA, by omega, by omega, by omega⟩ (Sub.all rfl) rfl
   ·
    have hp31 : ¬ ((((vQ z0 9 1).toNat:Int)) = (0:Int)) := of_decide_eq_false hb31
    refine A9 3 3 71 true _ rfl rfl hb31 rfl (AA _ (A5 _ rfl hb31 rfl) rfl ?_)
    refine AJ (AD (BT _ rfl rfl ?_))
    refine BH ?_
    have hf4 : F4 z0 = false := F4_n0 hb31
    refine D9 ((qa, false, ra, zr, rc)) ⟨hqa.trans (P2_f hf4).symm, (thZ_f hf4).symm, hrq, hrA, by omega, by omega, by omega⟩ (Sub.all rfl) rfl
  ·
   rintro ⟨qb, th, rb, zb, sb⟩ hx
   obtain ⟨hqb, hth, hsq, hsA, hs1, hs2, hs3⟩ := hx
   show JQ _ _ _ [_, _, _, _] [_, _, _, _, _]
   refine AD (AF (AC (AA _ (AL rfl (BR B8 BQ (by simp [(AO 16)]) (AR 3 rfl (AN _)))) rfl ?_)))
   refine A2 (C6 95 _ _ (AV _ Tryd.call95 rfl) (fun w1 hw1 => partsG_c (vQ z0 0 8) (((vQ z0 8 1).toNat:Int)) (((vQ z0 9 1).toNat:Int)) ja jn jc jl th (0:UInt64) (0:UInt64) (0:Int) none 0 0 ([] : List UInt64) none 0 0 ([] : List SealR) (0:UInt64) (zr8 16) none 0 0 [] none 0 0 [] w1 (AO 16))) rfl ?_
   rintro v1 L1 ⟨_, ⟨sg2, cs2, nT2, rfl, rfl⟩, rfl⟩
   show JL _ _ _ _ ((81, .tuple #[.bool (itB (((vQ z0 9 1).toNat:Int)) (((vQ z0 8 1).toNat:Int))), .bool (chB (((vQ z0 9 1).toNat:Int)) (((vQ z0 8 1).toNat:Int)) th), .bool (aB (((vQ z0 9 1).toNat:Int)) (((vQ z0 8 1).toNat:Int)) th), .bool (bB (((vQ z0 9 1).toNat:Int)) (((vQ z0 8 1).toNat:Int)) th)]) :: _) [_, _, _, _, _, (Ez sg2 cs2 nT2)]
   refine AA _ (AG rfl) rfl (AA _ (BI rfl rfl) rfl (AA _ (BI rfl rfl) rfl (AA _ (BI rfl rfl) rfl (AA _ (BI rfl rfl) rfl (AA _ (AE rfl) rfl (AA _ (AE rfl) rfl (AA _ (AE rfl) rfl (AA _ (AE rfl) rfl ?_))))))))
   refine AJ (AD (AF (AF (AC (AA _ (AG rfl) rfl ?_)))))
   refine AJ (AD (CC (chB (((vQ z0 9 1).toNat:Int)) (((vQ z0 8 1).toNat:Int)) th) rfl (fun hb36 => ?_) (fun hb36 => ?_)))
   ·
    refine AC (AA _ (AG rfl) rfl ?_)
    refine A2 (BD 60 _ [false, false, true, false, false, false] [nb2] _ (AV _ Tryd.call60 rfl) rfl (fun w1 hw1 => treadU_w nb2 qb rb zb.length sb z0 zb w1 (hw1.en 2 rfl) rfl (by omega) (by omega) (by omega) (hsA _ _ (RdB.of hw1 (AR 1 rfl (AI (AN _))) (hw1.nm 1 2 rfl rfl (by decide)))) hsq)) rfl ?_
    rintro v1 L1 ⟨_, ⟨tv1, te1, tk1, tn1, tl1, tm1, ts1, tb1, tg1, tt1, tq1, ao10, zz10, ca10, ng1, cs3, nT3, na1, nc1, ng2, cs4, nT4, na2, nc2, hT1, hpq4, hc4, hc5, hc6, hc7, hc8, hq10, ⟨hA10, hb37, hb38, hb39⟩, rfl, rfl, hc9, hc10, hc11, hc12, hc13, hc14⟩, rfl⟩
    show JL _ _ _ _ ((88, .agg (V2 tv1 te1 (tk1) na1 tn1 nc1 na2 tm1 nc2 tb1 tg1).toArray) :: _) [_, _, _, _, _, (Ez nb2 [errV 50 (eQ z0 tq1), SL ao10 zz10.length ca10] 204), (Ez ng1 cs3 nT3), (Ez ng2 cs4 nT4)]
    refine AA (Ptr nb4 5) (AB 5 29 22 AK rfl BB rfl rfl) rfl ?_
    refine A7 (C0 2 nb4 5 22 _ 67 (.agg (V2 tv1 te1 (tk1) na1 tn1 nc1 na2 tm1 nc2 tb1 tg1).toArray) (V2 tv1 te1 (tk1) na1 tn1 nc1 na2 tm1 nc2 tb1 tg1) (V0 (vQ z0 0 8) (((vQ z0 8 1).toNat:Int)) (((vQ z0 9 1).toNat:Int)) ja jn jc th tv1 te1 (tk1) na1 tn1 nc1 na2 tm1 nc2 tb1 tg1 none 0 0 none 0 0) rfl rfl rfl (by first | rfl | simp) BB (by simp [hc6]) (B0 (by simp [Value.oneCell']) CZ) (by simp [(AO 16)]) (lay_splice (a := [U64 (vQ z0 0 8), I64 (((vQ z0 8 1).toNat:Int)), I64 (((vQ z0 9 1).toNat:Int)), SL ja jn jc, .bool th]) (b := V5) (c := [SL none 0 0, SL none 0 0]) (by simp only [List.append_assoc, List.cons_append, List.nil_append, List.append_nil]) (by simp [(AO 16), hc6]) (by simp [(AO 16), hc6]) (by simp only [List.append_assoc, List.cons_append, List.nil_append, List.append_nil]))) rfl ?_
    show JL _ _ _ _ _ [_, _, _, _, _, _, _, _]
    refine AJ (AD (AF (F9 (ι := Nat × Option Addr × Nat × Nat × List UInt8 × Nat × List Value × Nat × Option Addr × List UInt8 × Nat) (fun ⟨qhA, haA, hnA, hkA, hxA, hgA, hcsA, hTA, raA, zrA, rcA⟩ => [(2, Ptr nb1 0), (3, .nilIface), (4, Ptr nb2 0), (5, Ptr nb4 0), (15, .bool (bB (((vQ z0 9 1).toNat:Int)) (((vQ z0 8 1).toNat:Int)) th))]) (fun ⟨qhA, haA, hnA, hkA, hxA, hgA, hcsA, hTA, raA, zrA, rcA⟩ => [(Ez nb1 (V7) 67), (Ez nb3 (cu8 z0 ++ sp1) 5), (Ez nb4 (V0 (vQ z0 0 8) (((vQ z0 8 1).toNat:Int)) (((vQ z0 9 1).toNat:Int)) ja jn jc th tv1 te1 (tk1) na1 tn1 nc1 na2 tm1 nc2 tb1 tg1 haA hnA hkA none 0 0) 67), (Ez jg jcs jT), (Ez nb2 [errV 50 (eQ z0 qhA), SL raA zrA.length rcA] 204), (Ez ng1 cs3 nT3), (Ez ng2 cs4 nT4), (Ez hgA hcsA hTA)]) (fun ⟨qhA, haA, hnA, hkA, hxA, hgA, hcsA, hTA, raA, zrA, rcA⟩ => qhA = P4 z0 ∧ (qhA ≤ z0.length → (hnA = naZ z0 ∧ hxA = xaZ z0) ∧ 32 * hnA ≤ qhA) ∧ hxA.length = hnA*32 ∧ Gh (cu8 hxA) hgA hcsA haA ∧ hnA ≤ hkA ∧ hkA ≤ maxLen ∧ Lq z0 zrA qhA ∧ (∀ w M, RdB w M (some ⟨nb3, 0, none⟩) z0 → RdB w M raA zrA) ∧ zrA.length ≤ rcA ∧ rcA ≤ maxLen ∧ zrA.length ≤ n) ?_ ?_)))
    ·
     refine AF ?_
     have hch : chZ z0 = true := by unfold chZ; rw [← hth]; exact hb36
     have htn : tt1 = tkN (z0.drop qb) := TkR.tot hT1
     have p3 : P3 z0 = tq1 := by rw [P3_t hch, ← hqb, ← htn]; omega
     refine AC (AA _ (AG rfl) rfl ?_)
     refine AJ (AD (CH _ rfl (aB_ch hb36) ?_))
     refine AC (AA _ (AG rfl) rfl ?_)
     refine A2 (BD 122 _ [false, false, false, false, false, true, false, false] [nb2] _ (AV _ Tryd.call122 rfl) rfl (fun w1 hw1 => listQ_c nb2 tq1 ao10 zz10.length ca10 z0 zz10 w1 (hw1.en 5 rfl) rfl (by omega) (by omega) (by omega) ((fun w M h => hA10 w M (hsA w M h)) _ _ (RdB.of hw1 (AR 1 rfl (AI (AN _))) (hw1.nm 1 5 rfl rfl (by decide)))) hq10)) rfl ?_
     rintro v1 L1 ⟨_, ⟨pq4, ao11, zz11, ca11, nm1, hpq5, hq11, ⟨hA11, hb40, hb41, hb42⟩, hm1, hme1, (⟨hm3, rfl, rfl⟩ | ⟨hm2, nb15, sp6, cp6, rfl, rfl, hc15, hc16, hc17⟩)⟩, rfl⟩
     ·
      show JL _ _ _ _ ((92, SL none 0 0) :: _) [_, _, _, _, _, _, _, (Ez nb2 [errV 50 (eQ z0 pq4), SL ao11 zz11.length ca11] 204)]
      refine AA (Ptr nb4 27) (AB 27 65 1 AK rfl CI rfl rfl) rfl ?_
      refine A7 (C0 2 nb4 27 1 _ 67 (SL none 0 0) ([SL none 0 0]) (V0 (vQ z0 0 8) (((vQ z0 8 1).toNat:Int)) (((vQ z0 9 1).toNat:Int)) ja jn jc th tv1 te1 (tk1) na1 tn1 nc1 na2 tm1 nc2 tb1 tg1 none 0 0 none 0 0) rfl rfl rfl rfl CI rfl (by simp [Value.oneCell']) (by simp [hc6]) (E6 27 0 (by simp [hc6]) rfl (rfl))) rfl ?_
      show JL _ _ _ _ _ [_, _, _, _, _, _, _, _]
      refine AJ ?_
      have hzA : aZ z0 = true := by unfold aZ; rw [← hth]; exact (aB_ch hb36)
      refine FG [0, 1, 2, 3, 7, 5, 6, 4] (by decide) ?_
      show JQ _ _ _ _ [_, _, _, _, _, _, _, _]
      refine D9 ((pq4, none, 0, 0, [], sg2, cs2, nT2, ao11, zz11, ca11)) ⟨by rw [P4_t hzA, p3]; exact hpq5, (fun h => by have h9 : 0 = hN z0 tq1 := (by have h8 := hme1 h; omega); rw [(A_t hzA).1, (A_t hzA).2, p3, ← h9]; exact ⟨⟨rfl, (hQ_zero _ _).symm⟩, by omega⟩), rfl, .inl rfl, by omega, by first | omega | (unfold maxLen; omega), hq11, (fun w M h => hA11 w M (hA10 w M (hsA w M h))), by omega, by omega, by omega⟩ (Sub.all rfl) rfl
     ·
      show JL _ _ _ _ ((92, Slc nb15 0 nm1 cp6) :: _) [_, _, _, _, _, _, _, (Ez nb2 [errV 50 (eQ z0 pq4), SL ao11 zz11.length ca11] 204), (Ez nb15 (cu8 (hQ z0 (tq1 + 2) nm1) ++ sp6) 54)]
      refine AA (Ptr nb4 27) (AB 27 65 1 AK rfl CI rfl rfl) rfl ?_
      refine A7 (C0 2 nb4 27 1 _ 67 (Slc nb15 0 nm1 cp6) ([Slc nb15 0 nm1 cp6]) ([U64 (vQ z0 0 8), I64 (((vQ z0 8 1).toNat:Int)), I64 (((vQ z0 9 1).toNat:Int)), SL ja jn jc, .bool th, U64 tv1, U64 te1, I64 (tk1), SL na1 tn1 nc1, SL na2 tm1 nc2, U64 tb1] ++ cu8 tg1 ++ [Slc nb15 0 nm1 cp6, SL none 0 0]) rfl rfl rfl rfl CI rfl (by simp [Value.oneCell']) (by simp [hc6]) (E6 27 0 (by simp [hc6]) rfl (rfl))) rfl ?_
      show JL _ _ _ _ _ [_, _, _, _, _, _, _, _, _]
      refine AJ ?_
      have hzA : aZ z0 = true := by unfold aZ; rw [← hth]; exact (aB_ch hb36)
      refine FG [0, 1, 2, 3, 7, 5, 6, 8] (by decide) ?_
      show JQ _ _ _ _ [_, _, _, _, _, _, _, _]
      refine D9 ((pq4, (some ⟨nb15, 0, none⟩), nm1, cp6, hQ z0 (tq1 + 2) nm1, nb15, cu8 (hQ z0 (tq1 + 2) nm1) ++ sp6, 54, ao11, zz11, ca11)) ⟨by rw [P4_t hzA, p3]; exact hpq5, (fun h => by have h9 := hme1 h; rw [(A_t hzA).1, (A_t hzA).2, p3, ← h9]; exact ⟨⟨rfl, rfl⟩, by omega⟩), (hQ_len _ _ _), .inr ⟨rfl, _, rfl⟩, by omega, by first | omega | (unfold maxLen; omega), hq11, (fun w M h => hA11 w M (hA10 w M (hsA w M h))), by omega, by omega, by omega⟩ (Sub.all rfl) rfl
    ·
     rintro ⟨qhA, haA, hnA, hkA, hxA, hgA, hcsA, hTA, raA, zrA, rcA⟩ hx
     obtain ⟨hqhA, hnhA, hxlA, hghA, hnkA, hkmA, hrqA, hrAA, hr1A, hr2A, hr3A⟩ := hx
     show JQ _ _ _ [_, _, _, _, _] [_, _, _, _, _, _, _, _]
     refine AD (AF (F9 (ι := (Nat × Option Addr × Nat × Nat × List UInt8 × Nat × List Value × Nat × Option Addr × List UInt8 × Nat) ⊕ (Nat × Option Addr × List UInt8 × Nat)) (fun x => match x with | .inl ⟨qhB, haB, hnB, hkB, hxB, hgB, hcsB, hTB, raB, zrB, rcB⟩ => [(2, Ptr nb1 0), (3, .nilIface), (4, Ptr nb2 0), (5, Ptr nb4 0)] | .inr ⟨qhB, raB, zrB, rcB⟩ => [(2, Ptr nb1 0), (3, .nilIface), (4, Ptr nb2 0), (5, Ptr nb4 0)]) (fun x => match x with | .inl ⟨qhB, haB, hnB, hkB, hxB, hgB, hcsB, hTB, raB, zrB, rcB⟩ => [(Ez nb1 (V7) 67), (Ez nb3 (cu8 z0 ++ sp1) 5), (Ez nb4 (V0 (vQ z0 0 8) (((vQ z0 8 1).toNat:Int)) (((vQ z0 9 1).toNat:Int)) ja jn jc th tv1 te1 (tk1) na1 tn1 nc1 na2 tm1 nc2 tb1 tg1 haA hnA hkA haB hnB hkB) 67), (Ez jg jcs jT), (Ez nb2 [errV 50 (eQ z0 qhB), SL raB zrB.length rcB] 204), (Ez ng1 cs3 nT3), (Ez ng2 cs4 nT4), (Ez hgA hcsA hTA), (Ez hgB hcsB hTB)] | .inr ⟨qhB, raB, zrB, rcB⟩ => [(Ez nb1 (V7) 67), (Ez nb3 (cu8 z0 ++ sp1) 5), (Ez nb4 (V0 (vQ z0 0 8) (((vQ z0 8 1).toNat:Int)) (((vQ z0 9 1).toNat:Int)) ja jn jc th tv1 te1 (tk1) na1 tn1 nc1 na2 tm1 nc2 tb1 tg1 haA hnA hkA none 0 0) 67), (Ez jg jcs jT), (Ez nb2 [errV 50 (eQ z0 qhB), SL raB zrB.length rcB] 204), (Ez ng1 cs3 nT3), (Ez ng2 cs4 nT4), (Ez hgA hcsA hTA)]) (fun x => match x with | .inl ⟨qhB, haB, hnB, hkB, hxB, hgB, hcsB, hTB, raB, zrB, rcB⟩ => qhB = P5 z0 ∧ (qhB ≤ z0.length → (hnB = nbZ z0 ∧ hxB = xbZ z0) ∧ 32 * hnB ≤ qhB) ∧ hxB.length = hnB*32 ∧ Gh (cu8 hxB) hgB hcsB haB ∧ hnB ≤ hkB ∧ hkB ≤ maxLen ∧ Lq z0 zrB qhB ∧ (∀ w M, RdB w M (some ⟨nb3, 0, none⟩) z0 → RdB w M raB zrB) ∧ zrB.length ≤ rcB ∧ rcB ≤ maxLen ∧ zrB.length ≤ n | .inr ⟨qhB, raB, zrB, rcB⟩ => qhB = P5 z0 ∧ (qhB ≤ z0.length → (0 = nbZ z0 ∧ ([] : List UInt8) = xbZ z0) ∧ 32 * 0 ≤ qhB) ∧ Lq z0 zrB qhB ∧ (∀ w M, RdB w M (some ⟨nb3, 0, none⟩) z0 → RdB w M raB zrB) ∧ zrB.length ≤ rcB ∧ rcB ≤ maxLen ∧ zrB.length ≤ n) ?_ ?_))
     ·
      refine AF ?_
      have p4 : P4 z0 = qhA := hqhA.symm
      refine AC (AA _ (AG rfl) rfl ?_)
      refine AJ (AD (CC (bB (((vQ z0 9 1).toNat:Int)) (((vQ z0 8 1).toNat:Int)) th) rfl (fun hb43 => ?_) (fun hb43 => ?_)))
      ·
       refine AC (AA _ (AG rfl) rfl ?_)
       refine A2 (BD 122 _ [false, false, false, false, true, false, false, false] [nb2] _ (AV _ Tryd.call122 rfl) rfl (fun w1 hw1 => listQ_c nb2 qhA raA zrA.length rcA z0 zrA w1 (hw1.en 4 rfl) rfl (by omega) (by omega) (by omega) (hrAA _ _ (RdB.of hw1 (AR 1 rfl (AI (AN _))) (hw1.nm 1 4 rfl rfl (by decide)))) hrqA)) rfl ?_
       rintro v1 L1 ⟨_, ⟨pq5, ao12, zz12, ca12, nm2, hpq6, hq12, ⟨hA12, hb44, hb45, hb46⟩, hm4, hme2, (⟨hm6, rfl, rfl⟩ | ⟨hm5, nb16, sp7, cp7, rfl, rfl, hc18, hc19, hc20⟩)⟩, rfl⟩
       ·
        show JL _ _ _ _ ((96, SL none 0 0) :: _) [_, _, _, _, _, _, _, (Ez nb2 [errV 50 (eQ z0 pq5), SL ao12 zz12.length ca12] 204)]
        refine AA (Ptr nb4 28) (AB 28 65 1 AK rfl CI rfl rfl) rfl ?_
        refine A7 (C0 2 nb4 28 1 _ 67 (SL none 0 0) ([SL none 0 0]) (V0 (vQ z0 0 8) (((vQ z0 8 1).toNat:Int)) (((vQ z0 9 1).toNat:Int)) ja jn jc th tv1 te1 (tk1) na1 tn1 nc1 na2 tm1 nc2 tb1 tg1 haA hnA hkA none 0 0) rfl rfl rfl rfl CI rfl (by simp [Value.oneCell']) (by simp [hc6]) (E6 27 1 (by simp [hc6]) rfl (rfl))) rfl ?_
        show JL _ _ _ _ _ [_, _, _, _, _, _, _, _]
        refine AJ ?_
        have hzB : bZ z0 = true := by unfold bZ; rw [← hth]; exact hb43
        refine FG [0, 1, 2, 3, 7, 4, 5, 6] (by decide) ?_
        show JQ _ _ _ _ [_, _, _, _, _, _, _, _]
        refine D9 (.inr (pq5, ao12, zz12, ca12)) ⟨by rw [P5_t hzB, p4]; exact hpq6, (fun h => by have h9 : 0 = hN z0 qhA := (by have h8 := hme2 h; omega); rw [(B_t hzB).1, (B_t hzB).2, p4, ← h9]; exact ⟨⟨rfl, (hQ_zero _ _).symm⟩, by omega⟩), hq12, (fun w M h => hA12 w M (hrAA w M h)), by omega, by omega, by omega⟩ (Sub.all rfl) rfl
       ·
        show JL _ _ _ _ ((96, Slc nb16 0 nm2 cp7) :: _) [_, _, _, _, _, _, _, (Ez nb2 [errV 50 (eQ z0 pq5), SL ao12 zz12.length ca12] 204), (Ez nb16 (cu8 (hQ z0 (qhA + 2) nm2) ++ sp7) 54)]
        refine AA (Ptr nb4 28) (AB 28 65 1 AK rfl CI rfl rfl) rfl ?_
        refine A7 (C0 2 nb4 28 1 _ 67 (Slc nb16 0 nm2 cp7) ([Slc nb16 0 nm2 cp7]) ([U64 (vQ z0 0 8), I64 (((vQ z0 8 1).toNat:Int)), I64 (((vQ z0 9 1).toNat:Int)), SL ja jn jc, .bool th, U64 tv1, U64 te1, I64 (tk1), SL na1 tn1 nc1, SL na2 tm1 nc2, U64 tb1] ++ cu8 tg1 ++ [SL haA hnA hkA, Slc nb16 0 nm2 cp7]) rfl rfl rfl rfl CI rfl (by simp [Value.oneCell']) (by simp [hc6]) (E6 27 1 (by simp [hc6]) rfl (rfl))) rfl ?_
        show JL _ _ _ _ _ [_, _, _, _, _, _, _, _, _]
        refine AJ ?_
        have hzB : bZ z0 = true := by unfold bZ; rw [← hth]; exact hb43
        refine FG [0, 1, 2, 3, 7, 4, 5, 6, 8] (by decide) ?_
        show JQ _ _ _ _ [_, _, _, _, _, _, _, _, _]
        refine D9 (.inl (pq5, (some ⟨nb16, 0, none⟩), nm2, cp7, hQ z0 (qhA + 2) nm2, nb16, cu8 (hQ z0 (qhA + 2) nm2) ++ sp7, 54, ao12, zz12, ca12)) ⟨by rw [P5_t hzB, p4]; exact hpq6, (fun h => by have h9 := hme2 h; rw [(B_t hzB).1, (B_t hzB).2, p4, ← h9]; exact ⟨⟨rfl, rfl⟩, by omega⟩), (hQ_len _ _ _), .inr ⟨rfl, _, rfl⟩, by omega, by first | omega | (unfold maxLen; omega), hq12, (fun w M h => hA12 w M (hrAA w M h)), by omega, by omega, by omega⟩ (Sub.all rfl) rfl
      ·
       refine BH ?_
       have hzB : bZ z0 = false := by unfold bZ; rw [← hth]; exact hb43
       refine D9 (.inr (qhA, raA, zrA, rcA)) ⟨p4.symm.trans (P5_f hzB).symm, (fun _ => ⟨⟨(B_f hzB).1.symm, (B_f hzB).2.symm⟩, by omega⟩), hrqA, hrAA, by omega, by omega, by omega⟩ (Sub.all rfl) rfl
     ·
      rintro (⟨qhB, haB, hnB, hkB, hxB, hgB, hcsB, hTB, raB, zrB, rcB⟩ | ⟨qhB, raB, zrB, rcB⟩) hx
      ·
       obtain ⟨hqhB, hnhB, hxlB, hghB, hnkB, hkmB, hrqB, hrAB, hr1B, hr2B, hr3B⟩ := hx
       show JQ _ _ _ [_, _, _, _] [_, _, _, _, _, _, _, _, _]
       refine AD (AF (AF ?_))
       have hch : chZ z0 = true := by unfold chZ; rw [← hth]; exact hb36
       have htn : tt1 = tkN (z0.drop qb) := TkR.tot hT1
       have htk := (Or.inl ⟨hch, by rw [← hqb, ← htn]; exact hT1⟩ : TkZ z0 tv1 te1 tk1 tl1 ts1 tb1 tg1)
       have hbd : endN (eQ z0 qhB) zrB.length = 0 → qhB = z0.length := (GA hrqB).1
       have g1 := P2_ge z0
       have g2 := P3_ge z0
       have g3 := P4_ge z0
       have g4 := P5_ge z0
       refine AC (AA _ (AG rfl) rfl ?_)
       refine A7 (A3 63 _ (errV 50 (endN (eQ z0 qhB) zrB.length)) (AV _ EE rfl) (fun w1 hw1 => end_w nb2 (eQ z0 qhB) raB zrB.length rcB w1 (RdA.of hw1 (AR 4 rfl (AN _)) (by simp)))) rfl ?_
       show JL _ _ _ _ ((99, errV 50 (endN (eQ z0 qhB) zrB.length)) :: _) [_, _, _, _, _, _, _, _, _]
       refine AA (.bool (!(decide (endN (eQ z0 qhB) zrB.length = 0)))) (DM _ _ _ rfl rfl (fun _ => CE ..) fun _ => DW BG _ _) rfl ?_
       refine AA _ (AG rfl) rfl ?_
       rcases Bool.eq_false_or_eq_true (decide (endN (eQ z0 qhB) zrB.length = 0)) with hb47 | hb47
       ·
        have hp47 : endN (eQ z0 qhB) zrB.length = 0 := of_decide_eq_true hb47
        refine AM 3 101 false _ _ rfl rfl (bnotT hb47) (AL rfl (BR B8 BQ (by simp [hc6]) (AR 2 rfl (AN _)))) rfl ?_
        refine DC 3 101 false _ rfl rfl (bnotT hb47) (A3 35 _ (.bool (repR (((vQ z0 8 1).toNat:Int)) (((vQ z0 9 1).toNat:Int)) th jl (blankB tv1 te1 (tk1) tl1 ts1 tb1 tg1) (decide (mayN tv1 te1 (tk1) tl1 ts1 tb1 = 0)) hnA hnB)) (AV _ Tryd.call35 rfl) (fun w1 hw1 => FB (vQ z0 0 8) (((vQ z0 8 1).toNat:Int)) (((vQ z0 9 1).toNat:Int)) ja jn jc jl th tv1 te1 (tk1) na1 tn1 nc1 tl1 na2 tm1 nc2 ts1 tb1 tg1 haA hnA hkA hxA haB hnB hkB hxB w1 hjl (by omega) (by omega) (by omega) (Gh.at hw1 3 rfl hjg) hc4 (by omega) (by omega) (by omega) (Gh.at hw1 5 rfl hc9) hc5 (by omega) (by omega) (by omega) (Gh.at hw1 6 rfl hc12) hc6 hxlA (by omega) (by omega) (by omega) (Gh.rdB hw1 7 rfl hghA) hxlB (by omega) (by omega) (by omega) (Gh.rdB hw1 8 rfl hghB) (by omega) (by omega))) rfl ?_
        rintro v1 L1 ⟨rfl, rfl⟩
        show JL _ _ _ _ ((103, .bool (repR (((vQ z0 8 1).toNat:Int)) (((vQ z0 9 1).toNat:Int)) th jl (blankB tv1 te1 (tk1) tl1 ts1 tb1 tg1) (decide (mayN tv1 te1 (tk1) tl1 ts1 tb1 = 0)) hnA hnB)) :: _) [_, _, _, _, _, _, _, _, _]
        refine AM 3 101 false _ (.bool (!(repR (((vQ z0 8 1).toNat:Int)) (((vQ z0 9 1).toNat:Int)) th jl (blankB tv1 te1 (tk1) tl1 ts1 tb1 tg1) (decide (mayN tv1 te1 (tk1) tl1 ts1 tb1 = 0)) hnA hnB))) rfl rfl (bnotT hb47) (D1 rfl) rfl (AA _ (A5 _ rfl (bnotT hb47) rfl) rfl ?_)
        refine AJ (AD (CC (!(repR (((vQ z0 8 1).toNat:Int)) (((vQ z0 9 1).toNat:Int)) th jl (blankB tv1 te1 (tk1) tl1 ts1 tb1 tg1) (decide (mayN tv1 te1 (tk1) tl1 ts1 tb1 = 0)) hnA hnB)) rfl (fun hb48 => ?_) (fun hb48 => ?_)))
        ·
         have hb49 : (repR (((vQ z0 8 1).toNat:Int)) (((vQ z0 9 1).toNat:Int)) th jl (blankB tv1 te1 (tk1) tl1 ts1 tb1 tg1) (decide (mayN tv1 te1 (tk1) tl1 ts1 tb1 = 0)) hnA hnB) = false := by simpa using hb48
         refine AF (AC (AA (.agg (V7).toArray) (CY [] _ rfl (fun _ => by kernel_rfl)) rfl ?_))
         refine AA (.iface 50 (I64 2)) (DH BN rfl rfl) rfl ?_
         refine A7 (BS 0 nb1 29 _ 67 (V7) rfl rfl rfl BQ (by simp [(AO 16)]) (B0 (B0 (by simp [Value.oneCell']) CZ) (by simp [Value.oneCell'])) (by simp [(AO 16)]) (BW (by simp [(AO 16), (AO 16)]))) rfl ?_
         show JL _ _ _ _ _ [_, _, _, _, _, _, _, _, _]
         refine AA _ (AE rfl) rfl ?_
         refine AJ (AD (BK (A6 (BJ (.tuple #[.agg (V7).toArray, .iface 50 (I64 2)]) (res2 ES (DQ rfl (BR B8 BQ (by simp [(AO 16)]) (AR 0 rfl (AN _)))) (BF rfl)) fun w1 hw1 => ?_))))
         have he : qhB = z0.length := (GA hrqB).1 (by have h9 := of_decide_eq_true hb47; omega)
         have hA := hnhA (by omega)
         have hB := hnhB (by omega)
         exact ⟨_, [], rfl, .inr ⟨BadRp.of ⟨hqhB.symm.trans he, rfl, rfl, rfl, hja (by omega), hth, htk, hA.1.1, hA.1.2, hB.1.1, hB.1.2⟩ hb49, rfl, rfl⟩, hw1.no⟩
        ·
         have hb50 : (repR (((vQ z0 8 1).toNat:Int)) (((vQ z0 9 1).toNat:Int)) th jl (blankB tv1 te1 (tk1) tl1 ts1 tb1 tg1) (decide (mayN tv1 te1 (tk1) tl1 ts1 tb1 = 0)) hnA hnB) = true := by simpa using hb48
         refine BH (AD (AF (AC (AA _ (AL rfl (BR B8 BQ (by simp [hc6]) (AR 2 rfl (AN _)))) rfl ?_))))
         refine A7 (BS 0 nb1 29 _ 67 (V0 (vQ z0 0 8) (((vQ z0 8 1).toNat:Int)) (((vQ z0 9 1).toNat:Int)) ja jn jc th tv1 te1 (tk1) na1 tn1 nc1 na2 tm1 nc2 tb1 tg1 haA hnA hkA haB hnB hkB) rfl rfl rfl BQ (by simp [hc6]) (B0 (B0 (by simp [Value.oneCell']) CZ) (by simp [Value.oneCell'])) (by simp [(AO 16)]) (BW (by simp [(AO 16), hc6]))) rfl ?_
         show JL _ _ _ _ _ [_, _, _, _, _, _, _, _, _]
         refine AA _ (AE rfl) rfl ?_
         refine AJ (AD (BK (BJ (.tuple #[.agg (V0 (vQ z0 0 8) (((vQ z0 8 1).toNat:Int)) (((vQ z0 9 1).toNat:Int)) ja jn jc th tv1 te1 (tk1) na1 tn1 nc1 na2 tm1 nc2 tb1 tg1 haA hnA hkA haB hnB hkB).toArray, .nilIface]) (res2 ES (DQ rfl (BR B8 BQ (by simp [hc6]) (AR 0 rfl (AN _)))) (BF rfl)) fun w1 hw1 => ?_)))
         have he : qhB = z0.length := (GA hrqB).1 (by have h9 := of_decide_eq_true hb47; omega)
         have hA := hnhA (by omega)
         have hB := hnhB (by omega)
         exact ⟨_, _, rfl, .inl ⟨_, _, _, jn, _, _, _, _, _, tn1, _, tm1, _, _, _, hnA, _, hnB, _, _, _, _, ja, jc, _, _, _, na1, nc1, _, _, _, na2, nc2, _, _, _, haA, hkA, _, _, _, haB, hkB, ⟨⟨hqhB.symm.trans he, rfl, rfl, rfl, hja (by omega), hth, htk, hA.1.1, hA.1.2, hB.1.1, hB.1.2⟩, hb50⟩, hjl, hc4, hc5, hc6, by omega, hc7, hc8, hxlA, hxlB, rfl, rfl, hjg, by first | omega | (unfold maxLen; omega), by first | omega | (unfold maxLen; omega), hc9, by first | omega | (unfold maxLen; omega), by first | omega | (unfold maxLen; omega), hc12, by first | omega | (unfold maxLen; omega), by first | omega | (unfold maxLen; omega), hghA, by first | omega | (unfold maxLen; omega), by first | omega | (unfold maxLen; omega), hghB, by first | omega | (unfold maxLen; omega), by first | omega | (unfold maxLen; omega)⟩, Hp.pick hw1 [3, 5, 6, 7, 8] ⟨rfl, rfl, rfl, rfl, rfl, trivial⟩ (by decide)⟩
       ·
        have hp47 : ¬ (endN (eQ z0 qhB) zrB.length = 0) := of_decide_eq_false hb47
        refine A9 3 3 101 false _ rfl rfl (bnotF hb47) rfl (AA _ (BA _ rfl (bnotF hb47) rfl) rfl ?_)
        refine AJ (AD (CH _ rfl rfl ?_))
        refine AF (AC (AA (.agg (V7).toArray) (CY [] _ rfl (fun _ => by kernel_rfl)) rfl ?_))
        refine AA (.iface 50 (I64 2)) (DH BN rfl rfl) rfl ?_
        refine A7 (BS 0 nb1 29 _ 67 (V7) rfl rfl rfl BQ (by simp [(AO 16)]) (B0 (B0 (by simp [Value.oneCell']) CZ) (by simp [Value.oneCell'])) (by simp [(AO 16)]) (BW (by simp [(AO 16), (AO 16)]))) rfl ?_
        show JL _ _ _ _ _ [_, _, _, _, _, _, _, _, _]
        refine AA _ (AE rfl) rfl ?_
        refine AJ (AD (BK (A6 (BJ (.tuple #[.agg (V7).toArray, .iface 50 (I64 2)]) (res2 ES (DQ rfl (BR B8 BQ (by simp [(AO 16)]) (AR 0 rfl (AN _)))) (BF rfl)) fun w1 hw1 => ?_))))
        exact ⟨_, [], rfl, .inr ⟨BadRp.far (fun e => (of_decide_eq_false hb47) ((GA hrqB).2 (hqhB.trans e))), rfl, rfl⟩, hw1.no⟩
      ·
       obtain ⟨hqhB, hnhB, hrqB, hrAB, hr1B, hr2B, hr3B⟩ := hx
       show JQ _ _ _ [_, _, _, _] [_, _, _, _, _, _, _, _]
       refine AD (AF (AF ?_))
       have hch : chZ z0 = true := by unfold chZ; rw [← hth]; exact hb36
       have htn : tt1 = tkN (z0.drop qb) := TkR.tot hT1
       have htk := (Or.inl ⟨hch, by rw [← hqb, ← htn]; exact hT1⟩ : TkZ z0 tv1 te1 tk1 tl1 ts1 tb1 tg1)
       have hbd : endN (eQ z0 qhB) zrB.length = 0 → qhB = z0.length := (GA hrqB).1
       have g1 := P2_ge z0
       have g2 := P3_ge z0
       have g3 := P4_ge z0
       have g4 := P5_ge z0
       refine AC (AA _ (AG rfl) rfl ?_)
       refine A7 (A3 63 _ (errV 50 (endN (eQ z0 qhB) zrB.length)) (AV _ EE rfl) (fun w1 hw1 => end_w nb2 (eQ z0 qhB) raB zrB.length rcB w1 (RdA.of hw1 (AR 4 rfl (AN _)) (by simp)))) rfl ?_
       show JL _ _ _ _ ((99, errV 50 (endN (eQ z0 qhB) zrB.length)) :: _) [_, _, _, _, _, _, _, _]
       refine AA (.bool (!(decide (endN (eQ z0 qhB) zrB.length = 0)))) (DM _ _ _ rfl rfl (fun _ => CE ..) fun _ => DW BG _ _) rfl ?_
       refine AA _ (AG rfl) rfl ?_
       rcases Bool.eq_false_or_eq_true (decide (endN (eQ z0 qhB) zrB.length = 0)) with hb51 | hb51
       ·
        have hp51 : endN (eQ z0 qhB) zrB.length = 0 := of_decide_eq_true hb51
        refine AM 3 101 false _ _ rfl rfl (bnotT hb51) (AL rfl (BR B8 BQ (by simp [hc6]) (AR 2 rfl (AN _)))) rfl ?_
        refine DC 3 101 false _ rfl rfl (bnotT hb51) (A3 35 _ (.bool (repR (((vQ z0 8 1).toNat:Int)) (((vQ z0 9 1).toNat:Int)) th jl (blankB tv1 te1 (tk1) tl1 ts1 tb1 tg1) (decide (mayN tv1 te1 (tk1) tl1 ts1 tb1 = 0)) hnA 0)) (AV _ Tryd.call35 rfl) (fun w1 hw1 => FB (vQ z0 0 8) (((vQ z0 8 1).toNat:Int)) (((vQ z0 9 1).toNat:Int)) ja jn jc jl th tv1 te1 (tk1) na1 tn1 nc1 tl1 na2 tm1 nc2 ts1 tb1 tg1 haA hnA hkA hxA none 0 0 ([]) w1 hjl (by omega) (by omega) (by omega) (Gh.at hw1 3 rfl hjg) hc4 (by omega) (by omega) (by omega) (Gh.at hw1 5 rfl hc9) hc5 (by omega) (by omega) (by omega) (Gh.at hw1 6 rfl hc12) hc6 hxlA (by omega) (by omega) (by omega) (Gh.rdB hw1 7 rfl hghA) rfl (by omega) (by omega) (by unfold maxLen; omega) RdB.nil (by omega) (by omega))) rfl ?_
        rintro v1 L1 ⟨rfl, rfl⟩
        show JL _ _ _ _ ((103, .bool (repR (((vQ z0 8 1).toNat:Int)) (((vQ z0 9 1).toNat:Int)) th jl (blankB tv1 te1 (tk1) tl1 ts1 tb1 tg1) (decide (mayN tv1 te1 (tk1) tl1 ts1 tb1 = 0)) hnA 0)) :: _) [_, _, _, _, _, _, _, _]
        refine AM 3 101 false _ (.bool (!(repR (((vQ z0 8 1).toNat:Int)) (((vQ z0 9 1).toNat:Int)) th jl (blankB tv1 te1 (tk1) tl1 ts1 tb1 tg1) (decide (mayN tv1 te1 (tk1) tl1 ts1 tb1 = 0)) hnA 0))) rfl rfl (bnotT hb51) (D1 rfl) rfl (AA _ (A5 _ rfl (bnotT hb51) rfl) rfl ?_)
        refine AJ (AD (CC (!(repR (((vQ z0 8 1).toNat:Int)) (((vQ z0 9 1).toNat:Int)) th jl (blankB tv1 te1 (tk1) tl1 ts1 tb1 tg1) (decide (mayN tv1 te1 (tk1) tl1 ts1 tb1 = 0)) hnA 0)) rfl (fun hb52 => ?_) (fun hb52 => ?_)))
        ·
         have hb53 : (repR (((vQ z0 8 1).toNat:Int)) (((vQ z0 9 1).toNat:Int)) th jl (blankB tv1 te1 (tk1) tl1 ts1 tb1 tg1) (decide (mayN tv1 te1 (tk1) tl1 ts1 tb1 = 0)) hnA 0) = false := by simpa using hb52
         refine AF (AC (AA (.agg (V7).toArray) (CY [] _ rfl (fun _ => by kernel_rfl)) rfl ?_))
         refine AA (.iface 50 (I64 2)) (DH BN rfl rfl) rfl ?_
         refine A7 (BS 0 nb1 29 _ 67 (V7) rfl rfl rfl BQ (by simp [(AO 16)]) (B0 (B0 (by simp [Value.oneCell']) CZ) (by simp [Value.oneCell'])) (by simp [(AO 16)]) (BW (by simp [(AO 16), (AO 16)]))) rfl ?_
         show JL _ _ _ _ _ [_, _, _, _, _, _, _, _]
         refine AA _ (AE rfl) rfl ?_
         refine AJ (AD (BK (A6 (BJ (.tuple #[.agg (V7).toArray, .iface 50 (I64 2)]) (res2 ES (DQ rfl (BR B8 BQ (by simp [(AO 16)]) (AR 0 rfl (AN _)))) (BF rfl)) fun w1 hw1 => ?_))))
         have he : qhB = z0.length := (GA hrqB).1 (by have h9 := of_decide_eq_true hb51; omega)
         have hA := hnhA (by omega)
         have hB := hnhB (by omega)
         exact ⟨_, [], rfl, .inr ⟨BadRp.of ⟨hqhB.symm.trans he, rfl, rfl, rfl, hja (by omega), hth, htk, hA.1.1, hA.1.2, hB.1.1, hB.1.2⟩ hb53, rfl, rfl⟩, hw1.no⟩
        ·
         have hb54 : (repR (((vQ z0 8 1).toNat:Int)) (((vQ z0 9 1).toNat:Int)) th jl (blankB tv1 te1 (tk1) tl1 ts1 tb1 tg1) (decide (mayN tv1 te1 (tk1) tl1 ts1 tb1 = 0)) hnA 0) = true := by simpa using hb52
         refine BH (AD (AF (AC (AA _ (AL rfl (BR B8 BQ (by simp [hc6]) (AR 2 rfl (AN _)))) rfl ?_))))
         refine A7 (BS 0 nb1 29 _ 67 (V0 (vQ z0 0 8) (((vQ z0 8 1).toNat:Int)) (((vQ z0 9 1).toNat:Int)) ja jn jc th tv1 te1 (tk1) na1 tn1 nc1 na2 tm1 nc2 tb1 tg1 haA hnA hkA none 0 0) rfl rfl rfl BQ (by simp [hc6]) (B0 (B0 (by simp [Value.oneCell']) CZ) (by simp [Value.oneCell'])) (by simp [(AO 16)]) (BW (by simp [(AO 16), hc6]))) rfl ?_
         show JL _ _ _ _ _ [_, _, _, _, _, _, _, _]
         refine AA _ (AE rfl) rfl ?_
         refine AJ (AD (BK (BJ (.tuple #[.agg (V0 (vQ z0 0 8) (((vQ z0 8 1).toNat:Int)) (((vQ z0 9 1).toNat:Int)) ja jn jc th tv1 te1 (tk1) na1 tn1 nc1 na2 tm1 nc2 tb1 tg1 haA hnA hkA none 0 0).toArray, .nilIface]) (res2 ES (DQ rfl (BR B8 BQ (by simp [hc6]) (AR 0 rfl (AN _)))) (BF rfl)) fun w1 hw1 => ?_)))
         have he : qhB = z0.length := (GA hrqB).1 (by have h9 := of_decide_eq_true hb51; omega)
         have hA := hnhA (by omega)
         have hB := hnhB (by omega)
         exact ⟨_, _, rfl, .inl ⟨_, _, _, jn, _, _, _, _, _, tn1, _, tm1, _, _, _, hnA, _, 0, _, _, _, _, ja, jc, _, _, _, na1, nc1, _, _, _, na2, nc2, _, _, _, haA, hkA, _, _, _, none, 0, ⟨⟨hqhB.symm.trans he, rfl, rfl, rfl, hja (by omega), hth, htk, hA.1.1, hA.1.2, hB.1.1, hB.1.2⟩, hb54⟩, hjl, hc4, hc5, hc6, by omega, hc7, hc8, hxlA, rfl, rfl, rfl, hjg, by first | omega | (unfold maxLen; omega), by first | omega | (unfold maxLen; omega), hc9, by first | omega | (unfold maxLen; omega), by first | omega | (unfold maxLen; omega), hc12, by first | omega | (unfold maxLen; omega), by first | omega | (unfold maxLen; omega), hghA, by first | omega | (unfold maxLen; omega), by first | omega | (unfold maxLen; omega), .inl rfl, by first | omega | (unfold maxLen; omega), by first | omega | (unfold maxLen; omega)⟩, Hp.pick hw1 [3, 5, 6, 7, 4] ⟨rfl, rfl, rfl, rfl, rfl, trivial⟩ (by decide)⟩
       ·
        have hp51 : ¬ (endN (eQ z0 qhB) zrB.length = 0) := of_decide_eq_false hb51
        refine A9 3 3 101 false _ rfl rfl (bnotF hb51) rfl (AA _ (BA _ rfl (bnotF hb51) rfl) rfl ?_)
        refine AJ (AD (CH _ rfl rfl ?_))
        refine AF (AC (AA (.agg (V7).toArray) (CY [] _ rfl (fun _ => by kernel_rfl)) rfl ?_))
        refine AA (.iface 50 (I64 2)) (DH BN rfl rfl) rfl ?_
        refine A7 (BS 0 nb1 29 _ 67 (V7) rfl rfl rfl BQ (by simp [(AO 16)]) (B0 (B0 (by simp [Value.oneCell']) CZ) (by simp [Value.oneCell'])) (by simp [(AO 16)]) (BW (by simp [(AO 16), (AO 16)]))) rfl ?_
        show JL _ _ _ _ _ [_, _, _, _, _, _, _, _]
        refine AA _ (AE rfl) rfl ?_
        refine AJ (AD (BK (A6 (BJ (.tuple #[.agg (V7).toArray, .iface 50 (I64 2)]) (res2 ES (DQ rfl (BR B8 BQ (by simp [(AO 16)]) (AR 0 rfl (AN _)))) (BF rfl)) fun w1 hw1 => ?_))))
        exact ⟨_, [], rfl, .inr ⟨BadRp.far (fun e => (of_decide_eq_false hb51) ((GA hrqB).2 (hqhB.trans e))), rfl, rfl⟩, hw1.no⟩
   ·
    refine BH (AD (AF (F9 (ι := Nat × Option Addr × Nat × Nat × List UInt8 × Nat × List Value × Nat × Option Addr × List UInt8 × Nat) (fun ⟨qhA, haA, hnA, hkA, hxA, hgA, hcsA, hTA, raA, zrA, rcA⟩ => [(2, Ptr nb1 0), (3, .nilIface), (4, Ptr nb2 0), (5, Ptr nb4 0), (15, .bool (bB (((vQ z0 9 1).toNat:Int)) (((vQ z0 8 1).toNat:Int)) th))]) (fun ⟨qhA, haA, hnA, hkA, hxA, hgA, hcsA, hTA, raA, zrA, rcA⟩ => [(Ez nb1 (V7) 67), (Ez nb3 (cu8 z0 ++ sp1) 5), (Ez nb2 [errV 50 (eQ z0 qhA), SL raA zrA.length rcA] 204), (Ez nb4 (V0 (vQ z0 0 8) (((vQ z0 8 1).toNat:Int)) (((vQ z0 9 1).toNat:Int)) ja jn jc th 0 0 0 none 0 0 none 0 0 0 (zr8 16) haA hnA hkA none 0 0) 67), (Ez jg jcs jT), (Ez hgA hcsA hTA)]) (fun ⟨qhA, haA, hnA, hkA, hxA, hgA, hcsA, hTA, raA, zrA, rcA⟩ => qhA = P4 z0 ∧ (qhA ≤ z0.length → (hnA = naZ z0 ∧ hxA = xaZ z0) ∧ 32 * hnA ≤ qhA) ∧ hxA.length = hnA*32 ∧ Gh (cu8 hxA) hgA hcsA haA ∧ hnA ≤ hkA ∧ hkA ≤ maxLen ∧ Lq z0 zrA qhA ∧ (∀ w M, RdB w M (some ⟨nb3, 0, none⟩) z0 → RdB w M raA zrA) ∧ zrA.length ≤ rcA ∧ rcA ≤ maxLen ∧ zrA.length ≤ n) ?_ ?_)))
    ·
     refine AF ?_
     have hch : chZ z0 = false := by unfold chZ; rw [← hth]; exact hb36
     have p3 : P3 z0 = qb := (P3_f hch).trans hqb.symm
     refine AC (AA _ (AG rfl) rfl ?_)
     refine AJ (AD (CC (aB (((vQ z0 9 1).toNat:Int)) (((vQ z0 8 1).toNat:Int)) th) rfl (fun hb55 => ?_) (fun hb55 => ?_)))
     ·
      refine AC (AA _ (AG rfl) rfl ?_)
      refine A2 (BD 122 _ [false, false, true, false, false, false] [nb2] _ (AV _ Tryd.call122 rfl) rfl (fun w1 hw1 => listQ_c nb2 qb rb zb.length sb z0 zb w1 (hw1.en 2 rfl) rfl (by omega) (by omega) (by omega) (hsA _ _ (RdB.of hw1 (AR 1 rfl (AI (AN _))) (hw1.nm 1 2 rfl rfl (by decide)))) hsq)) rfl ?_
      rintro v1 L1 ⟨_, ⟨pq6, ao13, zz13, ca13, nm3, hpq7, hq13, ⟨hA13, hb56, hb57, hb58⟩, hm7, hme3, (⟨hm9, rfl, rfl⟩ | ⟨hm8, nb17, sp8, cp8, rfl, rfl, hc21, hc22, hc23⟩)⟩, rfl⟩
      ·
       show JL _ _ _ _ ((92, SL none 0 0) :: _) [_, _, _, _, _, (Ez nb2 [errV 50 (eQ z0 pq6), SL ao13 zz13.length ca13] 204)]
       refine AA (Ptr nb4 27) (AB 27 65 1 AK rfl CI rfl rfl) rfl ?_
       refine A7 (C0 2 nb4 27 1 _ 67 (SL none 0 0) ([SL none 0 0]) (V0 (vQ z0 0 8) (((vQ z0 8 1).toNat:Int)) (((vQ z0 9 1).toNat:Int)) ja jn jc th 0 0 0 none 0 0 none 0 0 0 (zr8 16) none 0 0 none 0 0) rfl rfl rfl rfl CI rfl (by simp [Value.oneCell']) (by simp [(AO 16)]) (E6 27 0 (by simp [(AO 16)]) rfl (rfl))) rfl ?_
       show JL _ _ _ _ _ [_, _, _, _, _, _]
       refine AJ ?_
       have hzA : aZ z0 = true := by unfold aZ; rw [← hth]; exact hb55
       refine FG [0, 1, 5, 2, 3, 4] (by decide) ?_
       show JQ _ _ _ _ [_, _, _, _, _, _]
       refine D9 ((pq6, none, 0, 0, [], sg2, cs2, nT2, ao13, zz13, ca13)) ⟨by rw [P4_t hzA, p3]; exact hpq7, (fun h => by have h9 : 0 = hN z0 qb := (by have h8 := hme3 h; omega); rw [(A_t hzA).1, (A_t hzA).2, p3, ← h9]; exact ⟨⟨rfl, (hQ_zero _ _).symm⟩, by omega⟩), rfl, .inl rfl, by omega, by first | omega | (unfold maxLen; omega), hq13, (fun w M h => hA13 w M (hsA w M h)), by omega, by omega, by omega⟩ (Sub.all rfl) rfl
      ·
       show JL _ _ _ _ ((92, Slc nb17 0 nm3 cp8) :: _) [_, _, _, _, _, (Ez nb2 [errV 50 (eQ z0 pq6), SL ao13 zz13.length ca13] 204), (Ez nb17 (cu8 (hQ z0 (qb + 2) nm3) ++ sp8) 54)]
       refine AA (Ptr nb4 27) (AB 27 65 1 AK rfl CI rfl rfl) rfl ?_
       refine A7 (C0 2 nb4 27 1 _ 67 (Slc nb17 0 nm3 cp8) ([Slc nb17 0 nm3 cp8]) ([U64 (vQ z0 0 8), I64 (((vQ z0 8 1).toNat:Int)), I64 (((vQ z0 9 1).toNat:Int)), SL ja jn jc, .bool th, U64 0, U64 0, I64 0, SL none 0 0, SL none 0 0, U64 0] ++ cu8 (zr8 16) ++ [Slc nb17 0 nm3 cp8, SL none 0 0]) rfl rfl rfl rfl CI rfl (by simp [Value.oneCell']) (by simp [(AO 16)]) (E6 27 0 (by simp [(AO 16)]) rfl (rfl))) rfl ?_
       show JL _ _ _ _ _ [_, _, _, _, _, _, _]
       refine AJ ?_
       have hzA : aZ z0 = true := by unfold aZ; rw [← hth]; exact hb55
       refine FG [0, 1, 5, 2, 3, 6] (by decide) ?_
       show JQ _ _ _ _ [_, _, _, _, _, _]
       refine D9 ((pq6, (some ⟨nb17, 0, none⟩), nm3, cp8, hQ z0 (qb + 2) nm3, nb17, cu8 (hQ z0 (qb + 2) nm3) ++ sp8, 54, ao13, zz13, ca13)) ⟨by rw [P4_t hzA, p3]; exact hpq7, (fun h => by have h9 := hme3 h; rw [(A_t hzA).1, (A_t hzA).2, p3, ← h9]; exact ⟨⟨rfl, rfl⟩, by omega⟩), (hQ_len _ _ _), .inr ⟨rfl, _, rfl⟩, by omega, by first | omega | (unfold maxLen; omega), hq13, (fun w M h => hA13 w M (hsA w M h)), by omega, by omega, by omega⟩ (Sub.all rfl) rfl
     ·
      refine BH ?_
      have hzA : aZ z0 = false := by unfold aZ; rw [← hth]; exact hb55
      refine D9 ((qb, none, 0, 0, [], sg2, cs2, nT2, rb, zb, sb)) ⟨p3.symm.trans (P4_f hzA).symm, (fun _ => ⟨⟨(A_f hzA).1.symm, (A_f hzA).2.symm⟩, by omega⟩), rfl, .inl rfl, by omega, by first | omega | (unfold maxLen; omega), hsq, hsA, by omega, by omega, by omega⟩ (Sub.all rfl) rfl
    ·
     rintro ⟨qhA, haA, hnA, hkA, hxA, hgA, hcsA, hTA, raA, zrA, rcA⟩ hx
     obtain ⟨hqhA, hnhA, hxlA, hghA, hnkA, hkmA, hrqA, hrAA, hr1A, hr2A, hr3A⟩ := hx
     show JQ _ _ _ [_, _, _, _, _] [_, _, _, _, _, _]
     refine AD (AF (F9 (ι := (Nat × Option Addr × Nat × Nat × List UInt8 × Nat × List Value × Nat × Option Addr × List UInt8 × Nat) ⊕ (Nat × Option Addr × List UInt8 × Nat)) (fun x => match x with | .inl ⟨qhB, haB, hnB, hkB, hxB, hgB, hcsB, hTB, raB, zrB, rcB⟩ => [(2, Ptr nb1 0), (3, .nilIface), (4, Ptr nb2 0), (5, Ptr nb4 0)] | .inr ⟨qhB, raB, zrB, rcB⟩ => [(2, Ptr nb1 0), (3, .nilIface), (4, Ptr nb2 0), (5, Ptr nb4 0)]) (fun x => match x with | .inl ⟨qhB, haB, hnB, hkB, hxB, hgB, hcsB, hTB, raB, zrB, rcB⟩ => [(Ez nb1 (V7) 67), (Ez nb3 (cu8 z0 ++ sp1) 5), (Ez nb2 [errV 50 (eQ z0 qhB), SL raB zrB.length rcB] 204), (Ez nb4 (V0 (vQ z0 0 8) (((vQ z0 8 1).toNat:Int)) (((vQ z0 9 1).toNat:Int)) ja jn jc th 0 0 0 none 0 0 none 0 0 0 (zr8 16) haA hnA hkA haB hnB hkB) 67), (Ez jg jcs jT), (Ez hgA hcsA hTA), (Ez hgB hcsB hTB)] | .inr ⟨qhB, raB, zrB, rcB⟩ => [(Ez nb1 (V7) 67), (Ez nb3 (cu8 z0 ++ sp1) 5), (Ez nb2 [errV 50 (eQ z0 qhB), SL raB zrB.length rcB] 204), (Ez nb4 (V0 (vQ z0 0 8) (((vQ z0 8 1).toNat:Int)) (((vQ z0 9 1).toNat:Int)) ja jn jc th 0 0 0 none 0 0 none 0 0 0 (zr8 16) haA hnA hkA none 0 0) 67), (Ez jg jcs jT), (Ez hgA hcsA hTA)]) (fun x => match x with | .inl ⟨qhB, haB, hnB, hkB, hxB, hgB, hcsB, hTB, raB, zrB, rcB⟩ => qhB = P5 z0 ∧ (qhB ≤ z0.length → (hnB = nbZ z0 ∧ hxB = xbZ z0) ∧ 32 * hnB ≤ qhB) ∧ hxB.length = hnB*32 ∧ Gh (cu8 hxB) hgB hcsB haB ∧ hnB ≤ hkB ∧ hkB ≤ maxLen ∧ Lq z0 zrB qhB ∧ (∀ w M, RdB w M (some ⟨nb3, 0, none⟩) z0 → RdB w M raB zrB) ∧ zrB.length ≤ rcB ∧ rcB ≤ maxLen ∧ zrB.length ≤ n | .inr ⟨qhB, raB, zrB, rcB⟩ => qhB = P5 z0 ∧ (qhB ≤ z0.length → (0 = nbZ z0 ∧ ([] : List UInt8) = xbZ z0) ∧ 32 * 0 ≤ qhB) ∧ Lq z0 zrB qhB ∧ (∀ w M, RdB w M (some ⟨nb3, 0, none⟩) z0 → RdB w M raB zrB) ∧ zrB.length ≤ rcB ∧ rcB ≤ maxLen ∧ zrB.length ≤ n) ?_ ?_))
     ·
      refine AF ?_
      have p4 : P4 z0 = qhA := hqhA.symm
      refine AC (AA _ (AG rfl) rfl ?_)
      refine AJ (AD (CC (bB (((vQ z0 9 1).toNat:Int)) (((vQ z0 8 1).toNat:Int)) th) rfl (fun hb59 => ?_) (fun hb59 => ?_)))
      ·
       refine AC (AA _ (AG rfl) rfl ?_)
       refine A2 (BD 122 _ [false, false, true, false, false, false] [nb2] _ (AV _ Tryd.call122 rfl) rfl (fun w1 hw1 => listQ_c nb2 qhA raA zrA.length rcA z0 zrA w1 (hw1.en 2 rfl) rfl (by omega) (by omega) (by omega) (hrAA _ _ (RdB.of hw1 (AR 1 rfl (AI (AN _))) (hw1.nm 1 2 rfl rfl (by decide)))) hrqA)) rfl ?_
       rintro v1 L1 ⟨_, ⟨pq7, ao14, zz14, ca14, nm4, hpq8, hq14, ⟨hA14, hb60, hb61, hb62⟩, hm10, hme4, (⟨hm12, rfl, rfl⟩ | ⟨hm11, nb18, sp9, cp9, rfl, rfl, hc24, hc25, hc26⟩)⟩, rfl⟩
       ·
        show JL _ _ _ _ ((96, SL none 0 0) :: _) [_, _, _, _, _, (Ez nb2 [errV 50 (eQ z0 pq7), SL ao14 zz14.length ca14] 204)]
        refine AA (Ptr nb4 28) (AB 28 65 1 AK rfl CI rfl rfl) rfl ?_
        refine A7 (C0 2 nb4 28 1 _ 67 (SL none 0 0) ([SL none 0 0]) (V0 (vQ z0 0 8) (((vQ z0 8 1).toNat:Int)) (((vQ z0 9 1).toNat:Int)) ja jn jc th 0 0 0 none 0 0 none 0 0 0 (zr8 16) haA hnA hkA none 0 0) rfl rfl rfl rfl CI rfl (by simp [Value.oneCell']) (by simp [(AO 16)]) (E6 27 1 (by simp [(AO 16)]) rfl (rfl))) rfl ?_
        show JL _ _ _ _ _ [_, _, _, _, _, _]
        refine AJ ?_
        have hzB : bZ z0 = true := by unfold bZ; rw [← hth]; exact hb59
        refine FG [0, 1, 5, 2, 3, 4] (by decide) ?_
        show JQ _ _ _ _ [_, _, _, _, _, _]
        refine D9 (.inr (pq7, ao14, zz14, ca14)) ⟨by rw [P5_t hzB, p4]; exact hpq8, (fun h => by have h9 : 0 = hN z0 qhA := (by have h8 := hme4 h; omega); rw [(B_t hzB).1, (B_t hzB).2, p4, ← h9]; exact ⟨⟨rfl, (hQ_zero _ _).symm⟩, by omega⟩), hq14, (fun w M h => hA14 w M (hrAA w M h)), by omega, by omega, by omega⟩ (Sub.all rfl) rfl
       ·
        show JL _ _ _ _ ((96, Slc nb18 0 nm4 cp9) :: _) [_, _, _, _, _, (Ez nb2 [errV 50 (eQ z0 pq7), SL ao14 zz14.length ca14] 204), (Ez nb18 (cu8 (hQ z0 (qhA + 2) nm4) ++ sp9) 54)]
        refine AA (Ptr nb4 28) (AB 28 65 1 AK rfl CI rfl rfl) rfl ?_
        refine A7 (C0 2 nb4 28 1 _ 67 (Slc nb18 0 nm4 cp9) ([Slc nb18 0 nm4 cp9]) ([U64 (vQ z0 0 8), I64 (((vQ z0 8 1).toNat:Int)), I64 (((vQ z0 9 1).toNat:Int)), SL ja jn jc, .bool th, U64 0, U64 0, I64 0, SL none 0 0, SL none 0 0, U64 0] ++ cu8 (zr8 16) ++ [SL haA hnA hkA, Slc nb18 0 nm4 cp9]) rfl rfl rfl rfl CI rfl (by simp [Value.oneCell']) (by simp [(AO 16)]) (E6 27 1 (by simp [(AO 16)]) rfl (rfl))) rfl ?_
        show JL _ _ _ _ _ [_, _, _, _, _, _, _]
        refine AJ ?_
        have hzB : bZ z0 = true := by unfold bZ; rw [← hth]; exact hb59
        refine FG [0, 1, 5, 2, 3, 4, 6] (by decide) ?_
        show JQ _ _ _ _ [_, _, _, _, _, _, _]
        refine D9 (.inl (pq7, (some ⟨nb18, 0, none⟩), nm4, cp9, hQ z0 (qhA + 2) nm4, nb18, cu8 (hQ z0 (qhA + 2) nm4) ++ sp9, 54, ao14, zz14, ca14)) ⟨by rw [P5_t hzB, p4]; exact hpq8, (fun h => by have h9 := hme4 h; rw [(B_t hzB).1, (B_t hzB).2, p4, ← h9]; exact ⟨⟨rfl, rfl⟩, by omega⟩), (hQ_len _ _ _), .inr ⟨rfl, _, rfl⟩, by omega, by first | omega | (unfold maxLen; omega), hq14, (fun w M h => hA14 w M (hrAA w M h)), by omega, by omega, by omega⟩ (Sub.all rfl) rfl
      ·
       refine BH ?_
       have hzB : bZ z0 = false := by unfold bZ; rw [← hth]; exact hb59
       refine D9 (.inr (qhA, raA, zrA, rcA)) ⟨p4.symm.trans (P5_f hzB).symm, (fun _ => ⟨⟨(B_f hzB).1.symm, (B_f hzB).2.symm⟩, by omega⟩), hrqA, hrAA, by omega, by omega, by omega⟩ (Sub.all rfl) rfl
     ·
      rintro (⟨qhB, haB, hnB, hkB, hxB, hgB, hcsB, hTB, raB, zrB, rcB⟩ | ⟨qhB, raB, zrB, rcB⟩) hx
      ·
       obtain ⟨hqhB, hnhB, hxlB, hghB, hnkB, hkmB, hrqB, hrAB, hr1B, hr2B, hr3B⟩ := hx
       show JQ _ _ _ [_, _, _, _] [_, _, _, _, _, _, _]
       refine AD (AF (AF ?_))
       have hch : chZ z0 = false := by unfold chZ; rw [← hth]; exact hb36
       have htk := (Or.inr ⟨hch, rfl, rfl, rfl, rfl, rfl, rfl, rfl⟩ : TkZ z0 0 0 0 [] [] 0 (zr8 16))
       have hbd : endN (eQ z0 qhB) zrB.length = 0 → qhB = z0.length := (GA hrqB).1
       have g1 := P2_ge z0
       have g2 := P3_ge z0
       have g3 := P4_ge z0
       have g4 := P5_ge z0
       refine AC (AA _ (AG rfl) rfl ?_)
       refine A7 (A3 63 _ (errV 50 (endN (eQ z0 qhB) zrB.length)) (AV _ EE rfl) (fun w1 hw1 => end_w nb2 (eQ z0 qhB) raB zrB.length rcB w1 (RdA.of hw1 (AR 2 rfl (AN _)) (by simp)))) rfl ?_
       show JL _ _ _ _ ((99, errV 50 (endN (eQ z0 qhB) zrB.length)) :: _) [_, _, _, _, _, _, _]
       refine AA (.bool (!(decide (endN (eQ z0 qhB) zrB.length = 0)))) (DM _ _ _ rfl rfl (fun _ => CE ..) fun _ => DW BG _ _) rfl ?_
       refine AA _ (AG rfl) rfl ?_
       rcases Bool.eq_false_or_eq_true (decide (endN (eQ z0 qhB) zrB.length = 0)) with hb63 | hb63
       ·
        have hp63 : endN (eQ z0 qhB) zrB.length = 0 := of_decide_eq_true hb63
        refine AM 3 101 false _ _ rfl rfl (bnotT hb63) (AL rfl (BR B8 BQ (by simp [(AO 16)]) (AR 3 rfl (AN _)))) rfl ?_
        refine DC 3 101 false _ rfl rfl (bnotT hb63) (A3 35 _ (.bool (repR (((vQ z0 8 1).toNat:Int)) (((vQ z0 9 1).toNat:Int)) th jl (blankB (0:UInt64) (0:UInt64) (0:Int) ([] : List UInt64) ([] : List SealR) (0:UInt64) (zr8 16)) (decide (mayN (0:UInt64) (0:UInt64) (0:Int) ([] : List UInt64) ([] : List SealR) (0:UInt64) = 0)) hnA hnB)) (AV _ Tryd.call35 rfl) (fun w1 hw1 => FB (vQ z0 0 8) (((vQ z0 8 1).toNat:Int)) (((vQ z0 9 1).toNat:Int)) ja jn jc jl th (0:UInt64) (0:UInt64) (0:Int) none 0 0 ([] : List UInt64) none 0 0 ([] : List SealR) (0:UInt64) (zr8 16) haA hnA hkA hxA haB hnB hkB hxB w1 hjl (by omega) (by omega) (by omega) (Gh.at hw1 4 rfl hjg) rfl (by omega) (by omega) (by omega) RdV.nil rfl (by omega) (by omega) (by omega) RdV.nil (AO 16) hxlA (by omega) (by omega) (by omega) (Gh.rdB hw1 5 rfl hghA) hxlB (by omega) (by omega) (by omega) (Gh.rdB hw1 6 rfl hghB) (by omega) (by omega))) rfl ?_
        rintro v1 L1 ⟨rfl, rfl⟩
        show JL _ _ _ _ ((103, .bool (repR (((vQ z0 8 1).toNat:Int)) (((vQ z0 9 1).toNat:Int)) th jl (blankB (0:UInt64) (0:UInt64) (0:Int) ([] : List UInt64) ([] : List SealR) (0:UInt64) (zr8 16)) (decide (mayN (0:UInt64) (0:UInt64) (0:Int) ([] : List UInt64) ([] : List SealR) (0:UInt64) = 0)) hnA hnB)) :: _) [_, _, _, _, _, _, _]
        refine AM 3 101 false _ (.bool (!(repR (((vQ z0 8 1).toNat:Int)) (((vQ z0 9 1).toNat:Int)) th jl (blankB (0:UInt64) (0:UInt64) (0:Int) ([] : List UInt64) ([] : List SealR) (0:UInt64) (zr8 16)) (decide (mayN (0:UInt64) (0:UInt64) (0:Int) ([] : List UInt64) ([] : List SealR) (0:UInt64) = 0)) hnA hnB))) rfl rfl (bnotT hb63) (D1 rfl) rfl (AA _ (A5 _ rfl (bnotT hb63) rfl) rfl ?_)
        refine AJ (AD (CC (!(repR (((vQ z0 8 1).toNat:Int)) (((vQ z0 9 1).toNat:Int)) th jl (blankB (0:UInt64) (0:UInt64) (0:Int) ([] : List UInt64) ([] : List SealR) (0:UInt64) (zr8 16)) (decide (mayN (0:UInt64) (0:UInt64) (0:Int) ([] : List UInt64) ([] : List SealR) (0:UInt64) = 0)) hnA hnB)) rfl (fun hb64 => ?_) (fun hb64 => ?_)))
        ·
         have hb65 : (repR (((vQ z0 8 1).toNat:Int)) (((vQ z0 9 1).toNat:Int)) th jl (blankB (0:UInt64) (0:UInt64) (0:Int) ([] : List UInt64) ([] : List SealR) (0:UInt64) (zr8 16)) (decide (mayN (0:UInt64) (0:UInt64) (0:Int) ([] : List UInt64) ([] : List SealR) (0:UInt64) = 0)) hnA hnB) = false := by simpa using hb64
         refine AF (AC (AA (.agg (V7).toArray) (CY [] _ rfl (fun _ => by kernel_rfl)) rfl ?_))
         refine AA (.iface 50 (I64 2)) (DH BN rfl rfl) rfl ?_
         refine A7 (BS 0 nb1 29 _ 67 (V7) rfl rfl rfl BQ (by simp [(AO 16)]) (B0 (B0 (by simp [Value.oneCell']) CZ) (by simp [Value.oneCell'])) (by simp [(AO 16)]) (BW (by simp [(AO 16), (AO 16)]))) rfl ?_
         show JL _ _ _ _ _ [_, _, _, _, _, _, _]
         refine AA _ (AE rfl) rfl ?_
         refine AJ (AD (BK (A6 (BJ (.tuple #[.agg (V7).toArray, .iface 50 (I64 2)]) (res2 ES (DQ rfl (BR B8 BQ (by simp [(AO 16)]) (AR 0 rfl (AN _)))) (BF rfl)) fun w1 hw1 => ?_))))
         have he : qhB = z0.length := (GA hrqB).1 (by have h9 := of_decide_eq_true hb63; omega)
         have hA := hnhA (by omega)
         have hB := hnhB (by omega)
         exact ⟨_, [], rfl, .inr ⟨BadRp.of ⟨hqhB.symm.trans he, rfl, rfl, rfl, hja (by omega), hth, htk, hA.1.1, hA.1.2, hB.1.1, hB.1.2⟩ hb65, rfl, rfl⟩, hw1.no⟩
        ·
         have hb66 : (repR (((vQ z0 8 1).toNat:Int)) (((vQ z0 9 1).toNat:Int)) th jl (blankB (0:UInt64) (0:UInt64) (0:Int) ([] : List UInt64) ([] : List SealR) (0:UInt64) (zr8 16)) (decide (mayN (0:UInt64) (0:UInt64) (0:Int) ([] : List UInt64) ([] : List SealR) (0:UInt64) = 0)) hnA hnB) = true := by simpa using hb64
         refine BH (AD (AF (AC (AA _ (AL rfl (BR B8 BQ (by simp [(AO 16)]) (AR 3 rfl (AN _)))) rfl ?_))))
         refine A7 (BS 0 nb1 29 _ 67 (V0 (vQ z0 0 8) (((vQ z0 8 1).toNat:Int)) (((vQ z0 9 1).toNat:Int)) ja jn jc th 0 0 0 none 0 0 none 0 0 0 (zr8 16) haA hnA hkA haB hnB hkB) rfl rfl rfl BQ (by simp [(AO 16)]) (B0 (B0 (by simp [Value.oneCell']) CZ) (by simp [Value.oneCell'])) (by simp [(AO 16)]) (BW (by simp [(AO 16), (AO 16)]))) rfl ?_
         show JL _ _ _ _ _ [_, _, _, _, _, _, _]
         refine AA _ (AE rfl) rfl ?_
         refine AJ (AD (BK (BJ (.tuple #[.agg (V0 (vQ z0 0 8) (((vQ z0 8 1).toNat:Int)) (((vQ z0 9 1).toNat:Int)) ja jn jc th 0 0 0 none 0 0 none 0 0 0 (zr8 16) haA hnA hkA haB hnB hkB).toArray, .nilIface]) (res2 ES (DQ rfl (BR B8 BQ (by simp [(AO 16)]) (AR 0 rfl (AN _)))) (BF rfl)) fun w1 hw1 => ?_)))
         have he : qhB = z0.length := (GA hrqB).1 (by have h9 := of_decide_eq_true hb63; omega)
         have hA := hnhA (by omega)
         have hB := hnhB (by omega)
         exact ⟨_, _, rfl, .inl ⟨_, _, _, jn, _, _, _, _, _, 0, _, 0, _, _, _, hnA, _, hnB, _, _, _, _, ja, jc, _, _, _, none, 0, _, _, _, none, 0, _, _, _, haA, hkA, _, _, _, haB, hkB, ⟨⟨hqhB.symm.trans he, rfl, rfl, rfl, hja (by omega), hth, htk, hA.1.1, hA.1.2, hB.1.1, hB.1.2⟩, hb66⟩, hjl, rfl, rfl, (AO 16), by omega, (by omega), (by omega), hxlA, hxlB, rfl, rfl, hjg, by first | omega | (unfold maxLen; omega), by first | omega | (unfold maxLen; omega), .inl rfl, by first | omega | (unfold maxLen; omega), by first | omega | (unfold maxLen; omega), .inl rfl, by first | omega | (unfold maxLen; omega), by first | omega | (unfold maxLen; omega), hghA, by first | omega | (unfold maxLen; omega), by first | omega | (unfold maxLen; omega), hghB, by first | omega | (unfold maxLen; omega), by first | omega | (unfold maxLen; omega)⟩, Hp.pick hw1 [4, 3, 2, 5, 6] ⟨rfl, rfl, rfl, rfl, rfl, trivial⟩ (by decide)⟩
       ·
        have hp63 : ¬ (endN (eQ z0 qhB) zrB.length = 0) := of_decide_eq_false hb63
        refine A9 3 3 101 false _ rfl rfl (bnotF hb63) rfl (AA _ (BA _ rfl (bnotF hb63) rfl) rfl ?_)
        refine AJ (AD (CH _ rfl rfl ?_))
        refine AF (AC (AA (.agg (V7).toArray) (CY [] _ rfl (fun _ => by kernel_rfl)) rfl ?_))
        refine AA (.iface 50 (I64 2)) (DH BN rfl rfl) rfl ?_
        refine A7 (BS 0 nb1 29 _ 67 (V7) rfl rfl rfl BQ (by simp [(AO 16)]) (B0 (B0 (by simp [Value.oneCell']) CZ) (by simp [Value.oneCell'])) (by simp [(AO 16)]) (BW (by simp [(AO 16), (AO 16)]))) rfl ?_
        show JL _ _ _ _ _ [_, _, _, _, _, _, _]
        refine AA _ (AE rfl) rfl ?_
        refine AJ (AD (BK (A6 (BJ (.tuple #[.agg (V7).toArray, .iface 50 (I64 2)]) (res2 ES (DQ rfl (BR B8 BQ (by simp [(AO 16)]) (AR 0 rfl (AN _)))) (BF rfl)) fun w1 hw1 => ?_))))
        exact ⟨_, [], rfl, .inr ⟨BadRp.far (fun e => (of_decide_eq_false hb63) ((GA hrqB).2 (hqhB.trans e))), rfl, rfl⟩, hw1.no⟩
      ·
       obtain ⟨hqhB, hnhB, hrqB, hrAB, hr1B, hr2B, hr3B⟩ := hx
       show JQ _ _ _ [_, _, _, _] [_, _, _, _, _, _]
       refine AD (AF (AF ?_))
       have hch : chZ z0 = false := by unfold chZ; rw [← hth]; exact hb36
       have htk := (Or.inr ⟨hch, rfl, rfl, rfl, rfl, rfl, rfl, rfl⟩ : TkZ z0 0 0 0 [] [] 0 (zr8 16))
       have hbd : endN (eQ z0 qhB) zrB.length = 0 → qhB = z0.length := (GA hrqB).1
       have g1 := P2_ge z0
       have g2 := P3_ge z0
       have g3 := P4_ge z0
       have g4 := P5_ge z0
       refine AC (AA _ (AG rfl) rfl ?_)
       refine A7 (A3 63 _ (errV 50 (endN (eQ z0 qhB) zrB.length)) (AV _ EE rfl) (fun w1 hw1 => end_w nb2 (eQ z0 qhB) raB zrB.length rcB w1 (RdA.of hw1 (AR 2 rfl (AN _)) (by simp)))) rfl ?_
       show JL _ _ _ _ ((99, errV 50 (endN (eQ z0 qhB) zrB.length)) :: _) [_, _, _, _, _, _]
       refine AA (.bool (!(decide (endN (eQ z0 qhB) zrB.length = 0)))) (DM _ _ _ rfl rfl (fun _ => CE ..) fun _ => DW BG _ _) rfl ?_
       refine AA _ (AG rfl) rfl ?_
       rcases Bool.eq_false_or_eq_true (decide (endN (eQ z0 qhB) zrB.length = 0)) with hb67 | hb67
       ·
        have hp67 : endN (eQ z0 qhB) zrB.length = 0 := of_decide_eq_true hb67
        refine AM 3 101 false _ _ rfl rfl (bnotT hb67) (AL rfl (BR B8 BQ (by simp [(AO 16)]) (AR 3 rfl (AN _)))) rfl ?_
        refine DC 3 101 false _ rfl rfl (bnotT hb67) (A3 35 _ (.bool (repR (((vQ z0 8 1).toNat:Int)) (((vQ z0 9 1).toNat:Int)) th jl (blankB (0:UInt64) (0:UInt64) (0:Int) ([] : List UInt64) ([] : List SealR) (0:UInt64) (zr8 16)) (decide (mayN (0:UInt64) (0:UInt64) (0:Int) ([] : List UInt64) ([] : List SealR) (0:UInt64) = 0)) hnA 0)) (AV _ Tryd.call35 rfl) (fun w1 hw1 => FB (vQ z0 0 8) (((vQ z0 8 1).toNat:Int)) (((vQ z0 9 1).toNat:Int)) ja jn jc jl th (0:UInt64) (0:UInt64) (0:Int) none 0 0 ([] : List UInt64) none 0 0 ([] : List SealR) (0:UInt64) (zr8 16) haA hnA hkA hxA none 0 0 ([]) w1 hjl (by omega) (by omega) (by omega) (Gh.at hw1 4 rfl hjg) rfl (by omega) (by omega) (by omega) RdV.nil rfl (by omega) (by omega) (by omega) RdV.nil (AO 16) hxlA (by omega) (by omega) (by omega) (Gh.rdB hw1 5 rfl hghA) rfl (by omega) (by omega) (by unfold maxLen; omega) RdB.nil (by omega) (by omega))) rfl ?_
        rintro v1 L1 ⟨rfl, rfl⟩
        show JL _ _ _ _ ((103, .bool (repR (((vQ z0 8 1).toNat:Int)) (((vQ z0 9 1).toNat:Int)) th jl (blankB (0:UInt64) (0:UInt64) (0:Int) ([] : List UInt64) ([] : List SealR) (0:UInt64) (zr8 16)) (decide (mayN (0:UInt64) (0:UInt64) (0:Int) ([] : List UInt64) ([] : List SealR) (0:UInt64) = 0)) hnA 0)) :: _) [_, _, _, _, _, _]
        refine AM 3 101 false _ (.bool (!(repR (((vQ z0 8 1).toNat:Int)) (((vQ z0 9 1).toNat:Int)) th jl (blankB (0:UInt64) (0:UInt64) (0:Int) ([] : List UInt64) ([] : List SealR) (0:UInt64) (zr8 16)) (decide (mayN (0:UInt64) (0:UInt64) (0:Int) ([] : List UInt64) ([] : List SealR) (0:UInt64) = 0)) hnA 0))) rfl rfl (bnotT hb67) (D1 rfl) rfl (AA _ (A5 _ rfl (bnotT hb67) rfl) rfl ?_)
        refine AJ (AD (CC (!(repR (((vQ z0 8 1).toNat:Int)) (((vQ z0 9 1).toNat:Int)) th jl (blankB (0:UInt64) (0:UInt64) (0:Int) ([] : List UInt64) ([] : List SealR) (0:UInt64) (zr8 16)) (decide (mayN (0:UInt64) (0:UInt64) (0:Int) ([] : List UInt64) ([] : List SealR) (0:UInt64) = 0)) hnA 0)) rfl (fun hb68 => ?_) (fun hb68 => ?_)))
        ·
         have hb69 : (repR (((vQ z0 8 1).toNat:Int)) (((vQ z0 9 1).toNat:Int)) th jl (blankB (0:UInt64) (0:UInt64) (0:Int) ([] : List UInt64) ([] : List SealR) (0:UInt64) (zr8 16)) (decide (mayN (0:UInt64) (0:UInt64) (0:Int) ([] : List UInt64) ([] : List SealR) (0:UInt64) = 0)) hnA 0) = false := by simpa using hb68
         refine AF (AC (AA (.agg (V7).toArray) (CY [] _ rfl (fun _ => by kernel_rfl)) rfl ?_))
         refine AA (.iface 50 (I64 2)) (DH BN rfl rfl) rfl ?_
         refine A7 (BS 0 nb1 29 _ 67 (V7) rfl rfl rfl BQ (by simp [(AO 16)]) (B0 (B0 (by simp [Value.oneCell']) CZ) (by simp [Value.oneCell'])) (by simp [(AO 16)]) (BW (by simp [(AO 16), (AO 16)]))) rfl ?_
         show JL _ _ _ _ _ [_, _, _, _, _, _]
         refine AA _ (AE rfl) rfl ?_
         refine AJ (AD (BK (A6 (BJ (.tuple #[.agg (V7).toArray, .iface 50 (I64 2)]) (res2 ES (DQ rfl (BR B8 BQ (by simp [(AO 16)]) (AR 0 rfl (AN _)))) (BF rfl)) fun w1 hw1 => ?_))))
         have he : qhB = z0.length := (GA hrqB).1 (by have h9 := of_decide_eq_true hb67; omega)
         have hA := hnhA (by omega)
         have hB := hnhB (by omega)
         exact ⟨_, [], rfl, .inr ⟨BadRp.of ⟨hqhB.symm.trans he, rfl, rfl, rfl, hja (by omega), hth, htk, hA.1.1, hA.1.2, hB.1.1, hB.1.2⟩ hb69, rfl, rfl⟩, hw1.no⟩
        ·
         have hb70 : (repR (((vQ z0 8 1).toNat:Int)) (((vQ z0 9 1).toNat:Int)) th jl (blankB (0:UInt64) (0:UInt64) (0:Int) ([] : List UInt64) ([] : List SealR) (0:UInt64) (zr8 16)) (decide (mayN (0:UInt64) (0:UInt64) (0:Int) ([] : List UInt64) ([] : List SealR) (0:UInt64) = 0)) hnA 0) = true := by simpa using hb68
         refine BH (AD (AF (AC (AA _ (AL rfl (BR B8 BQ (by simp [(AO 16)]) (AR 3 rfl (AN _)))) rfl ?_))))
         refine A7 (BS 0 nb1 29 _ 67 (V0 (vQ z0 0 8) (((vQ z0 8 1).toNat:Int)) (((vQ z0 9 1).toNat:Int)) ja jn jc th 0 0 0 none 0 0 none 0 0 0 (zr8 16) haA hnA hkA none 0 0) rfl rfl rfl BQ (by simp [(AO 16)]) (B0 (B0 (by simp [Value.oneCell']) CZ) (by simp [Value.oneCell'])) (by simp [(AO 16)]) (BW (by simp [(AO 16), (AO 16)]))) rfl ?_
         show JL _ _ _ _ _ [_, _, _, _, _, _]
         refine AA _ (AE rfl) rfl ?_
         refine AJ (AD (BK (BJ (.tuple #[.agg (V0 (vQ z0 0 8) (((vQ z0 8 1).toNat:Int)) (((vQ z0 9 1).toNat:Int)) ja jn jc th 0 0 0 none 0 0 none 0 0 0 (zr8 16) haA hnA hkA none 0 0).toArray, .nilIface]) (res2 ES (DQ rfl (BR B8 BQ (by simp [(AO 16)]) (AR 0 rfl (AN _)))) (BF rfl)) fun w1 hw1 => ?_)))
         have he : qhB = z0.length := (GA hrqB).1 (by have h9 := of_decide_eq_true hb67; omega)
         have hA := hnhA (by omega)
         have hB := hnhB (by omega)
         exact ⟨_, _, rfl, .inl ⟨_, _, _, jn, _, _, _, _, _, 0, _, 0, _, _, _, hnA, _, 0, _, _, _, _, ja, jc, _, _, _, none, 0, _, _, _, none, 0, _, _, _, haA, hkA, _, _, _, none, 0, ⟨⟨hqhB.symm.trans he, rfl, rfl, rfl, hja (by omega), hth, htk, hA.1.1, hA.1.2, hB.1.1, hB.1.2⟩, hb70⟩, hjl, rfl, rfl, (AO 16), by omega, (by omega), (by omega), hxlA, rfl, rfl, rfl, hjg, by first | omega | (unfold maxLen; omega), by first | omega | (unfold maxLen; omega), .inl rfl, by first | omega | (unfold maxLen; omega), by first | omega | (unfold maxLen; omega), .inl rfl, by first | omega | (unfold maxLen; omega), by first | omega | (unfold maxLen; omega), hghA, by first | omega | (unfold maxLen; omega), by first | omega | (unfold maxLen; omega), .inl rfl, by first | omega | (unfold maxLen; omega), by first | omega | (unfold maxLen; omega)⟩, Hp.pick hw1 [4, 3, 2, 5, 0] ⟨rfl, rfl, rfl, rfl, rfl, trivial⟩ (by decide)⟩
       ·
        have hp67 : ¬ (endN (eQ z0 qhB) zrB.length = 0) := of_decide_eq_false hb67
        refine A9 3 3 101 false _ rfl rfl (bnotF hb67) rfl (AA _ (BA _ rfl (bnotF hb67) rfl) rfl ?_)
        refine AJ (AD (CH _ rfl rfl ?_))
        refine AF (AC (AA (.agg (V7).toArray) (CY [] _ rfl (fun _ => by kernel_rfl)) rfl ?_))
        refine AA (.iface 50 (I64 2)) (DH BN rfl rfl) rfl ?_
        refine A7 (BS 0 nb1 29 _ 67 (V7) rfl rfl rfl BQ (by simp [(AO 16)]) (B0 (B0 (by simp [Value.oneCell']) CZ) (by simp [Value.oneCell'])) (by simp [(AO 16)]) (BW (by simp [(AO 16), (AO 16)]))) rfl ?_
        show JL _ _ _ _ _ [_, _, _, _, _, _]
        refine AA _ (AE rfl) rfl ?_
        refine AJ (AD (BK (A6 (BJ (.tuple #[.agg (V7).toArray, .iface 50 (I64 2)]) (res2 ES (DQ rfl (BR B8 BQ (by simp [(AO 16)]) (AR 0 rfl (AN _)))) (BF rfl)) fun w1 hw1 => ?_))))
        exact ⟨_, [], rfl, .inr ⟨BadRp.far (fun e => (of_decide_eq_false hb67) ((GA hrqB).2 (hqhB.trans e))), rfl, rfl⟩, hw1.no⟩
theorem fromQN_w (w : World) : Calls Tryd.prog 59 #[SL none 0 0] w (Post w [] (fun v L => ∃ rb, v = Ptr rb 0 ∧ L = [(Ez rb [errV 50 (eQ [] 0), SL none 0 0] 204)])) := by
 rw [show errV 50 (eQ [] 0) = .nilIface from by rw [eQ_ok (Nat.zero_le _)]; rfl]
 exact fromNil_c w
theorem parqN_c  (w : World) : Calls Tryd.prog 53 #[SL none 0 0] w (Post w [] (fun v L => BadRq [] ∧ v = .tuple #[.agg (V6).toArray, .iface 50 (I64 2)] ∧ L = [])) := by
 have hmx : maxLen = 9223372036854775807 := rfl
 have hk8 := vQ_lt1 [] 8
 have hk9 := vQ_lt1 [] 9
 have hn0 : ([] : List UInt8).length = 0 := rfl
 refine enter w [] 67 [] [SL none 0 0] Tryd.func53 rfl rfl (by simp) (BZ (by simp) (by simp) (by simp)) ?_
 show JC _ _ _ [(0, SL none 0 0)] _
 refine AF (AC (A2 (C4 _ (V6) Tryd.zeroValue31 (by kernel_rfl)) rfl ?_))
 rintro v1 L1 ⟨nb1, hnb1, rfl, rfl⟩
 show JL _ _ _ _ (_ :: _) [_]
 refine AA _ (AE rfl) rfl ?_
 refine AJ (AD (AF (AC (AA _ (AG rfl) rfl ?_))))
 refine A2 (C6 59 _ _ (AV _ Tryd.call59 rfl) (fun w1 hw1 => fromQN_w w1)) rfl ?_
 rintro v1 L1 ⟨_, ⟨nb2, rfl, rfl⟩, rfl⟩
 show JL _ _ _ _ ((8, Ptr nb2 0) :: _) [_, (Ez nb2 [errV 50 (eQ [] 0), SL none 0 0] 204)]
 refine AA _ (AE rfl) rfl ?_
 refine AJ (AD (AF (AC (AA _ (AG rfl) rfl ?_))))
 refine A2 (BD 109 _ [false, true] [nb2] _ (AV _ C7 rfl) rfl (fun w1 hw1 => FD nb2 0 8 none 0 0 [] ([] : List UInt8) w1 (hw1.en 1 rfl) rfl (by omega) (by omega) (by omega) ((fun _ _ h => h) _ _ RdB.nil) (Lq.zero []) (by unfold Szd; omega))) rfl ?_
 rintro v1 L1 ⟨_, ⟨rfl, ao1, zz1, ca1, hq1, ⟨hA1, hb1, hb2, hb3⟩, rfl⟩, rfl⟩
 show JL _ _ _ _ ((10, U64 (vQ [] 0 8)) :: _) [_, (Ez nb2 [errV 50 (eQ [] 8), SL ao1 zz1.length ca1] 204)]
 refine AA _ (AG rfl) rfl ?_
 refine A2 (BD 109 _ [false, true] [nb2] _ (AV _ C7 rfl) rfl (fun w1 hw1 => FD nb2 8 1 ao1 zz1.length ca1 [] zz1 w1 (hw1.en 1 rfl) rfl (by omega) (by omega) (by omega) (hA1 _ _ RdB.nil) hq1 (by unfold Szd; omega))) rfl ?_
 rintro v1 L1 ⟨_, ⟨rfl, ao2, zz2, ca2, hq2, ⟨hA2, hb4, hb5, hb6⟩, rfl⟩, rfl⟩
 show JL _ _ _ _ ((12, U64 (vQ [] 8 1)) :: _) [_, (Ez nb2 [errV 50 (eQ [] 9), SL ao2 zz2.length ca2] 204)]
 refine AA (I64 (((vQ [] 8 1).toNat:Int))) (CV _ _ rfl fun _ => E5 (by rw [AU]; rfl) A4 (vQ [] 8 1) _ rfl (by omega)) rfl ?_
 refine AA (.agg (V1 (vQ [] 0 8) (((vQ [] 8 1).toNat:Int)) none 0 0 0 0 0 0 0 none 0 0 none 0 0 0 (zr8 16) 0).toArray) (CY [(0, U64 (vQ [] 0 8)), (1, I64 (((vQ [] 8 1).toNat:Int)))] _ rfl (fun _ => bld31_01 rfl rfl)) rfl ?_
 refine A2 (C4 _ (V6) Tryd.zeroValue31 (by kernel_rfl)) rfl ?_
 rintro v1 L1 ⟨nb3, hnb3, rfl, rfl⟩
 show JL _ _ _ _ (_ :: _) [_, _, _]
 refine A7 (BS 2 nb3 28 _ 31 (V1 (vQ [] 0 8) (((vQ [] 8 1).toNat:Int)) none 0 0 0 0 0 0 0 none 0 0 none 0 0 0 (zr8 16) 0) rfl rfl rfl BX (by simp [(AO 16)]) (B0 (B0 (by simp [Value.oneCell']) CZ) (by simp [Value.oneCell'])) (by simp [(AO 16)]) (BW (by simp [(AO 16), (AO 16)]))) rfl ?_
 show JL _ _ _ _ _ [_, _, _]
 refine AJ (AD (AF (AF (AC (AA (Ptr nb3 1) (AB 1 3 1 AS rfl AW rfl rfl) rfl ?_)))))
 refine AA _ (AL rfl (AX A0 (AR 2 rfl (AI (AI (AH (Seg.head))))))) rfl ?_
 refine AA (.bool (decide ((((vQ [] 8 1).toNat:Int)) = (3:Int)))) (AT rfl rfl fun _ => BP _ _) rfl ?_
 refine AJ (AD (BT _ rfl (by decide +kernel) ?_))
 refine AC (AA _ (AG rfl) rfl ?_)
 refine A2 (BD 109 _ [false, true, false] [nb2] _ (AV _ C7 rfl) rfl (fun w1 hw1 => FD nb2 9 8 ao2 zz2.length ca2 [] zz2 w1 (hw1.en 1 rfl) rfl (by omega) (by omega) (by omega) ((fun w M h => hA2 w M (hA1 w M h)) _ _ RdB.nil) hq2 (by unfold Szd; omega))) rfl ?_
 rintro v1 L1 ⟨_, ⟨rfl, ao3, zz3, ca3, hq3, ⟨hA3, hb7, hb8, hb9⟩, rfl⟩, rfl⟩
 show JL _ _ _ _ ((22, U64 (vQ [] 9 8)) :: _) [_, _, (Ez nb2 [errV 50 (eQ [] 17), SL ao3 zz3.length ca3] 204)]
 refine AA (Ptr nb3 27) (AB 27 22 1 AS rfl A1 rfl rfl) rfl ?_
 refine A7 (C0 1 nb3 27 1 _ 31 (U64 (vQ [] 9 8)) ([U64 (vQ [] 9 8)]) (V1 (vQ [] 0 8) (((vQ [] 8 1).toNat:Int)) none 0 0 0 0 0 0 0 none 0 0 none 0 0 0 (zr8 16) (vQ [] 9 8)) rfl rfl rfl rfl A1 rfl (by simp [Value.oneCell']) (by simp [(AO 16)]) (E6 27 0 (by simp [(AO 16)]) rfl (BW (by simp [])))) rfl ?_
 show JL _ _ _ _ _ [_, _, _]
 refine AJ (AD (AF (AF (AC (AA (Ptr nb3 1) (AB 1 3 1 AS rfl AW rfl rfl) rfl ?_)))))
 refine AA _ (AL rfl (AX A0 (AR 1 rfl (AI (AI (AH (Seg.head))))))) rfl ?_
 refine AJ (AD (B5 (AF (AC (AA (.bool (decide ((((vQ [] 8 1).toNat:Int)) = (1:Int)))) (AT rfl rfl fun _ => BP _ _) rfl ?_)))))
 refine AA _ (AE rfl) rfl ?_
 refine AJ (AD (BT _ rfl (by decide +kernel) ?_))
 refine AF (AC (AA (.bool (decide ((((vQ [] 8 1).toNat:Int)) = (2:Int)))) (AT rfl rfl fun _ => BP _ _) rfl ?_))
 refine AA _ (AE rfl) rfl ?_
 refine AJ (AD (BT _ rfl (by decide +kernel) ?_))
 refine BH (BU (AD (AF (AF (AC (AA _ (AG rfl) rfl ?_))))))
 refine A7 (A3 63 _ (errV 50 (endN (eQ [] 17) zz3.length)) (AV _ EE rfl) (fun w1 hw1 => end_w nb2 (eQ [] 17) ao3 zz3.length ca3 w1 (RdA.of hw1 (AR 2 rfl (AN _)) (by simp)))) rfl ?_
 show JL _ _ _ _ ((57, errV 50 (endN (eQ [] 17) zz3.length)) :: _) [_, _, _]
 refine AA (.bool (!(decide (endN (eQ [] 17) zz3.length = 0)))) (DM _ _ _ rfl rfl (fun _ => CE ..) fun _ => DW BG _ _) rfl ?_
 refine AA _ (AG rfl) rfl ?_
 refine A9 3 3 59 false _ rfl rfl (bnotF (decide_eq_false (by rw [FF (by decide), endN, if_neg (by decide)]; decide))) rfl (AA _ (BA _ rfl (bnotF (decide_eq_false (by rw [FF (by decide), endN, if_neg (by decide)]; decide))) rfl) rfl ?_)
 refine AJ (AD (CH _ rfl rfl ?_))
 refine AF (AC (AA (.agg (V6).toArray) (CY [] _ rfl (fun _ => by kernel_rfl)) rfl ?_))
 refine AA (.iface 50 (I64 2)) (DH BN rfl rfl) rfl ?_
 refine A7 (BS 0 nb1 28 _ 31 (V6) rfl rfl rfl BX (by simp [(AO 16)]) (B0 (B0 (by simp [Value.oneCell']) CZ) (by simp [Value.oneCell'])) (by simp [(AO 16)]) (BW (by simp [(AO 16), (AO 16)]))) rfl ?_
 show JL _ _ _ _ _ [_, _, _]
 refine AA _ (AE rfl) rfl ?_
 refine AJ (AD (BK (A6 (BJ (.tuple #[.agg (V6).toArray, .iface 50 (I64 2)]) (res2 EG (DQ rfl (BR CW BX (by simp [(AO 16)]) (AR 0 rfl (AN _)))) (BF rfl)) fun w1 hw1 => ?_))))
 exact ⟨_, [], rfl, ⟨BadRq.nil, rfl, rfl⟩, hw1.no⟩
theorem parpN_c  (w : World) : Calls Tryd.prog 55 #[SL none 0 0] w (Post w [] (fun v L => BadRp [] ∧ v = .tuple #[.agg (V7).toArray, .iface 50 (I64 2)] ∧ L = [])) := by
 have hmx : maxLen = 9223372036854775807 := rfl
 have hk8 := vQ_lt1 [] 8
 have hk9 := vQ_lt1 [] 9
 have hn0 : ([] : List UInt8).length = 0 := rfl
 refine enter w [] 109 [] [SL none 0 0] Tryd.func55 rfl rfl (by simp) (BZ (by simp) (by simp) (by simp)) ?_
 show JC _ _ _ [(0, SL none 0 0)] _
 refine AF (AC (A2 (C4 _ (V7) Tryd.zeroValue67 (by kernel_rfl)) rfl ?_))
 rintro v1 L1 ⟨nb1, hnb1, rfl, rfl⟩
 show JL _ _ _ _ (_ :: _) [_]
 refine AA _ (AE rfl) rfl ?_
 refine AJ (AD (AF (AC (AA _ (AG rfl) rfl ?_))))
 refine A2 (C6 59 _ _ (AV _ Tryd.call59 rfl) (fun w1 hw1 => fromQN_w w1)) rfl ?_
 rintro v1 L1 ⟨_, ⟨nb2, rfl, rfl⟩, rfl⟩
 show JL _ _ _ _ ((17, Ptr nb2 0) :: _) [_, (Ez nb2 [errV 50 (eQ [] 0), SL none 0 0] 204)]
 refine AA _ (AE rfl) rfl ?_
 refine AJ (AD (AF (AC (AA _ (AG rfl) rfl ?_))))
 refine A2 (BD 109 _ [false, true] [nb2] _ (AV _ C7 rfl) rfl (fun w1 hw1 => FD nb2 0 8 none 0 0 [] ([] : List UInt8) w1 (hw1.en 1 rfl) rfl (by omega) (by omega) (by omega) ((fun _ _ h => h) _ _ RdB.nil) (Lq.zero []) (by unfold Szd; omega))) rfl ?_
 rintro v1 L1 ⟨_, ⟨rfl, ao1, zz1, ca1, hq1, ⟨hA1, hb1, hb2, hb3⟩, rfl⟩, rfl⟩
 show JL _ _ _ _ ((19, U64 (vQ [] 0 8)) :: _) [_, (Ez nb2 [errV 50 (eQ [] 8), SL ao1 zz1.length ca1] 204)]
 refine AA _ (AG rfl) rfl ?_
 refine A2 (BD 109 _ [false, true] [nb2] _ (AV _ C7 rfl) rfl (fun w1 hw1 => FD nb2 8 1 ao1 zz1.length ca1 [] zz1 w1 (hw1.en 1 rfl) rfl (by omega) (by omega) (by omega) (hA1 _ _ RdB.nil) hq1 (by unfold Szd; omega))) rfl ?_
 rintro v1 L1 ⟨_, ⟨rfl, ao2, zz2, ca2, hq2, ⟨hA2, hb4, hb5, hb6⟩, rfl⟩, rfl⟩
 show JL _ _ _ _ ((21, U64 (vQ [] 8 1)) :: _) [_, (Ez nb2 [errV 50 (eQ [] 9), SL ao2 zz2.length ca2] 204)]
 refine AA (I64 (((vQ [] 8 1).toNat:Int))) (CV _ _ rfl fun _ => E5 (by rw [AU]; rfl) A4 (vQ [] 8 1) _ rfl (by omega)) rfl ?_
 refine AA _ (AG rfl) rfl ?_
 refine A2 (BD 109 _ [false, true] [nb2] _ (AV _ C7 rfl) rfl (fun w1 hw1 => FD nb2 9 1 ao2 zz2.length ca2 [] zz2 w1 (hw1.en 1 rfl) rfl (by omega) (by omega) (by omega) ((fun w M h => hA2 w M (hA1 w M h)) _ _ RdB.nil) hq2 (by unfold Szd; omega))) rfl ?_
 rintro v1 L1 ⟨_, ⟨rfl, ao3, zz3, ca3, hq3, ⟨hA3, hb7, hb8, hb9⟩, rfl⟩, rfl⟩
 show JL _ _ _ _ ((24, U64 (vQ [] 9 1)) :: _) [_, (Ez nb2 [errV 50 (eQ [] 10), SL ao3 zz3.length ca3] 204)]
 refine AA (I64 (((vQ [] 9 1).toNat:Int))) (CV _ _ rfl fun _ => E5 (by rw [AU]; rfl) A4 (vQ [] 9 1) _ rfl (by omega)) rfl ?_
 refine AA (.agg (V0 (vQ [] 0 8) (((vQ [] 8 1).toNat:Int)) (((vQ [] 9 1).toNat:Int)) none 0 0 false 0 0 0 none 0 0 none 0 0 0 (zr8 16) none 0 0 none 0 0).toArray) (CY [(0, U64 (vQ [] 0 8)), (1, I64 (((vQ [] 8 1).toNat:Int))), (2, I64 (((vQ [] 9 1).toNat:Int)))] _ rfl (fun _ => (bld67_012 rfl rfl rfl ).trans (by first | rfl | simp only [List.append_assoc, List.cons_append, List.nil_append]))) rfl ?_
 refine A2 (C4 _ (V7) Tryd.zeroValue67 (by kernel_rfl)) rfl ?_
 rintro v1 L1 ⟨nb3, hnb3, rfl, rfl⟩
 show JL _ _ _ _ (_ :: _) [_, _, _]
 refine A7 (BS 2 nb3 29 _ 67 (V0 (vQ [] 0 8) (((vQ [] 8 1).toNat:Int)) (((vQ [] 9 1).toNat:Int)) none 0 0 false 0 0 0 none 0 0 none 0 0 0 (zr8 16) none 0 0 none 0 0) rfl rfl rfl BQ (by simp [(AO 16)]) (B0 (B0 (by simp [Value.oneCell']) CZ) (by simp [Value.oneCell'])) (by simp [(AO 16)]) (BW (by simp [(AO 16), (AO 16)]))) rfl ?_
 show JL _ _ _ _ _ [_, _, _]
 refine AJ (AD (AF (AC (AA _ (AL rfl (BR B8 BQ (by simp [(AO 16)]) (AR 2 rfl (AN _)))) rfl ?_))))
 refine A7 (A3 95 _ (.tuple #[.bool (itB (((vQ [] 9 1).toNat:Int)) (((vQ [] 8 1).toNat:Int))), .bool (chB (((vQ [] 9 1).toNat:Int)) (((vQ [] 8 1).toNat:Int)) false), .bool (aB (((vQ [] 9 1).toNat:Int)) (((vQ [] 8 1).toNat:Int)) false), .bool (bB (((vQ [] 9 1).toNat:Int)) (((vQ [] 8 1).toNat:Int)) false)]) (AV _ Tryd.call95 rfl) (fun w1 hw1 => parts_c (vQ [] 0 8) (((vQ [] 8 1).toNat:Int)) (((vQ [] 9 1).toNat:Int)) none 0 0 ([] : List ItemR) false (0:UInt64) (0:UInt64) (0:Int) none 0 0 ([] : List UInt64) none 0 0 ([] : List SealR) (0:UInt64) (zr8 16) none 0 0 ([]) none 0 0 ([]) w1 (AO 16))) rfl ?_
 show JL _ _ _ _ ((29, .tuple #[.bool (itB (((vQ [] 9 1).toNat:Int)) (((vQ [] 8 1).toNat:Int))), .bool (chB (((vQ [] 9 1).toNat:Int)) (((vQ [] 8 1).toNat:Int)) false), .bool (aB (((vQ [] 9 1).toNat:Int)) (((vQ [] 8 1).toNat:Int)) false), .bool (bB (((vQ [] 9 1).toNat:Int)) (((vQ [] 8 1).toNat:Int)) false)]) :: _) [_, _, _]
 refine AA _ (AG rfl) rfl (AA _ (BI rfl rfl) rfl (AA _ (BI rfl rfl) rfl (AA _ (BI rfl rfl) rfl (AA _ (BI rfl rfl) rfl (AA _ (AE rfl) rfl (AA _ (AE rfl) rfl (AA _ (AE rfl) rfl (AA _ (AE rfl) rfl ?_))))))))
 refine AJ (AD (AF (AF (AC (AA _ (AG rfl) rfl ?_)))))
 refine AJ (AD (BT _ rfl (by decide +kernel) ?_))
 refine BH (AD (AF (AF (AC (AA (Ptr nb3 2) (AB 2 3 1 AK rfl AW rfl rfl) rfl ?_)))))
 refine AA _ (AL rfl (AX A0 (AR 2 rfl (AI (AI (AH (AH (Seg.head)))))))) rfl ?_
 refine AA (.bool (decide ((((vQ [] 9 1).toNat:Int)) = (0:Int)))) (AT rfl rfl fun _ => BP _ _) rfl ?_
 refine AA _ (AG rfl) rfl ?_
 refine AM 3 71 true _ (Ptr nb3 1) rfl rfl (by decide +kernel) (AB 1 3 1 AK rfl AW rfl rfl) rfl ?_
 refine AM 3 71 true _ _ rfl rfl (by decide +kernel) (AL rfl (AX A0 (AR 2 rfl (AI (AI (AH (Seg.head))))))) rfl ?_
 refine AM 3 71 true _ (.bool (decide ((((vQ [] 8 1).toNat:Int)) = (4:Int)))) rfl rfl (by decide +kernel) (AT rfl rfl fun _ => BP _ _) rfl ?_
 refine AA _ (BA _ rfl (by decide +kernel) rfl) rfl ?_
 refine AJ (AD (BT _ rfl (by decide +kernel) ?_))
 refine BH (AD (AF (AC (AA _ (AL rfl (BR B8 BQ (by simp [(AO 16)]) (AR 2 rfl (AN _)))) rfl ?_))))
 refine A7 (A3 95 _ (.tuple #[.bool (itB (((vQ [] 9 1).toNat:Int)) (((vQ [] 8 1).toNat:Int))), .bool (chB (((vQ [] 9 1).toNat:Int)) (((vQ [] 8 1).toNat:Int)) false), .bool (aB (((vQ [] 9 1).toNat:Int)) (((vQ [] 8 1).toNat:Int)) false), .bool (bB (((vQ [] 9 1).toNat:Int)) (((vQ [] 8 1).toNat:Int)) false)]) (AV _ Tryd.call95 rfl) (fun w1 hw1 => parts_c (vQ [] 0 8) (((vQ [] 8 1).toNat:Int)) (((vQ [] 9 1).toNat:Int)) none 0 0 ([] : List ItemR) false (0:UInt64) (0:UInt64) (0:Int) none 0 0 ([] : List UInt64) none 0 0 ([] : List SealR) (0:UInt64) (zr8 16) none 0 0 ([]) none 0 0 ([]) w1 (AO 16))) rfl ?_
 show JL _ _ _ _ ((81, .tuple #[.bool (itB (((vQ [] 9 1).toNat:Int)) (((vQ [] 8 1).toNat:Int))), .bool (chB (((vQ [] 9 1).toNat:Int)) (((vQ [] 8 1).toNat:Int)) false), .bool (aB (((vQ [] 9 1).toNat:Int)) (((vQ [] 8 1).toNat:Int)) false), .bool (bB (((vQ [] 9 1).toNat:Int)) (((vQ [] 8 1).toNat:Int)) false)]) :: _) [_, _, _]
 refine AA _ (AG rfl) rfl (AA _ (BI rfl rfl) rfl (AA _ (BI rfl rfl) rfl (AA _ (BI rfl rfl) rfl (AA _ (BI rfl rfl) rfl (AA _ (AE rfl) rfl (AA _ (AE rfl) rfl (AA _ (AE rfl) rfl (AA _ (AE rfl) rfl ?_))))))))
 refine AJ (AD (AF (AF (AC (AA _ (AG rfl) rfl ?_)))))
 refine AJ (AD (BT _ rfl (by decide +kernel) ?_))
 refine BH (AD (AF (AF (AC (AA _ (AG rfl) rfl ?_)))))
 refine AJ (AD (BT _ rfl (by decide +kernel) ?_))
 refine BH (AD (AF (AF (AC (AA _ (AG rfl) rfl ?_)))))
 refine AJ (AD (BT _ rfl (by decide +kernel) ?_))
 refine BH (AD (AF (AF (AC (AA _ (AG rfl) rfl ?_)))))
 refine A7 (A3 63 _ (errV 50 (endN (eQ [] 10) zz3.length)) (AV _ EE rfl) (fun w1 hw1 => end_w nb2 (eQ [] 10) ao3 zz3.length ca3 w1 (RdA.of hw1 (AR 1 rfl (AN _)) (by simp)))) rfl ?_
 show JL _ _ _ _ ((99, errV 50 (endN (eQ [] 10) zz3.length)) :: _) [_, _, _]
 refine AA (.bool (!(decide (endN (eQ [] 10) zz3.length = 0)))) (DM _ _ _ rfl rfl (fun _ => CE ..) fun _ => DW BG _ _) rfl ?_
 refine AA _ (AG rfl) rfl ?_
 refine A9 3 3 101 false _ rfl rfl (bnotF (decide_eq_false (by rw [FF (by decide), endN, if_neg (by decide)]; decide))) rfl (AA _ (BA _ rfl (bnotF (decide_eq_false (by rw [FF (by decide), endN, if_neg (by decide)]; decide))) rfl) rfl ?_)
 refine AJ (AD (CH _ rfl rfl ?_))
 refine AF (AC (AA (.agg (V7).toArray) (CY [] _ rfl (fun _ => by kernel_rfl)) rfl ?_))
 refine AA (.iface 50 (I64 2)) (DH BN rfl rfl) rfl ?_
 refine A7 (BS 0 nb1 29 _ 67 (V7) rfl rfl rfl BQ (by simp [(AO 16)]) (B0 (B0 (by simp [Value.oneCell']) CZ) (by simp [Value.oneCell'])) (by simp [(AO 16)]) (BW (by simp [(AO 16), (AO 16)]))) rfl ?_
 show JL _ _ _ _ _ [_, _, _]
 refine AA _ (AE rfl) rfl ?_
 refine AJ (AD (BK (A6 (BJ (.tuple #[.agg (V7).toArray, .iface 50 (I64 2)]) (res2 ES (DQ rfl (BR B8 BQ (by simp [(AO 16)]) (AR 0 rfl (AN _)))) (BF rfl)) fun w1 hw1 => ?_))))
 exact ⟨_, [], rfl, ⟨(BadRp.short (by decide)), rfl, rfl⟩, hw1.no⟩
theorem parqA_c (ax : Option Addr) (n c : Nat) (z0 : List UInt8) (w : World) (hA : ax = none → c = 0) (hz : z0.length = n) (hn : n ≤ 200000) (hc : n ≤ c) (hcm : c ≤ maxLen) (hr : RdB w [] ax z0) : Calls Tryd.prog 53 #[SL ax n c] w (Post w [] (fun v L => (∃ sq qk niq lq fs mn pv ep kd ni l ns ls bl tg eq g0 cs0 T0 a0 c0 g1 cs1 T1 a1 c1 g2 cs2 T2 a2 c2, GRq z0 sq qk lq fs mn pv ep kd l ls bl tg eq ∧ lq.length = niq ∧ l.length = ni ∧ ls.length = ns ∧ tg.length = 16 ∧ niq ≤ 256 ∧ ni ≤ 256 ∧ ns ≤ 256 ∧ v = .tuple #[.agg (V1 sq qk a0 niq c0 fs mn pv ep kd a1 ni c1 a2 ns c2 bl tg eq).toArray, .nilIface] ∧ L = [(Ez g0 cs0 T0), (Ez g1 cs1 T1), (Ez g2 cs2 T2)] ∧ Gh (cu64 lq) g0 cs0 a0 ∧ niq ≤ c0 ∧ c0 ≤ maxLen ∧ Gh (cu64 l) g1 cs1 a1 ∧ ni ≤ c1 ∧ c1 ≤ maxLen ∧ Gh (ls.flatMap sealC) g2 cs2 a2 ∧ ns ≤ c2 ∧ c2 ≤ maxLen) ∨ (BadRq z0 ∧ v = .tuple #[.agg (V6).toArray, .iface 50 (I64 2)] ∧ L = []))) := by
  by_cases ha : ax = none
  · subst ha
    obtain rfl : c = 0 := hA rfl
    obtain rfl : n = 0 := by omega
    obtain rfl : z0 = [] := List.eq_nil_of_length_eq_zero hz
    refine (parqN_c w).mono ?_
    rintro E W ⟨v, L, hv, h, hw⟩
    exact ⟨v, L, hv, .inr h, hw⟩
  · exact parq_c ax n c z0 w (by cases ax with
      | none => exact absurd rfl ha
      | some x => rfl) hz (by omega) hc hcm hr
theorem parpA_c (ax : Option Addr) (n c : Nat) (z0 : List UInt8) (w : World) (hA : ax = none → c = 0) (hz : z0.length = n) (hn : n ≤ 200000) (hc : n ≤ c) (hcm : c ≤ maxLen) (hr : RdB w [] ax z0) : Calls Tryd.prog 55 #[SL ax n c] w (Post w [] (fun v L => (∃ rq rk er nj lj th pv ep kd ni l ns ls bl tg na xa nb xb g0 cs0 T0 a0 c0 g1 cs1 T1 a1 c1 g2 cs2 T2 a2 c2 g3 cs3 T3 a3 c3 g4 cs4 T4 a4 c4, GRp z0 rq rk er lj th pv ep kd l ls bl tg na xa nb xb ∧ lj.length = nj ∧ l.length = ni ∧ ls.length = ns ∧ tg.length = 16 ∧ nj ≤ 256 ∧ ni ≤ 256 ∧ ns ≤ 256 ∧ xa.length = na*32 ∧ xb.length = nb*32 ∧ v = .tuple #[.agg (V0 rq rk er a0 nj c0 th pv ep kd a1 ni c1 a2 ns c2 bl tg a3 na c3 a4 nb c4).toArray, .nilIface] ∧ L = [(Ez g0 cs0 T0), (Ez g1 cs1 T1), (Ez g2 cs2 T2), (Ez g3 cs3 T3), (Ez g4 cs4 T4)] ∧ Gh (lj.flatMap itemC) g0 cs0 a0 ∧ nj ≤ c0 ∧ c0 ≤ maxLen ∧ Gh (cu64 l) g1 cs1 a1 ∧ ni ≤ c1 ∧ c1 ≤ maxLen ∧ Gh (ls.flatMap sealC) g2 cs2 a2 ∧ ns ≤ c2 ∧ c2 ≤ maxLen ∧ Gh (cu8 xa) g3 cs3 a3 ∧ na ≤ c3 ∧ c3 ≤ maxLen ∧ Gh (cu8 xb) g4 cs4 a4 ∧ nb ≤ c4 ∧ c4 ≤ maxLen) ∨ (BadRp z0 ∧ v = .tuple #[.agg (V7).toArray, .iface 50 (I64 2)] ∧ L = []))) := by
  by_cases ha : ax = none
  · subst ha
    obtain rfl : c = 0 := hA rfl
    obtain rfl : n = 0 := by omega
    obtain rfl : z0 = [] := List.eq_nil_of_length_eq_zero hz
    refine (parpN_c w).mono ?_
    rintro E W ⟨v, L, hv, h, hw⟩
    exact ⟨v, L, hv, .inr h, hw⟩
  · exact parp_c ax n c z0 w (by cases ax with
      | none => exact absurd rfl ha
      | some x => rfl) hz (by omega) hc hcm hr
theorem parqK_c (ax : Option Addr) (n c : Nat) (z0 : List UInt8) (sq : UInt64) (qk : Int) (niq : Nat) (lq : List UInt64) (fs : UInt64) (mn : Int) (pv : UInt64) (ep : UInt64) (kd : Int) (ni : Nat) (l : List UInt64) (ns : Nat) (ls : List SealR) (bl : UInt64) (tg : List UInt8) (eq : UInt64) (w : World) (hA : ax = none → c = 0) (hz : z0.length = n) (hn : n ≤ 200000) (hc : n ≤ c) (hcm : c ≤ maxLen) (hr : RdB w [] ax z0) (hG : GRq z0 sq qk lq fs mn pv ep kd l ls bl tg eq) (h_lq : lq.length = niq) (h_l : l.length = ni) (h_ls : ls.length = ns) (h_tg : tg.length = 16) : Calls Tryd.prog 53 #[SL ax n c] w (Post w [] (fun v L => ∃ g0 cs0 T0 a0 c0 g1 cs1 T1 a1 c1 g2 cs2 T2 a2 c2, niq ≤ 256 ∧ ni ≤ 256 ∧ ns ≤ 256 ∧ v = .tuple #[.agg (V1 sq qk a0 niq c0 fs mn pv ep kd a1 ni c1 a2 ns c2 bl tg eq).toArray, .nilIface] ∧ L = [(Ez g0 cs0 T0), (Ez g1 cs1 T1), (Ez g2 cs2 T2)] ∧ Gh (cu64 lq) g0 cs0 a0 ∧ niq ≤ c0 ∧ c0 ≤ maxLen ∧ Gh (cu64 l) g1 cs1 a1 ∧ ni ≤ c1 ∧ c1 ≤ maxLen ∧ Gh (ls.flatMap sealC) g2 cs2 a2 ∧ ns ≤ c2 ∧ c2 ≤ maxLen)) := by
  refine (parqA_c ax n c z0 w hA hz hn hc hcm hr).mono ?_
  rintro E W ⟨v, L, hv, (⟨sq', qk', niq', lq', fs', mn', pv', ep', kd', ni', l', ns', ls', bl', tg', eq', g0, cs0, T0, a0, c0, g1, cs1, T1, a1, c1, g2, cs2, T2, a2, c2, hG', k0, k1, k2, k3, b0, b1, b2, r⟩ | ⟨hB, _⟩), hw⟩
  ·
    obtain ⟨rfl, rfl, rfl, rfl, rfl, rfl, rfl, rfl, rfl, rfl, rfl, rfl, rfl, _⟩ := hG.1.one hG'.1
    obtain rfl : niq = niq' := h_lq.symm.trans k0
    obtain rfl : ni = ni' := h_l.symm.trans k1
    obtain rfl : ns = ns' := h_ls.symm.trans k2
    exact ⟨v, L, hv, ⟨g0, cs0, T0, a0, c0, g1, cs1, T1, a1, c1, g2, cs2, T2, a2, c2, b0, b1, b2, r⟩, hw⟩
  · exact absurd hG (hB _ _ _ _ _ _ _ _ _ _ _ _ _)
theorem parpK_c (ax : Option Addr) (n c : Nat) (z0 : List UInt8) (rq : UInt64) (rk : Int) (er : Int) (nj : Nat) (lj : List ItemR) (th : Bool) (pv : UInt64) (ep : UInt64) (kd : Int) (ni : Nat) (l : List UInt64) (ns : Nat) (ls : List SealR) (bl : UInt64) (tg : List UInt8) (na : Nat) (xa : List UInt8) (nb : Nat) (xb : List UInt8) (w : World) (hA : ax = none → c = 0) (hz : z0.length = n) (hn : n ≤ 200000) (hc : n ≤ c) (hcm : c ≤ maxLen) (hr : RdB w [] ax z0) (hG : GRp z0 rq rk er lj th pv ep kd l ls bl tg na xa nb xb) (h_lj : lj.length = nj) (h_l : l.length = ni) (h_ls : ls.length = ns) (h_tg : tg.length = 16) (h_xa : xa.length = na*32) (h_xb : xb.length = nb*32) : Calls Tryd.prog 55 #[SL ax n c] w (Post w [] (fun v L => ∃ g0 cs0 T0 a0 c0 g1 cs1 T1 a1 c1 g2 cs2 T2 a2 c2 g3 cs3 T3 a3 c3 g4 cs4 T4 a4 c4, nj ≤ 256 ∧ ni ≤ 256 ∧ ns ≤ 256 ∧ v = .tuple #[.agg (V0 rq rk er a0 nj c0 th pv ep kd a1 ni c1 a2 ns c2 bl tg a3 na c3 a4 nb c4).toArray, .nilIface] ∧ L = [(Ez g0 cs0 T0), (Ez g1 cs1 T1), (Ez g2 cs2 T2), (Ez g3 cs3 T3), (Ez g4 cs4 T4)] ∧ Gh (lj.flatMap itemC) g0 cs0 a0 ∧ nj ≤ c0 ∧ c0 ≤ maxLen ∧ Gh (cu64 l) g1 cs1 a1 ∧ ni ≤ c1 ∧ c1 ≤ maxLen ∧ Gh (ls.flatMap sealC) g2 cs2 a2 ∧ ns ≤ c2 ∧ c2 ≤ maxLen ∧ Gh (cu8 xa) g3 cs3 a3 ∧ na ≤ c3 ∧ c3 ≤ maxLen ∧ Gh (cu8 xb) g4 cs4 a4 ∧ nb ≤ c4 ∧ c4 ≤ maxLen)) := by
  refine (parpA_c ax n c z0 w hA hz hn hc hcm hr).mono ?_
  rintro E W ⟨v, L, hv, (⟨rq', rk', er', nj', lj', th', pv', ep', kd', ni', l', ns', ls', bl', tg', na', xa', nb', xb', g0, cs0, T0, a0, c0, g1, cs1, T1, a1, c1, g2, cs2, T2, a2, c2, g3, cs3, T3, a3, c3, g4, cs4, T4, a4, c4, hG', k0, k1, k2, k3, b0, b1, b2, k4, k5, r⟩ | ⟨hB, _⟩), hw⟩
  ·
    obtain ⟨rfl, rfl, rfl, rfl, rfl, rfl, rfl, rfl, rfl, rfl, rfl, rfl, rfl, rfl, rfl, rfl⟩ := hG.one hG'
    obtain rfl : nj = nj' := h_lj.symm.trans k0
    obtain rfl : ni = ni' := h_l.symm.trans k1
    obtain rfl : ns = ns' := h_ls.symm.trans k2
    exact ⟨v, L, hv, ⟨g0, cs0, T0, a0, c0, g1, cs1, T1, a1, c1, g2, cs2, T2, a2, c2, g3, cs3, T3, a3, c3, g4, cs4, T4, a4, c4, b0, b1, b2, r⟩, hw⟩
  · exact absurd hG (hB _ _ _ _ _ _ _ _ _ _ _ _ _ _ _ _)
attribute [local irreducible] GRq GRp
set_option maxHeartbeats 4000000 in
theorem wback_c (sq : UInt64) (qk : Int) (aiq : Option Addr) (niq ciq : Nat) (lq : List UInt64) (fs : UInt64) (mn : Int) (pv ep : UInt64) (kd : Int) (ai : Option Addr) (ni ci : Nat) (l : List UInt64) (sa : Option Addr) (ns sc : Nat) (ls : List SealR) (bl : UInt64) (tg : List UInt8) (eq : UInt64) (rq2 : UInt64) (rk2 er2 : Int) (aj2 : Option Addr) (nj2 cj2 : Nat) (lj2 : List ItemR) (th2 : Bool) (pv2 ep2 : UInt64) (kd2 : Int) (ai2 : Option Addr) (ni2 ci2 : Nat) (l2 : List UInt64) (sa2 : Option Addr) (ns2 sc2 : Nat) (ls2 : List SealR) (bl2 : UInt64) (tg2 : List UInt8) (aha2 : Option Addr) (nha2 cha2 : Nat) (xha2 : List UInt8) (ahb2 : Option Addr) (nhb2 chb2 : Nat) (xhb2 : List UInt8)  (w : World) (hlq : lq.length = niq) (hnmq : niq ≤ 2000000) (hncq : niq ≤ ciq) (hcmq : ciq ≤ maxLen) (hvq : RdV w aiq (cu64 lq)) (hl : l.length = ni) (hnm : ni ≤ 2000000) (hnc : ni ≤ ci) (hcm : ci ≤ maxLen) (hv : RdV w ai (cu64 l)) (hls : ls.length = ns) (hnn : ns ≤ 2000000) (hnd : ns ≤ sc) (hcn : sc ≤ maxLen) (hs : RdV w sa (ls.flatMap sealC)) (htg : tg.length = 16) (hlj2 : lj2.length = nj2) (hnj2 : nj2 ≤ 2000000) (hdj2 : nj2 ≤ cj2) (hcj2 : cj2 ≤ maxLen) (hj2 : RdV w aj2 (lj2.flatMap itemC)) (hl2 : l2.length = ni2) (hnm2 : ni2 ≤ 2000000) (hnc2 : ni2 ≤ ci2) (hcm2 : ci2 ≤ maxLen) (hv2 : RdV w ai2 (cu64 l2)) (hls2 : ls2.length = ns2) (hnn2 : ns2 ≤ 2000000) (hnd2 : ns2 ≤ sc2) (hcn2 : sc2 ≤ maxLen) (hs2 : RdV w sa2 (ls2.flatMap sealC)) (htg2 : tg2.length = 16) (hlha2 : xha2.length = nha2 * 32) (hnha2 : nha2 ≤ 9000) (hdha2 : nha2 ≤ cha2) (hcha2 : cha2 ≤ maxLen) (hrha2 : RdB w [] aha2 xha2) (hlhb2 : xhb2.length = nhb2 * 32) (hnhb2 : nhb2 ≤ 9000) (hdhb2 : nhb2 ≤ chb2) (hchb2 : chb2 ≤ maxLen) (hrhb2 : RdB w [] ahb2 xhb2) (hbq : niq ≤ 300) (hlg : ¬ LargeP ni ns) (hlp : ¬ LargeQ nj2 nha2 nhb2 ni2 ns2) (hbi : ni ≤ 300) (hbs : ns ≤ 300) (hbj2 : nj2 ≤ 300) (hba2 : nha2 ≤ 300) (hbb2 : nhb2 ≤ 8192 → nhb2 ≤ 300) (hbi2 : ni2 ≤ 300) (hbs2 : ns2 ≤ 300) (hW : GLw w)  : Calls Tryd.prog 15 #[.agg (V1 sq (qk) aiq niq ciq fs (mn) pv ep (kd) ai ni ci sa ns sc bl tg eq).toArray, .agg (V0 rq2 (rk2) (er2) aj2 nj2 cj2 th2 pv2 ep2 (kd2) ai2 ni2 ci2 sa2 ns2 sc2 bl2 tg2 aha2 nha2 cha2 ahb2 nhb2 chb2).toArray] w (Post w [] (fun v L => v = .bool true ∧ L = [])) := by
 have hmx : maxLen = 9223372036854775807 := rfl
 refine enter (P := Tryd.prog) (f := 15) (fn := Tryd.f15) w [] 72 [] [.agg (V1 sq (qk) aiq niq ciq fs (mn) pv ep (kd) ai ni ci sa ns sc bl tg eq).toArray, .agg (V0 rq2 (rk2) (er2) aj2 nj2 cj2 th2 pv2 ep2 (kd2) ai2 ni2 ci2 sa2 ns2 sc2 bl2 tg2 aha2 nha2 cha2 ahb2 nhb2 chb2).toArray] Tryd.func15 rfl rfl (by simp) (BZ (by simp) (by simp) (by simp)) ?_
 show JC _ _ _ [(0, .agg (V1 sq (qk) aiq niq ciq fs (mn) pv ep (kd) ai ni ci sa ns sc bl tg eq).toArray), (1, .agg (V0 rq2 (rk2) (er2) aj2 nj2 cj2 th2 pv2 ep2 (kd2) ai2 ni2 ci2 sa2 ns2 sc2 bl2 tg2 aha2 nha2 cha2 ahb2 nhb2 chb2).toArray)] _
 refine AF (AC (A2 (CN (.agg (V1 sq (qk) aiq niq ciq fs (mn) pv ep (kd) ai ni ci sa ns sc bl tg eq).toArray) (V1 sq (qk) aiq niq ciq fs (mn) pv ep (kd) ai ni ci sa ns sc bl tg eq) rfl (by first | rfl | simp)) rfl ?_))
 rintro v1 L1 ⟨nb1, hnb1, rfl, rfl⟩
 show JL _ _ _ _ (_ :: _) [_]
 refine A2 (CN (.agg (V0 rq2 (rk2) (er2) aj2 nj2 cj2 th2 pv2 ep2 (kd2) ai2 ni2 ci2 sa2 ns2 sc2 bl2 tg2 aha2 nha2 cha2 ahb2 nhb2 chb2).toArray) (V0 rq2 (rk2) (er2) aj2 nj2 cj2 th2 pv2 ep2 (kd2) ai2 ni2 ci2 sa2 ns2 sc2 bl2 tg2 aha2 nha2 cha2 ahb2 nhb2 chb2) rfl (by first | rfl | simp)) rfl ?_
 rintro v1 L1 ⟨nb2, hnb2, rfl, rfl⟩
 show JL _ _ _ _ (_ :: _) [_, _]
 refine AA _ (AE rfl) rfl ?_
 refine AJ (AD (AF (AF (AC (A2 (A3 17 _ (.bool true) (AV _ Tryd.call17 rfl) (fun w1 hw1 => alive14_c  w1 (GLw.at hw1 hW))) rfl ?_)))))
 rintro v1 L1 ⟨rfl, rfl⟩
 show JL _ _ _ _ ((12, .bool true) :: _) [_, _]
 refine AA (.bool (!true)) (D1 rfl) rfl ?_
 refine AJ (AD (BT _ rfl rfl ?_))
 refine BH (AD (AF (AF (AC (AA (Ptr nb1 2) (AB 2 23 1 AS rfl BV rfl rfl) rfl ?_)))))
 refine AA _ (AL rfl (AX B4 (AR 0 rfl (AI (AI (AH (AH (Seg.head)))))))) rfl ?_
 refine AA (I64 niq) (DA BL rfl) rfl ?_
 refine AA (.bool (decide ((300:Int) < ((niq:Int))))) (AT rfl rfl fun _ => DJ _ _) rfl ?_
 refine AA _ (AG rfl) rfl ?_
 refine AM 4 18 false _ (Ptr nb1 5) rfl rfl (decide_eq_false (by omega)) (AB 5 29 22 AS rfl BB rfl rfl) rfl ?_
 refine AM 4 18 false _ (Ptr nb1 7) rfl rfl (decide_eq_false (by omega)) (AB 2 26 4 AQ rfl BE rfl rfl) rfl ?_
 refine AM 4 18 false _ (.agg #[I64 (kd), SL ai ni ci, SL sa ns sc, U64 bl]) rfl rfl (decide_eq_false (by omega)) (AL rfl (BR D5 BE rfl (AR 0 rfl (DL (p := [U64 sq, I64 (qk), SL aiq niq ciq, U64 fs, I64 (mn), U64 pv, U64 ep]) (q := cu8 tg ++ [U64 eq]) (vs := (V4 (kd) ai ni ci sa ns sc bl)) (by first | rfl | (simp only [List.append_assoc, List.nil_append, List.append_nil, List.cons_append]; done)) rfl)))) rfl ?_
 refine DC 4 18 false _ rfl rfl (decide_eq_false (by omega)) (A3 18 _ (.bool (decide (LargeP ni ns))) (AV _ Tryd.call18 rfl) (fun w1 hw1 => large_c (kd) ai ni ci l sa ns sc ls bl w1 )) rfl ?_
 rintro v1 L1 ⟨rfl, rfl⟩
 show JL _ _ _ _ ((22, .bool (decide (LargeP ni ns))) :: _) [_, _]
 refine AA _ (A5 _ rfl (decide_eq_false (by omega)) rfl) rfl (AA _ (AG rfl) rfl ?_)
 refine AM 10 24 false _ _ rfl rfl (decide_eq_false hlg) (AL rfl (BR B8 BQ (by simp [htg2]) (AR 1 rfl (AN _)))) rfl ?_
 refine DC 10 24 false _ rfl rfl (decide_eq_false hlg) (A3 31 _ (.bool (decide (LargeQ nj2 nha2 nhb2 ni2 ns2))) (AV _ Tryd.call31 rfl) (fun w1 hw1 => large14_c rq2 (rk2) (er2) aj2 nj2 cj2 lj2 th2 pv2 ep2 (kd2) ai2 ni2 ci2 l2 sa2 ns2 sc2 ls2 bl2 tg2 aha2 nha2 cha2 xha2 ahb2 nhb2 chb2 xhb2 w1 htg2)) rfl ?_
 rintro v1 L1 ⟨rfl, rfl⟩
 show JL _ _ _ _ ((26, .bool (decide (LargeQ nj2 nha2 nhb2 ni2 ns2))) :: _) [_, _]
 refine AA _ (A5 _ rfl (decide_eq_false hlg) rfl) rfl ?_
 refine AJ (AD (BT _ rfl (decide_eq_false hlp) ?_))
 refine BH (AD (AF (F9 (ι := Unit) (fun _ => [(3, Ptr nb2 0)]) (fun _ => [(Ez nb2 (V0 rq2 (rk2) (er2) aj2 nj2 cj2 th2 pv2 ep2 (kd2) ai2 ni2 ci2 sa2 ns2 sc2 bl2 tg2 aha2 nha2 cha2 ahb2 nhb2 chb2) 67)]) (fun _ => True) ?_ ?_)))
 ·
  refine AF ?_
  by_cases hRq : reqR qk lq fs mn eq (blankB pv ep kd l ls bl tg) (decide (mayN pv ep kd l ls bl = 0)) = true
  ·
   obtain ⟨zq, hzq, hGq⟩ : ∃ z, z.length ≤ 100000 ∧ GRq z sq qk lq fs mn pv ep kd l ls bl tg eq := ⟨_, reqT_le hl hls htg hbq hbi hbs, GRq.put hRq hlq htg⟩
   refine AC (AA _ (AL rfl (BR CW BX (by simp [htg]) (AR 0 rfl (AN _)))) rfl ?_)
   refine A2 (C6 21 _ _ (AV _ Tryd.call21 rfl) (fun w1 hw1 => putReqG_w sq (qk) aiq niq ciq lq fs (mn) pv ep (kd) ai ni ci l sa ns sc ls bl tg eq zq w1 hlq (by omega) (by omega) (by omega) (CF hw1 rfl hvq) hl (by omega) (by omega) (by omega) (CF hw1 rfl hv) hls (by omega) (by omega) (by omega) (CF hw1 rfl hs) htg (by omega) (by omega) hGq)) rfl ?_
   rintro v1 L1 ⟨_, ⟨nb3, sp1, cp1, rfl, rfl, hc1, hc2, hc3⟩, rfl⟩
   show JL _ _ _ _ ((30, .tuple #[Slc nb3 0 zq.length cp1, .nilIface]) :: _) [_, _, (Ez nb3 (cu8 zq ++ sp1) 5)]
   refine AA _ (AG rfl) rfl (AA _ (BI rfl rfl) rfl (AA _ (BI rfl rfl) rfl (AA _ (AE rfl) rfl (AA _ (AE rfl) rfl ?_))))
   refine AJ (AD (AF (AC (AA _ (AG rfl) rfl ?_))))
   refine AA (.bool true) (DM _ _ _ rfl rfl (fun _ => FW ..) fun _ => F5 BG) rfl ?_
   refine AJ (AD (CH _ rfl rfl ?_))
   refine AF (AC (AA _ (AG rfl) rfl ?_))
   refine A2 (C6 53 _ _ (AV _ Tryd.call53 rfl) (fun w1 hw1 => parqK_c (some ⟨nb3, 0, none⟩) zq.length cp1 zq sq qk niq lq fs mn pv ep kd ni l ns ls bl tg eq w1 (fun h => by cases h) rfl (by omega) (by omega) (by omega) (RdB.of hw1 (AR 2 rfl (AI (AN _))) (by simp)) hGq hlq hl hls htg)) rfl ?_
   rintro v1 L1 ⟨_, ⟨ng1, cs1, nT1, na1, nc1, ng2, cs2, nT2, na2, nc2, ng3, cs3, nT3, na3, nc3, hc4, hc5, hc6, rfl, rfl, hc7, hc8, hc9, hc10, hc11, hc12, hc13, hc14, hc15⟩, rfl⟩
   show JL _ _ _ _ ((37, .tuple #[.agg (V1 sq (qk) na1 niq nc1 fs (mn) pv ep (kd) na2 ni nc2 na3 ns nc3 bl tg eq).toArray, .nilIface]) :: _) [_, _, _, (Ez ng1 cs1 nT1), (Ez ng2 cs2 nT2), (Ez ng3 cs3 nT3)]
   refine AA _ (AG rfl) rfl (AA _ (BI rfl rfl) rfl (AA _ (BI rfl rfl) rfl ?_))
   refine A2 (C4 _ (V6) Tryd.zeroValue31 (by kernel_rfl)) rfl ?_
   rintro v1 L1 ⟨nb4, hnb4, rfl, rfl⟩
   show JL _ _ _ _ (_ :: _) [_, _, _, _, _, _, _]
   refine A7 (BS 6 nb4 28 _ 31 (V1 sq (qk) na1 niq nc1 fs (mn) pv ep (kd) na2 ni nc2 na3 ns nc3 bl tg eq) rfl rfl rfl BX (by simp [htg]) (B0 (B0 (by simp [Value.oneCell']) CZ) (by simp [Value.oneCell'])) (by simp [(AO 16)]) (BW (by simp [(AO 16), htg]))) rfl ?_
   show JL _ _ _ _ _ [_, _, _, _, _, _, _]
   refine AA _ (AE rfl) rfl ?_
   refine AJ (AD (AF (DB 72 4 [(0, .nilIface), (1, .bool false), (2, .bool false), (3, .agg (V1 sq (qk) na1 niq nc1 fs (mn) pv ep (kd) na2 ni nc2 na3 ns nc3 bl tg eq).toArray), (5, .agg (V1 sq (qk) aiq niq ciq fs (mn) pv ep (kd) ai ni ci sa ns sc bl tg eq).toArray)] B6 rfl (by decide +kernel) ?_)))
   refine C2 ⟨[], [0, 1, 2, 3, 5], [], [0, 1, 2, 3, 5], [4]⟩ 4 _ rfl rfl (by decide +kernel) rfl ⟨CB rfl rfl rfl, AP rfl rfl (DM _ _ _ rfl rfl (fun _ => FW ..) fun _ => FJ BG), CB rfl rfl rfl, ⟨_, rfl, C8 2 42 false _ rfl rfl rfl rfl (AL rfl (BR CW BX (by simp [htg]) (AR 6 rfl (AN _))))⟩, ⟨_, rfl, C8 2 42 false _ rfl rfl rfl rfl (AL rfl (BR CW BX (by simp [htg]) (AR 0 rfl (AN _))))⟩, trivial⟩ rfl (Cok_gstep 2 42 false _ rfl rfl rfl rfl (C6 19 _ _ (AV _ Tryd.call19 rfl) (fun w1 hw1 => reqH_c sq (qk) na1 niq nc1 lq fs (mn) pv ep (kd) na2 ni nc2 l na3 ns nc3 ls bl tg eq w1 hlq (by omega) (by omega) (by omega) (Gh.at hw1 3 rfl hc7) hl (by omega) (by omega) (by omega) (Gh.at hw1 4 rfl hc10) hls (by omega) (by omega) (by omega) (Gh.at hw1 5 rfl hc13) htg))) ?_
   rintro v1 L1 ⟨_, ⟨ng4, cs4, nT4, na4, nc4, rfl, rfl, hc16, hc17, hc18⟩, rfl⟩
   refine ⟨[], ?_⟩
   show DP _ _ _ _ _ _ _ _ [_, _, _, _, _, _, _, (Ez ng4 cs4 nT4)]
   refine C2 ⟨[4], [0, 1, 2, 3, 5], [0, 1, 2, 3], [5], [6]⟩ 6 _ rfl rfl (by decide +kernel) rfl ⟨⟨_, rfl, C8 2 42 false _ rfl rfl rfl rfl (AL rfl (BR CW BX (by simp [htg]) (AR 0 rfl (AN _))))⟩, trivial⟩ rfl (Cok_gstep 2 42 false _ rfl rfl rfl rfl (C6 19 _ _ (AV _ Tryd.call19 rfl) (fun w1 hw1 => reqH_c sq (qk) aiq niq ciq lq fs (mn) pv ep (kd) ai ni ci l sa ns sc ls bl tg eq w1 hlq (by omega) (by omega) (by omega) (CF hw1 rfl hvq) hl (by omega) (by omega) (by omega) (CF hw1 rfl hv) hls (by omega) (by omega) (by omega) (CF hw1 rfl hs) htg))) ?_
   rintro v1 L1 ⟨_, ⟨ng5, cs5, nT5, na5, nc5, rfl, rfl, hc19, hc20, hc21⟩, rfl⟩
   refine ⟨[], ?_⟩
   show DP _ _ _ _ _ _ _ _ [_, _, _, _, _, _, _, _, (Ez ng5 cs5 nT5)]
   refine C2 ⟨[4, 6], [0, 1, 2, 3, 5], [0, 1, 2, 3, 5], [], [7]⟩ 7 _ rfl rfl (by decide +kernel) rfl trivial rfl (Cok_gstep 2 42 false _ rfl rfl rfl rfl (A3 57 _ (.bool true) (AV _ Tryd.call57 rfl) (fun w1 hw1 => rsameReqT_c sq (qk) na1 niq nc1 lq fs (mn) pv ep (kd) na2 ni nc2 l na4 ns nc4 ls bl tg eq aiq ciq ai ci na5 nc5 w1 hlq (by omega) (by omega) (by omega) (Gh.at hw1 3 rfl hc7) hl (by omega) (by omega) (by omega) (Gh.at hw1 4 rfl hc10) hls (by omega) (by omega) (by omega) (Gh.at hw1 7 rfl hc16) htg (by omega) (by omega) (CF hw1 rfl hvq) (by omega) (by omega) (CF hw1 rfl hv) (by omega) (by omega) (Gh.at hw1 8 rfl hc19)))) ?_
   rintro v1 L1 ⟨rfl, rfl⟩
   refine ⟨[(8, .bool (!true)), (9, .bool (!true))], ?_⟩
   show DP _ _ _ _ _ _ _ _ [_, _, _, _, _, _, _, _, _]
   refine DR ⟨[4, 6, 7], [0, 1, 2, 3, 5, 8, 9], [0, 1, 2, 3, 5], [8, 9], []⟩ rfl rfl (by decide +kernel) rfl ⟨⟨_, rfl, C8 2 42 false _ rfl rfl rfl rfl (D1 rfl)⟩, AP rfl rfl (A5 _ rfl rfl rfl), trivial⟩ ?_
   refine C5 (F' := [(49, .bool (!true)), (3, Ptr nb2 0), (4, .bool false)]) (by kernel_rfl) ?_
   refine AD (BT _ rfl rfl ?_)
   refine BH (FG [1] (by decide) ?_)
   show JQ _ _ _ _ [_]
   refine D9 (()) trivial (Sub.all rfl) rfl
  ·
   have hRqf := Bool.eq_false_iff.2 hRq
   refine AC (AA _ (AL rfl (BR CW BX (by simp [htg]) (AR 0 rfl (AN _)))) rfl ?_)
   refine A7 (A3 21 _ (.tuple #[SL none 0 0, .iface 50 (I64 2)]) (AV _ Tryd.call21 rfl) (fun w1 hw1 => putReqB_c sq (qk) aiq niq ciq lq fs (mn) pv ep (kd) ai ni ci l sa ns sc ls bl tg eq w1 hlq (by omega) (by omega) (by omega) (CF hw1 rfl hvq) hl (by omega) (by omega) (by omega) (CF hw1 rfl hv) hls (by omega) (by omega) (by omega) (CF hw1 rfl hs) htg (by omega) (by omega) hRqf)) rfl ?_
   show JL _ _ _ _ ((30, .tuple #[SL none 0 0, .iface 50 (I64 2)]) :: _) [_, _]
   refine AA _ (AG rfl) rfl (AA _ (BI rfl rfl) rfl (AA _ (BI rfl rfl) rfl (AA _ (AE rfl) rfl (AA _ (AE rfl) rfl ?_))))
   refine AJ (AD (AF (AC (AA _ (AG rfl) rfl ?_))))
   refine AA (.bool false) (DM _ _ _ rfl rfl (fun _ => eqGuard_if ..) fun _ => eql_if_nil BG) rfl ?_
   refine AJ (AD (BT _ rfl rfl ?_))
   refine BH (FG [1] (by decide) ?_)
   show JQ _ _ _ _ [_]
   refine D9 (()) trivial (Sub.all rfl) rfl
 ·
  rintro _ hx
  obtain _ := hx
  show JQ _ _ _ [_] [_]
  refine AD (AF ?_)
  by_cases hRp : repR rk2 er2 th2 lj2 (blankB pv2 ep2 kd2 l2 ls2 bl2 tg2) (decide (mayN pv2 ep2 kd2 l2 ls2 bl2 = 0)) nha2 nhb2 = true
  ·
   obtain ⟨hp4, hp5⟩ := repR_4 hRp
   obtain ⟨zp, hzp, hGp⟩ : ∃ z, z.length ≤ 100000 ∧ GRp z rq2 rk2 er2 lj2 th2 pv2 ep2 kd2 l2 ls2 bl2 tg2 nha2 xha2 nhb2 xhb2 := ⟨_, repT_le2 hlj2 hl2 hls2 htg2 hlha2 hlhb2 (by omega) hbi2 hbs2 (by omega) (by omega), GRp.put hRp hlj2 htg2 hlha2 hlhb2⟩
   refine AC (AA _ (AL rfl (BR B8 BQ (by simp [htg2]) (AR 0 rfl (AN _)))) rfl ?_)
   refine A2 (C6 34 _ _ (AV _ Tryd.call34 rfl) (fun w1 hw1 => putRepG_w rq2 (rk2) (er2) aj2 nj2 cj2 lj2 th2 pv2 ep2 (kd2) ai2 ni2 ci2 l2 sa2 ns2 sc2 ls2 bl2 tg2 aha2 nha2 cha2 xha2 ahb2 nhb2 chb2 xhb2 zp w1 hlj2 (by omega) (by omega) (by omega) (CF hw1 rfl hj2) hl2 (by omega) (by omega) (by omega) (CF hw1 rfl hv2) hls2 (by omega) (by omega) (by omega) (CF hw1 rfl hs2) htg2 hlha2 (by omega) (by omega) (by omega) (hrha2.at (M' := []) hw1 (by simp)) hlhb2 (by omega) (by omega) (by omega) (hrhb2.at (M' := []) hw1 (by simp)) (by omega) (by omega) hGp)) rfl ?_
   rintro v1 L1 ⟨_, ⟨nb5, sp2, cp2, rfl, rfl, hc22, hc23, hc24⟩, rfl⟩
   show JL _ _ _ _ ((52, .tuple #[Slc nb5 0 zp.length cp2, .nilIface]) :: _) [_, (Ez nb5 (cu8 zp ++ sp2) 5)]
   refine AA _ (AG rfl) rfl (AA _ (BI rfl rfl) rfl (AA _ (BI rfl rfl) rfl (AA _ (AE rfl) rfl (AA _ (AE rfl) rfl ?_))))
   refine AJ (AD (AF (AF (AC (AA _ (AG rfl) rfl ?_)))))
   refine AA (.bool false) (DM _ _ _ rfl rfl (fun _ => FW ..) fun _ => FJ BG) rfl ?_
   refine AJ (AD (BT _ rfl rfl ?_))
   refine BH (AD (AF (AC (AA _ (AG rfl) rfl ?_))))
   refine A2 (C6 55 _ _ (AV _ Tryd.call55 rfl) (fun w1 hw1 => parpK_c (some ⟨nb5, 0, none⟩) zp.length cp2 zp rq2 rk2 er2 nj2 lj2 th2 pv2 ep2 kd2 ni2 l2 ns2 ls2 bl2 tg2 nha2 xha2 nhb2 xhb2 w1 (fun h => by cases h) rfl (by omega) (by omega) (by omega) (RdB.of hw1 (AR 1 rfl (AI (AN _))) (by simp)) hGp hlj2 hl2 hls2 htg2 hlha2 hlhb2)) rfl ?_
   rintro v1 L1 ⟨_, ⟨ng6, cs6, nT6, na6, nc6, ng7, cs7, nT7, na7, nc7, ng8, cs8, nT8, na8, nc8, ng9, cs9, nT9, na9, nc9, ng10, cs10, nT10, na10, nc10, hc25, hc26, hc27, rfl, rfl, hc28, hc29, hc30, hc31, hc32, hc33, hc34, hc35, hc36, hc37, hc38, hc39, hc40, hc41, hc42⟩, rfl⟩
   show JL _ _ _ _ ((62, .tuple #[.agg (V0 rq2 (rk2) (er2) na6 nj2 nc6 th2 pv2 ep2 (kd2) na7 ni2 nc7 na8 ns2 nc8 bl2 tg2 na9 nha2 nc9 na10 nhb2 nc10).toArray, .nilIface]) :: _) [_, _, (Ez ng6 cs6 nT6), (Ez ng7 cs7 nT7), (Ez ng8 cs8 nT8), (Ez ng9 cs9 nT9), (Ez ng10 cs10 nT10)]
   refine AA _ (AG rfl) rfl (AA _ (BI rfl rfl) rfl (AA _ (BI rfl rfl) rfl ?_))
   refine A2 (C4 _ (V7) Tryd.zeroValue67 (by kernel_rfl)) rfl ?_
   rintro v1 L1 ⟨nb6, hnb6, rfl, rfl⟩
   show JL _ _ _ _ (_ :: _) [_, _, _, _, _, _, _, _]
   refine A7 (BS 7 nb6 29 _ 67 (V0 rq2 (rk2) (er2) na6 nj2 nc6 th2 pv2 ep2 (kd2) na7 ni2 nc7 na8 ns2 nc8 bl2 tg2 na9 nha2 nc9 na10 nhb2 nc10) rfl rfl rfl BQ (by simp [htg2]) (B0 (B0 (by simp [Value.oneCell']) CZ) (by simp [Value.oneCell'])) (by simp [(AO 16)]) (BW (by simp [(AO 16), htg2]))) rfl ?_
   show JL _ _ _ _ _ [_, _, _, _, _, _, _, _]
   refine AA _ (AE rfl) rfl ?_
   refine AJ (AD (AF (AC (AA _ (AG rfl) rfl ?_))))
   refine AA (.bool true) (DM _ _ _ rfl rfl (fun _ => FW ..) fun _ => F5 BG) rfl ?_
   refine AA _ (AG rfl) rfl ?_
   refine AM 2 67 true _ _ rfl rfl rfl (AL rfl (BR B8 BQ (by simp [htg2]) (AR 7 rfl (AN _)))) rfl ?_
   refine AM 2 67 true _ _ rfl rfl rfl (AL rfl (BR B8 BQ (by simp [htg2]) (AR 0 rfl (AN _)))) rfl ?_
   refine DC 2 67 true _ rfl rfl rfl (A3 36 _ (.bool true) (AV _ Tryd.call36 rfl) (fun w1 hw1 => sameRepT_c rq2 (rk2) (er2) na6 nj2 nc6 lj2 th2 pv2 ep2 (kd2) na7 ni2 nc7 l2 na8 ns2 nc8 ls2 bl2 tg2 na9 nha2 nc9 xha2 na10 nhb2 nc10 xhb2 aj2 cj2 ai2 ci2 sa2 sc2 aha2 cha2 ahb2 chb2 w1 hlj2 (by omega) (by omega) (by omega) (Gh.at hw1 2 rfl hc28) hl2 (by omega) (by omega) (by omega) (Gh.at hw1 3 rfl hc31) hls2 (by omega) (by omega) (by omega) (Gh.at hw1 4 rfl hc34) htg2 hlha2 (by omega) (by omega) (by omega) (Gh.rdB hw1 5 rfl hc37) hlhb2 (by omega) (by omega) (by omega) (Gh.rdB hw1 6 rfl hc40) (by omega) (by omega) (CF hw1 rfl hj2) (by omega) (by omega) (CF hw1 rfl hv2) (by omega) (by omega) (CF hw1 rfl hs2) (by omega) (by omega) (hrha2.at (M' := []) hw1 (by simp)) (by omega) (by omega) (hrhb2.at (M' := []) hw1 (by simp)))) rfl ?_
   rintro v1 L1 ⟨rfl, rfl⟩
   show JL _ _ _ _ ((70, .bool true) :: _) [_, _, _, _, _, _, _, _]
   refine AA _ (BA _ rfl rfl rfl) rfl (AA _ (AE rfl) rfl ?_)
   refine AJ (AD (BK (CD [false, false, false, false, false, false, false, false] ?_)))
   show JQ _ _ _ _ []
   refine BJ (.bool true) (res1 Tryd.results15 (BF rfl)) fun w1 hw1 => ?_
   exact ⟨_, [], rfl, ⟨congrArg Value.bool rfl, rfl⟩, hw1.no⟩
  ·
   have hRpf := Bool.eq_false_iff.2 hRp
   refine AC (AA _ (AL rfl (BR B8 BQ (by simp [htg2]) (AR 0 rfl (AN _)))) rfl ?_)
   refine A7 (A3 34 _ (.tuple #[SL none 0 0, .iface 50 (I64 2)]) (AV _ Tryd.call34 rfl) (fun w1 hw1 => putRepB_c rq2 (rk2) (er2) aj2 nj2 cj2 lj2 th2 pv2 ep2 (kd2) ai2 ni2 ci2 l2 sa2 ns2 sc2 ls2 bl2 tg2 aha2 nha2 cha2 xha2 ahb2 nhb2 chb2 xhb2 w1 hlj2 (by omega) (by omega) (by omega) (CF hw1 rfl hj2) hl2 (by omega) (by omega) (by omega) (CF hw1 rfl hv2) hls2 (by omega) (by omega) (by omega) (CF hw1 rfl hs2) htg2 hlha2 (by omega) (by omega) (by omega) (hrha2.at (M' := []) hw1 (by simp)) hlhb2 (by omega) (by omega) (by omega) (hrhb2.at (M' := []) hw1 (by simp)) (by omega) (by omega) hRpf)) rfl ?_
   show JL _ _ _ _ ((52, .tuple #[SL none 0 0, .iface 50 (I64 2)]) :: _) [_]
   refine AA _ (AG rfl) rfl (AA _ (BI rfl rfl) rfl (AA _ (BI rfl rfl) rfl (AA _ (AE rfl) rfl (AA _ (AE rfl) rfl ?_))))
   refine AJ (AD (AF (AF (AC (AA _ (AG rfl) rfl ?_)))))
   refine AA (.bool true) (DM _ _ _ rfl rfl (fun _ => eqGuard_if ..) fun _ => neq_if_nil BG) rfl ?_
   refine AJ (AD (CH _ rfl rfl ?_))
   refine AF (AC (AA _ (AL rfl (BR B8 BQ (by simp [htg2]) (AR 0 rfl (AN _)))) rfl ?_))
   refine A7 (A3 35 _ (.bool (repR (rk2) (er2) th2 lj2 (blankB pv2 ep2 (kd2) l2 ls2 bl2 tg2) (decide (mayN pv2 ep2 (kd2) l2 ls2 bl2 = 0)) nha2 nhb2)) (AV _ Tryd.call35 rfl) (fun w1 hw1 => FB rq2 (rk2) (er2) aj2 nj2 cj2 lj2 th2 pv2 ep2 (kd2) ai2 ni2 ci2 l2 sa2 ns2 sc2 ls2 bl2 tg2 aha2 nha2 cha2 xha2 ahb2 nhb2 chb2 xhb2 w1 hlj2 (by omega) (by omega) (by omega) (CF hw1 rfl hj2) hl2 (by omega) (by omega) (by omega) (CF hw1 rfl hv2) hls2 (by omega) (by omega) (by omega) (CF hw1 rfl hs2) htg2 hlha2 (by omega) (by omega) (by omega) (hrha2.at (M' := []) hw1 (by simp)) hlhb2 (by omega) (by omega) (by omega) (hrhb2.at (M' := []) hw1 (by simp)) (by omega) (by omega))) rfl ?_
   show JL _ _ _ _ ((58, .bool (repR (rk2) (er2) th2 lj2 (blankB pv2 ep2 (kd2) l2 ls2 bl2 tg2) (decide (mayN pv2 ep2 (kd2) l2 ls2 bl2 = 0)) nha2 nhb2)) :: _) [_]
   refine AA (.bool (!(repR (rk2) (er2) th2 lj2 (blankB pv2 ep2 (kd2) l2 ls2 bl2 tg2) (decide (mayN pv2 ep2 (kd2) l2 ls2 bl2 = 0)) nha2 nhb2))) (D1 rfl) rfl (AA _ (AE rfl) rfl ?_)
   refine AJ (AD (BK (A6 (CD [false] ?_))))
   show JQ _ _ _ _ []
   refine BJ (.bool (!(repR (rk2) (er2) th2 lj2 (blankB pv2 ep2 (kd2) l2 ls2 bl2 tg2) (decide (mayN pv2 ep2 (kd2) l2 ls2 bl2 = 0)) nha2 nhb2))) (res1 Tryd.results15 (BF rfl)) fun w1 hw1 => ?_
   exact ⟨_, [], rfl, ⟨congrArg Value.bool (bnotF hRpf), rfl⟩, hw1.no⟩
theorem wbackQ_c (sq : UInt64) (qk : Int) (aiq : Option Addr) (niq ciq : Nat) (lq : List UInt64) (fs : UInt64) (mn : Int) (pv ep : UInt64) (kd : Int) (ai : Option Addr) (ni ci : Nat) (l : List UInt64) (sa : Option Addr) (ns sc : Nat) (ls : List SealR) (bl : UInt64) (tg : List UInt8) (eq : UInt64) (rq2 : UInt64) (rk2 er2 : Int) (aj2 : Option Addr) (nj2 cj2 : Nat) (lj2 : List ItemR) (th2 : Bool) (pv2 ep2 : UInt64) (kd2 : Int) (ai2 : Option Addr) (ni2 ci2 : Nat) (l2 : List UInt64) (sa2 : Option Addr) (ns2 sc2 : Nat) (ls2 : List SealR) (bl2 : UInt64) (tg2 : List UInt8) (aha2 : Option Addr) (nha2 cha2 : Nat) (xha2 : List UInt8) (ahb2 : Option Addr) (nhb2 chb2 : Nat) (xhb2 : List UInt8)  (w : World) (htg : tg.length = 16) (htg2 : tg2.length = 16) (hbq : 300 < niq) (hW : GLw w)  : Calls Tryd.prog 15 #[.agg (V1 sq (qk) aiq niq ciq fs (mn) pv ep (kd) ai ni ci sa ns sc bl tg eq).toArray, .agg (V0 rq2 (rk2) (er2) aj2 nj2 cj2 th2 pv2 ep2 (kd2) ai2 ni2 ci2 sa2 ns2 sc2 bl2 tg2 aha2 nha2 cha2 ahb2 nhb2 chb2).toArray] w (Post w [] (fun v L => v = .bool true ∧ L = [])) := by
 have hmx : maxLen = 9223372036854775807 := rfl
 refine enter (P := Tryd.prog) (f := 15) (fn := Tryd.f15) w [] 72 [] [.agg (V1 sq (qk) aiq niq ciq fs (mn) pv ep (kd) ai ni ci sa ns sc bl tg eq).toArray, .agg (V0 rq2 (rk2) (er2) aj2 nj2 cj2 th2 pv2 ep2 (kd2) ai2 ni2 ci2 sa2 ns2 sc2 bl2 tg2 aha2 nha2 cha2 ahb2 nhb2 chb2).toArray] Tryd.func15 rfl rfl (by simp) (BZ (by simp) (by simp) (by simp)) ?_
 show JC _ _ _ [(0, .agg (V1 sq (qk) aiq niq ciq fs (mn) pv ep (kd) ai ni ci sa ns sc bl tg eq).toArray), (1, .agg (V0 rq2 (rk2) (er2) aj2 nj2 cj2 th2 pv2 ep2 (kd2) ai2 ni2 ci2 sa2 ns2 sc2 bl2 tg2 aha2 nha2 cha2 ahb2 nhb2 chb2).toArray)] _
 refine AF (AC (A2 (CN (.agg (V1 sq (qk) aiq niq ciq fs (mn) pv ep (kd) ai ni ci sa ns sc bl tg eq).toArray) (V1 sq (qk) aiq niq ciq fs (mn) pv ep (kd) ai ni ci sa ns sc bl tg eq) rfl (by first | rfl | simp)) rfl ?_))
 rintro v1 L1 ⟨nb1, hnb1, rfl, rfl⟩
 show JL _ _ _ _ (_ :: _) [_]
 refine A2 (CN (.agg (V0 rq2 (rk2) (er2) aj2 nj2 cj2 th2 pv2 ep2 (kd2) ai2 ni2 ci2 sa2 ns2 sc2 bl2 tg2 aha2 nha2 cha2 ahb2 nhb2 chb2).toArray) (V0 rq2 (rk2) (er2) aj2 nj2 cj2 th2 pv2 ep2 (kd2) ai2 ni2 ci2 sa2 ns2 sc2 bl2 tg2 aha2 nha2 cha2 ahb2 nhb2 chb2) rfl (by first | rfl | simp)) rfl ?_
 rintro v1 L1 ⟨nb2, hnb2, rfl, rfl⟩
 show JL _ _ _ _ (_ :: _) [_, _]
 refine AA _ (AE rfl) rfl ?_
 refine AJ (AD (AF (AF (AC (A2 (A3 17 _ (.bool true) (AV _ Tryd.call17 rfl) (fun w1 hw1 => alive14_c  w1 (GLw.at hw1 hW))) rfl ?_)))))
 rintro v1 L1 ⟨rfl, rfl⟩
 show JL _ _ _ _ ((12, .bool true) :: _) [_, _]
 refine AA (.bool (!true)) (D1 rfl) rfl ?_
 refine AJ (AD (BT _ rfl rfl ?_))
 refine BH (AD (AF (AF (AC (AA (Ptr nb1 2) (AB 2 23 1 AS rfl BV rfl rfl) rfl ?_)))))
 refine AA _ (AL rfl (AX B4 (AR 0 rfl (AI (AI (AH (AH (Seg.head)))))))) rfl ?_
 refine AA (I64 niq) (DA BL rfl) rfl ?_
 refine AA (.bool (decide ((300:Int) < ((niq:Int))))) (AT rfl rfl fun _ => DJ _ _) rfl ?_
 refine AA _ (AG rfl) rfl ?_
 refine A9 4 4 18 false _ rfl rfl (decide_eq_true (by omega)) rfl (AA _ (BA _ rfl (decide_eq_true (by omega)) rfl) rfl ?_)
 refine AA _ (AG rfl) rfl ?_
 refine A9 2 10 24 false _ rfl rfl rfl rfl (AA _ (BA _ rfl rfl rfl) rfl ?_)
 refine AJ (AD (CH _ rfl rfl ?_))
 refine AF (AC (AA _ (AE rfl) rfl ?_))
 refine AJ (AD (BK (A6 (CD [false, false] ?_))))
 show JQ _ _ _ _ []
 refine BJ (.bool true) (res1 Tryd.results15 (BF rfl)) fun w1 hw1 => ?_
 exact ⟨_, [], rfl, ⟨congrArg Value.bool rfl, rfl⟩, hw1.no⟩
theorem wbackL_c (sq : UInt64) (qk : Int) (aiq : Option Addr) (niq ciq : Nat) (lq : List UInt64) (fs : UInt64) (mn : Int) (pv ep : UInt64) (kd : Int) (ai : Option Addr) (ni ci : Nat) (l : List UInt64) (sa : Option Addr) (ns sc : Nat) (ls : List SealR) (bl : UInt64) (tg : List UInt8) (eq : UInt64) (rq2 : UInt64) (rk2 er2 : Int) (aj2 : Option Addr) (nj2 cj2 : Nat) (lj2 : List ItemR) (th2 : Bool) (pv2 ep2 : UInt64) (kd2 : Int) (ai2 : Option Addr) (ni2 ci2 : Nat) (l2 : List UInt64) (sa2 : Option Addr) (ns2 sc2 : Nat) (ls2 : List SealR) (bl2 : UInt64) (tg2 : List UInt8) (aha2 : Option Addr) (nha2 cha2 : Nat) (xha2 : List UInt8) (ahb2 : Option Addr) (nhb2 chb2 : Nat) (xhb2 : List UInt8)  (w : World) (htg : tg.length = 16) (htg2 : tg2.length = 16) (hbq : niq ≤ 300) (hlg : LargeP ni ns) (hW : GLw w)  : Calls Tryd.prog 15 #[.agg (V1 sq (qk) aiq niq ciq fs (mn) pv ep (kd) ai ni ci sa ns sc bl tg eq).toArray, .agg (V0 rq2 (rk2) (er2) aj2 nj2 cj2 th2 pv2 ep2 (kd2) ai2 ni2 ci2 sa2 ns2 sc2 bl2 tg2 aha2 nha2 cha2 ahb2 nhb2 chb2).toArray] w (Post w [] (fun v L => v = .bool true ∧ L = [])) := by
 have hmx : maxLen = 9223372036854775807 := rfl
 refine enter (P := Tryd.prog) (f := 15) (fn := Tryd.f15) w [] 72 [] [.agg (V1 sq (qk) aiq niq ciq fs (mn) pv ep (kd) ai ni ci sa ns sc bl tg eq).toArray, .agg (V0 rq2 (rk2) (er2) aj2 nj2 cj2 th2 pv2 ep2 (kd2) ai2 ni2 ci2 sa2 ns2 sc2 bl2 tg2 aha2 nha2 cha2 ahb2 nhb2 chb2).toArray] Tryd.func15 rfl rfl (by simp) (BZ (by simp) (by simp) (by simp)) ?_
 show JC _ _ _ [(0, .agg (V1 sq (qk) aiq niq ciq fs (mn) pv ep (kd) ai ni ci sa ns sc bl tg eq).toArray), (1, .agg (V0 rq2 (rk2) (er2) aj2 nj2 cj2 th2 pv2 ep2 (kd2) ai2 ni2 ci2 sa2 ns2 sc2 bl2 tg2 aha2 nha2 cha2 ahb2 nhb2 chb2).toArray)] _
 refine AF (AC (A2 (CN (.agg (V1 sq (qk) aiq niq ciq fs (mn) pv ep (kd) ai ni ci sa ns sc bl tg eq).toArray) (V1 sq (qk) aiq niq ciq fs (mn) pv ep (kd) ai ni ci sa ns sc bl tg eq) rfl (by first | rfl | simp)) rfl ?_))
 rintro v1 L1 ⟨nb1, hnb1, rfl, rfl⟩
 show JL _ _ _ _ (_ :: _) [_]
 refine A2 (CN (.agg (V0 rq2 (rk2) (er2) aj2 nj2 cj2 th2 pv2 ep2 (kd2) ai2 ni2 ci2 sa2 ns2 sc2 bl2 tg2 aha2 nha2 cha2 ahb2 nhb2 chb2).toArray) (V0 rq2 (rk2) (er2) aj2 nj2 cj2 th2 pv2 ep2 (kd2) ai2 ni2 ci2 sa2 ns2 sc2 bl2 tg2 aha2 nha2 cha2 ahb2 nhb2 chb2) rfl (by first | rfl | simp)) rfl ?_
 rintro v1 L1 ⟨nb2, hnb2, rfl, rfl⟩
 show JL _ _ _ _ (_ :: _) [_, _]
 refine AA _ (AE rfl) rfl ?_
 refine AJ (AD (AF (AF (AC (A2 (A3 17 _ (.bool true) (AV _ Tryd.call17 rfl) (fun w1 hw1 => alive14_c  w1 (GLw.at hw1 hW))) rfl ?_)))))
 rintro v1 L1 ⟨rfl, rfl⟩
 show JL _ _ _ _ ((12, .bool true) :: _) [_, _]
 refine AA (.bool (!true)) (D1 rfl) rfl ?_
 refine AJ (AD (BT _ rfl rfl ?_))
 refine BH (AD (AF (AF (AC (AA (Ptr nb1 2) (AB 2 23 1 AS rfl BV rfl rfl) rfl ?_)))))
 refine AA _ (AL rfl (AX B4 (AR 0 rfl (AI (AI (AH (AH (Seg.head)))))))) rfl ?_
 refine AA (I64 niq) (DA BL rfl) rfl ?_
 refine AA (.bool (decide ((300:Int) < ((niq:Int))))) (AT rfl rfl fun _ => DJ _ _) rfl ?_
 refine AA _ (AG rfl) rfl ?_
 refine AM 4 18 false _ (Ptr nb1 5) rfl rfl (decide_eq_false (by omega)) (AB 5 29 22 AS rfl BB rfl rfl) rfl ?_
 refine AM 4 18 false _ (Ptr nb1 7) rfl rfl (decide_eq_false (by omega)) (AB 2 26 4 AQ rfl BE rfl rfl) rfl ?_
 refine AM 4 18 false _ (.agg #[I64 (kd), SL ai ni ci, SL sa ns sc, U64 bl]) rfl rfl (decide_eq_false (by omega)) (AL rfl (BR D5 BE rfl (AR 0 rfl (DL (p := [U64 sq, I64 (qk), SL aiq niq ciq, U64 fs, I64 (mn), U64 pv, U64 ep]) (q := cu8 tg ++ [U64 eq]) (vs := (V4 (kd) ai ni ci sa ns sc bl)) (by first | rfl | (simp only [List.append_assoc, List.nil_append, List.append_nil, List.cons_append]; done)) rfl)))) rfl ?_
 refine DC 4 18 false _ rfl rfl (decide_eq_false (by omega)) (A3 18 _ (.bool (decide (LargeP ni ns))) (AV _ Tryd.call18 rfl) (fun w1 hw1 => large_c (kd) ai ni ci l sa ns sc ls bl w1 )) rfl ?_
 rintro v1 L1 ⟨rfl, rfl⟩
 show JL _ _ _ _ ((22, .bool (decide (LargeP ni ns))) :: _) [_, _]
 refine AA _ (A5 _ rfl (decide_eq_false (by omega)) rfl) rfl (AA _ (AG rfl) rfl ?_)
 refine A9 2 10 24 false _ rfl rfl (decide_eq_true hlg) rfl (AA _ (BA _ rfl (decide_eq_true hlg) rfl) rfl ?_)
 refine AJ (AD (CH _ rfl rfl ?_))
 refine AF (AC (AA _ (AE rfl) rfl ?_))
 refine AJ (AD (BK (A6 (CD [false, false] ?_))))
 show JQ _ _ _ _ []
 refine BJ (.bool true) (res1 Tryd.results15 (BF rfl)) fun w1 hw1 => ?_
 exact ⟨_, [], rfl, ⟨congrArg Value.bool rfl, rfl⟩, hw1.no⟩
theorem wbackP_c (sq : UInt64) (qk : Int) (aiq : Option Addr) (niq ciq : Nat) (lq : List UInt64) (fs : UInt64) (mn : Int) (pv ep : UInt64) (kd : Int) (ai : Option Addr) (ni ci : Nat) (l : List UInt64) (sa : Option Addr) (ns sc : Nat) (ls : List SealR) (bl : UInt64) (tg : List UInt8) (eq : UInt64) (rq2 : UInt64) (rk2 er2 : Int) (aj2 : Option Addr) (nj2 cj2 : Nat) (lj2 : List ItemR) (th2 : Bool) (pv2 ep2 : UInt64) (kd2 : Int) (ai2 : Option Addr) (ni2 ci2 : Nat) (l2 : List UInt64) (sa2 : Option Addr) (ns2 sc2 : Nat) (ls2 : List SealR) (bl2 : UInt64) (tg2 : List UInt8) (aha2 : Option Addr) (nha2 cha2 : Nat) (xha2 : List UInt8) (ahb2 : Option Addr) (nhb2 chb2 : Nat) (xhb2 : List UInt8)  (w : World) (htg : tg.length = 16) (htg2 : tg2.length = 16) (hbq : niq ≤ 300) (hlg : ¬ LargeP ni ns) (hlp : LargeQ nj2 nha2 nhb2 ni2 ns2) (hW : GLw w)  : Calls Tryd.prog 15 #[.agg (V1 sq (qk) aiq niq ciq fs (mn) pv ep (kd) ai ni ci sa ns sc bl tg eq).toArray, .agg (V0 rq2 (rk2) (er2) aj2 nj2 cj2 th2 pv2 ep2 (kd2) ai2 ni2 ci2 sa2 ns2 sc2 bl2 tg2 aha2 nha2 cha2 ahb2 nhb2 chb2).toArray] w (Post w [] (fun v L => v = .bool true ∧ L = [])) := by
 have hmx : maxLen = 9223372036854775807 := rfl
 refine enter (P := Tryd.prog) (f := 15) (fn := Tryd.f15) w [] 72 [] [.agg (V1 sq (qk) aiq niq ciq fs (mn) pv ep (kd) ai ni ci sa ns sc bl tg eq).toArray, .agg (V0 rq2 (rk2) (er2) aj2 nj2 cj2 th2 pv2 ep2 (kd2) ai2 ni2 ci2 sa2 ns2 sc2 bl2 tg2 aha2 nha2 cha2 ahb2 nhb2 chb2).toArray] Tryd.func15 rfl rfl (by simp) (BZ (by simp) (by simp) (by simp)) ?_
 show JC _ _ _ [(0, .agg (V1 sq (qk) aiq niq ciq fs (mn) pv ep (kd) ai ni ci sa ns sc bl tg eq).toArray), (1, .agg (V0 rq2 (rk2) (er2) aj2 nj2 cj2 th2 pv2 ep2 (kd2) ai2 ni2 ci2 sa2 ns2 sc2 bl2 tg2 aha2 nha2 cha2 ahb2 nhb2 chb2).toArray)] _
 refine AF (AC (A2 (CN (.agg (V1 sq (qk) aiq niq ciq fs (mn) pv ep (kd) ai ni ci sa ns sc bl tg eq).toArray) (V1 sq (qk) aiq niq ciq fs (mn) pv ep (kd) ai ni ci sa ns sc bl tg eq) rfl (by first | rfl | simp)) rfl ?_))
 rintro v1 L1 ⟨nb1, hnb1, rfl, rfl⟩
 show JL _ _ _ _ (_ :: _) [_]
 refine A2 (CN (.agg (V0 rq2 (rk2) (er2) aj2 nj2 cj2 th2 pv2 ep2 (kd2) ai2 ni2 ci2 sa2 ns2 sc2 bl2 tg2 aha2 nha2 cha2 ahb2 nhb2 chb2).toArray) (V0 rq2 (rk2) (er2) aj2 nj2 cj2 th2 pv2 ep2 (kd2) ai2 ni2 ci2 sa2 ns2 sc2 bl2 tg2 aha2 nha2 cha2 ahb2 nhb2 chb2) rfl (by first | rfl | simp)) rfl ?_
 rintro v1 L1 ⟨nb2, hnb2, rfl, rfl⟩
 show JL _ _ _ _ (_ :: _) [_, _]
 refine AA _ (AE rfl) rfl ?_
 refine AJ (AD (AF (AF (AC (A2 (A3 17 _ (.bool true) (AV _ Tryd.call17 rfl) (fun w1 hw1 => alive14_c  w1 (GLw.at hw1 hW))) rfl ?_)))))
 rintro v1 L1 ⟨rfl, rfl⟩
 show JL _ _ _ _ ((12, .bool true) :: _) [_, _]
 refine AA (.bool (!true)) (D1 rfl) rfl ?_
 refine AJ (AD (BT _ rfl rfl ?_))
 refine BH (AD (AF (AF (AC (AA (Ptr nb1 2) (AB 2 23 1 AS rfl BV rfl rfl) rfl ?_)))))
 refine AA _ (AL rfl (AX B4 (AR 0 rfl (AI (AI (AH (AH (Seg.head)))))))) rfl ?_
 refine AA (I64 niq) (DA BL rfl) rfl ?_
 refine AA (.bool (decide ((300:Int) < ((niq:Int))))) (AT rfl rfl fun _ => DJ _ _) rfl ?_
 refine AA _ (AG rfl) rfl ?_
 refine AM 4 18 false _ (Ptr nb1 5) rfl rfl (decide_eq_false (by omega)) (AB 5 29 22 AS rfl BB rfl rfl) rfl ?_
 refine AM 4 18 false _ (Ptr nb1 7) rfl rfl (decide_eq_false (by omega)) (AB 2 26 4 AQ rfl BE rfl rfl) rfl ?_
 refine AM 4 18 false _ (.agg #[I64 (kd), SL ai ni ci, SL sa ns sc, U64 bl]) rfl rfl (decide_eq_false (by omega)) (AL rfl (BR D5 BE rfl (AR 0 rfl (DL (p := [U64 sq, I64 (qk), SL aiq niq ciq, U64 fs, I64 (mn), U64 pv, U64 ep]) (q := cu8 tg ++ [U64 eq]) (vs := (V4 (kd) ai ni ci sa ns sc bl)) (by first | rfl | (simp only [List.append_assoc, List.nil_append, List.append_nil, List.cons_append]; done)) rfl)))) rfl ?_
 refine DC 4 18 false _ rfl rfl (decide_eq_false (by omega)) (A3 18 _ (.bool (decide (LargeP ni ns))) (AV _ Tryd.call18 rfl) (fun w1 hw1 => large_c (kd) ai ni ci l sa ns sc ls bl w1 )) rfl ?_
 rintro v1 L1 ⟨rfl, rfl⟩
 show JL _ _ _ _ ((22, .bool (decide (LargeP ni ns))) :: _) [_, _]
 refine AA _ (A5 _ rfl (decide_eq_false (by omega)) rfl) rfl (AA _ (AG rfl) rfl ?_)
 refine AM 10 24 false _ _ rfl rfl (decide_eq_false hlg) (AL rfl (BR B8 BQ (by simp [htg2]) (AR 1 rfl (AN _)))) rfl ?_
 refine DC 10 24 false _ rfl rfl (decide_eq_false hlg) (A3 31 _ (.bool (decide (LargeQ nj2 nha2 nhb2 ni2 ns2))) (AV _ Tryd.call31 rfl) (fun w1 hw1 => large14_c rq2 (rk2) (er2) aj2 nj2 cj2 lj2 th2 pv2 ep2 (kd2) ai2 ni2 ci2 l2 sa2 ns2 sc2 ls2 bl2 tg2 aha2 nha2 cha2 xha2 ahb2 nhb2 chb2 xhb2 w1 htg2)) rfl ?_
 rintro v1 L1 ⟨rfl, rfl⟩
 show JL _ _ _ _ ((26, .bool (decide (LargeQ nj2 nha2 nhb2 ni2 ns2))) :: _) [_, _]
 refine AA _ (A5 _ rfl (decide_eq_false hlg) rfl) rfl ?_
 refine AJ (AD (CH _ rfl (decide_eq_true hlp) ?_))
 refine AF (AC (AA _ (AE rfl) rfl ?_))
 refine AJ (AD (BK (A6 (CD [false, false] ?_))))
 show JQ _ _ _ _ []
 refine BJ (.bool true) (res1 Tryd.results15 (BF rfl)) fun w1 hw1 => ?_
 exact ⟨_, [], rfl, ⟨congrArg Value.bool rfl, rfl⟩, hw1.no⟩
theorem wireBack_w (sq : UInt64) (qk : Int) (aiq : Option Addr) (niq ciq : Nat) (lq : List UInt64) (fs : UInt64) (mn : Int) (pv ep : UInt64) (kd : Int) (ai : Option Addr) (ni ci : Nat) (l : List UInt64) (sa : Option Addr) (ns sc : Nat) (ls : List SealR) (bl : UInt64) (tg : List UInt8) (eq : UInt64) (rq2 : UInt64) (rk2 er2 : Int) (aj2 : Option Addr) (nj2 cj2 : Nat) (lj2 : List ItemR) (th2 : Bool) (pv2 ep2 : UInt64) (kd2 : Int) (ai2 : Option Addr) (ni2 ci2 : Nat) (l2 : List UInt64) (sa2 : Option Addr) (ns2 sc2 : Nat) (ls2 : List SealR) (bl2 : UInt64) (tg2 : List UInt8) (aha2 : Option Addr) (nha2 cha2 : Nat) (xha2 : List UInt8) (ahb2 : Option Addr) (nhb2 chb2 : Nat) (xhb2 : List UInt8) (w : World) (hqk : -9223372036854775808 ≤ qk ∧ qk ≤ 9223372036854775807) (hlq : lq.length = niq) (hnq : aiq = none → ciq = 0) (hiq : niq ≤ ciq ∧ ciq ≤ maxLen) (hvq : RdV w aiq (cu64 lq)) (hmn : -9223372036854775808 ≤ mn ∧ mn ≤ 9223372036854775807) (hkd : -9223372036854775808 ≤ kd ∧ kd ≤ 9223372036854775807) (hl : l.length = ni) (hnI : ai = none → ci = 0) (hic : ni ≤ ci ∧ ci ≤ maxLen) (hv : RdV w ai (cu64 l)) (hls : ls.length = ns) (hnS : sa = none → sc = 0) (hsc : ns ≤ sc ∧ sc ≤ maxLen) (hs : RdV w sa (ls.flatMap sealC)) (htg : tg.length = 16) (hrk2 : -9223372036854775808 ≤ rk2 ∧ rk2 ≤ 9223372036854775807) (her2 : -9223372036854775808 ≤ er2 ∧ er2 ≤ 9223372036854775807) (hlj2 : lj2.length = nj2) (hnJ2 : aj2 = none → cj2 = 0) (hij2 : nj2 ≤ cj2 ∧ cj2 ≤ maxLen) (hj2 : RdV w aj2 (lj2.flatMap itemC)) (hkd2 : -9223372036854775808 ≤ kd2 ∧ kd2 ≤ 9223372036854775807) (hl2 : l2.length = ni2) (hnI2 : ai2 = none → ci2 = 0) (hic2 : ni2 ≤ ci2 ∧ ci2 ≤ maxLen) (hv2 : RdV w ai2 (cu64 l2)) (hls2 : ls2.length = ns2) (hnS2 : sa2 = none → sc2 = 0) (hsc2 : ns2 ≤ sc2 ∧ sc2 ≤ maxLen) (hs2 : RdV w sa2 (ls2.flatMap sealC)) (htg2 : tg2.length = 16) (hlha2 : xha2.length = 32 * nha2) (hnHa2 : aha2 = none → cha2 = 0) (hiha2 : nha2 ≤ cha2 ∧ cha2 ≤ maxLen) (hrha2 : RdB w [] aha2 xha2) (hlhb2 : xhb2.length = 32 * nhb2) (hnHb2 : ahb2 = none → chb2 = 0) (hihb2 : nhb2 ≤ chb2 ∧ chb2 ≤ maxLen) (hrhb2 : RdB w [] ahb2 xhb2) (hW : GLw w) : Calls Tryd.prog 15 #[.agg (V1 sq (qk) aiq niq ciq fs (mn) pv ep (kd) ai ni ci sa ns sc bl tg eq).toArray, .agg (V0 rq2 (rk2) (er2) aj2 nj2 cj2 th2 pv2 ep2 (kd2) ai2 ni2 ci2 sa2 ns2 sc2 bl2 tg2 aha2 nha2 cha2 ahb2 nhb2 chb2).toArray] w (Post w [] (fun v L => v = .bool true ∧ L = [])) := by
  by_cases hbq : 300 < niq
  · exact wbackQ_c sq qk aiq niq ciq lq fs mn pv ep kd ai ni ci l sa ns sc ls bl tg eq rq2 rk2 er2 aj2 nj2 cj2 lj2 th2 pv2 ep2 kd2 ai2 ni2 ci2 l2 sa2 ns2 sc2 ls2 bl2 tg2 aha2 nha2 cha2 xha2 ahb2 nhb2 chb2 xhb2 w htg htg2 hbq hW
  have hbq : niq ≤ 300 := by omega
  by_cases hlg : LargeP ni ns
  · exact wbackL_c sq qk aiq niq ciq lq fs mn pv ep kd ai ni ci l sa ns sc ls bl tg eq rq2 rk2 er2 aj2 nj2 cj2 lj2 th2 pv2 ep2 kd2 ai2 ni2 ci2 l2 sa2 ns2 sc2 ls2 bl2 tg2 aha2 nha2 cha2 xha2 ahb2 nhb2 chb2 xhb2 w htg htg2 hbq hlg hW
  by_cases hlp : LargeQ nj2 nha2 nhb2 ni2 ns2
  · exact wbackP_c sq qk aiq niq ciq lq fs mn pv ep kd ai ni ci l sa ns sc ls bl tg eq rq2 rk2 er2 aj2 nj2 cj2 lj2 th2 pv2 ep2 kd2 ai2 ni2 ci2 l2 sa2 ns2 sc2 ls2 bl2 tg2 aha2 nha2 cha2 xha2 ahb2 nhb2 chb2 xhb2 w htg htg2 hbq hlg hlp hW
  have h1 := large_not hlg
  have h2 := LargeQ.nz hlp
  exact wback_c sq qk aiq niq ciq lq fs mn pv ep kd ai ni ci l sa ns sc ls bl tg eq rq2 rk2 er2 aj2 nj2 cj2 lj2 th2 pv2 ep2 kd2 ai2 ni2 ci2 l2 sa2 ns2 sc2 ls2 bl2 tg2 aha2 nha2 cha2 xha2 ahb2 nhb2 chb2 xhb2 w hlq (by omega) hiq.1 hiq.2 hvq hl (by omega) hic.1 hic.2 hv hls (by omega) hsc.1 hsc.2 hs htg hlj2 (by omega) hij2.1 hij2.2 hj2 hl2 (by omega) hic2.1 hic2.2 hv2 hls2 (by omega) hsc2.1 hsc2.2 hs2 htg2 (by omega) (by omega) hiha2.1 hiha2.2 hrha2 (by omega) (by omega) hihb2.1 hihb2.2 hrhb2 hbq hlg hlp h1.1 h1.2 h2.1 h2.2.1 h2.2.2.2.1 h2.2.2.2.2.1 h2.2.2.2.2.2 hW
end Go.Proofs.YtkdpdgpphpngeaaDoor
