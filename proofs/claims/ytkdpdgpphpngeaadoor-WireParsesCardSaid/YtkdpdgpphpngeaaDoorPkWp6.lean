import Derived.ChangeArms
import Derived.JoinedOf
import Derived.SevenTiedAt
import Derived.Test.YtkdpdgpphpngeaaDoorPkWp5
set_option maxHeartbeats 8000000
set_option linter.unusedVariables false
set_option linter.unusedSimpArgs false
set_option maxRecDepth 100000
namespace Go.Proofs.YtkdpdgpphpngeaaDoor
open Go Go.Sx
open Go.Value renaming slice → SL
attribute [local irreducible] mid zr8 numK valK rvalK constL initL putL RightB tktT mayN idxT selT blankB spanB reqR plainV itB chB bB aB c1B c2B c3B c4B repR repT LargeQ eQ vQ tQ bQ sQ ixQ seQ fQ fN JL JC JQ DP Ev Ld MemAt Seg Step Cl RV Qok Cok
theorem bld31_01 {w : World} {v0 : Value} {v1 : Value} (h0 : v0.cells = [v0].toArray) (h1 : v1.cells = [v1].toArray) : (Instr.build 31 ([(0, v0), (1, v1)] : List (Nat × Value)).toArray).run Tryd.prog w = .ok (.agg ((((((([v0] : List Value) ++ ([v1] : List Value)) ++ ([.slice none 0 0] : List Value)) ++ ([U64 0] : List Value)) ++ ([I64 0] : List Value)) ++ ([U64 0, U64 0, I64 0, .slice none 0 0, .slice none 0 0, U64 0] ++ cu8 (zr8 16) : List Value)) ++ ([U64 0] : List Value)).toArray) w :=
 C8 (places := #[(0, 1), (1, 1), (2, 1), (3, 1), (4, 1), (5, 22), (27, 1)]) (Z := (([U64 0] : List Value) ++ (([I64 0] : List Value) ++ (([.slice none 0 0] : List Value) ++ (([U64 0] : List Value) ++ (([I64 0] : List Value) ++ (([U64 0, U64 0, I64 0, .slice none 0 0, .slice none 0 0, U64 0] ++ cu8 (zr8 16) : List Value) ++ (([U64 0] : List Value) ++ [])))))))) (fun _ => by kernel_rfl) Tryd.underlying31 (fun _ => by kernel_rfl) ((EI ([U64 0] : List Value) (([I64 0] : List Value) ++ (([.slice none 0 0] : List Value) ++ (([U64 0] : List Value) ++ (([I64 0] : List Value) ++ (([U64 0, U64 0, I64 0, .slice none 0 0, .slice none 0 0, U64 0] ++ cu8 (zr8 16) : List Value) ++ (([U64 0] : List Value) ++ [])))))) ([v0] : List Value) h0 (by simp [AN]) rfl).trans ((DL ([v0] : List Value) ([I64 0] : List Value) (([.slice none 0 0] : List Value) ++ (([U64 0] : List Value) ++ (([I64 0] : List Value) ++ (([U64 0, U64 0, I64 0, .slice none 0 0, .slice none 0 0, U64 0] ++ cu8 (zr8 16) : List Value) ++ (([U64 0] : List Value) ++ []))))) ([v1] : List Value) h1 (by simp [AN]) rfl).trans ((D0 (([v0] : List Value) ++ ([v1] : List Value)) ([.slice none 0 0] : List Value) (([U64 0] : List Value) ++ (([I64 0] : List Value) ++ (([U64 0, U64 0, I64 0, .slice none 0 0, .slice none 0 0, U64 0] ++ cu8 (zr8 16) : List Value) ++ (([U64 0] : List Value) ++ []))))).trans ((D0 ((([v0] : List Value) ++ ([v1] : List Value)) ++ ([.slice none 0 0] : List Value)) ([U64 0] : List Value) (([I64 0] : List Value) ++ (([U64 0, U64 0, I64 0, .slice none 0 0, .slice none 0 0, U64 0] ++ cu8 (zr8 16) : List Value) ++ (([U64 0] : List Value) ++ [])))).trans ((D0 (((([v0] : List Value) ++ ([v1] : List Value)) ++ ([.slice none 0 0] : List Value)) ++ ([U64 0] : List Value)) ([I64 0] : List Value) (([U64 0, U64 0, I64 0, .slice none 0 0, .slice none 0 0, U64 0] ++ cu8 (zr8 16) : List Value) ++ (([U64 0] : List Value) ++ []))).trans ((D0 ((((([v0] : List Value) ++ ([v1] : List Value)) ++ ([.slice none 0 0] : List Value)) ++ ([U64 0] : List Value)) ++ ([I64 0] : List Value)) ([U64 0, U64 0, I64 0, .slice none 0 0, .slice none 0 0, U64 0] ++ cu8 (zr8 16) : List Value) (([U64 0] : List Value) ++ [])).trans ((D0 (((((([v0] : List Value) ++ ([v1] : List Value)) ++ ([.slice none 0 0] : List Value)) ++ ([U64 0] : List Value)) ++ ([I64 0] : List Value)) ++ ([U64 0, U64 0, I64 0, .slice none 0 0, .slice none 0 0, U64 0] ++ cu8 (zr8 16) : List Value)) ([U64 0] : List Value) []).trans (by simp [Instr.fill]))))))))
theorem parq_c (ax : Option Addr) (n c : Nat) (z0 : List UInt8)  (w : World) (ha : ax.isNone = false) (hz : z0.length = n) (hn : n ≤ 2000000000) (hc : n ≤ c) (hcm : c ≤ maxLen) (hr : RdB w [] ax z0)  : Calls Tryd.prog 53 #[SL ax n c] w (Post w [] (fun v L => (∃ sq qk niq lq fs mn pv ep kd ni l ns ls bl tg eq g0 cs0 T0 a0 c0 g1 cs1 T1 a1 c1 g2 cs2 T2 a2 c2, GRq z0 sq qk lq fs mn pv ep kd l ls bl tg eq ∧ lq.length = niq ∧ l.length = ni ∧ ls.length = ns ∧ tg.length = 16 ∧ niq ≤ 256 ∧ ni ≤ 256 ∧ ns ≤ 256 ∧ v = .tuple #[.agg (V1 sq qk a0 niq c0 fs mn pv ep kd a1 ni c1 a2 ns c2 bl tg eq).toArray, .nilIface] ∧ L = [(Ez g0 cs0 T0), (Ez g1 cs1 T1), (Ez g2 cs2 T2)] ∧ Gh (cu64 lq) g0 cs0 a0 ∧ niq ≤ c0 ∧ c0 ≤ maxLen ∧ Gh (cu64 l) g1 cs1 a1 ∧ ni ≤ c1 ∧ c1 ≤ maxLen ∧ Gh (ls.flatMap sealC) g2 cs2 a2 ∧ ns ≤ c2 ∧ c2 ≤ maxLen) ∨ (BadRq z0 ∧ v = .tuple #[.agg (V5).toArray, .iface 50 (I64 2)] ∧ ∃ g0 cs0 T0 g1 cs1 T1 g2 cs2 T2, L = [(Ez g0 cs0 T0), (Ez g1 cs1 T1), (Ez g2 cs2 T2)]))) := by
 have hmx : maxLen = 9223372036854775807 := rfl
 have hk8 := E6 z0 8
 have hk9 := E6 z0 17
 have hk10 := E6 z0 21
 have hmQ : mQ z0 = (vQ z0 17 1).toNat + 1 := rfl
 refine enter w [] 67 [] [SL ax n c] Tryd.func53 rfl rfl ZM (A2 ZM ZM ZM) ?_
 show JC _ _ _ [_] _
 refine A4 (AO (AF (AS _ (V5) Tryd.zeroValue31 ZR) rfl ?_))
 rintro v1 L1 ⟨nb1, hnb1, rfl, rfl⟩
 show JL _ _ _ _ (_ :: _) [_]
 refine Z2 6 ?_
 refine AF (A5 59 _ _ (AH _ Tryd.call59 rfl) (fun w1 hw1 => fromQ_w ax n c z0 w1 ha hz ZO (hr.at (M' := []) hw1 ZM))) rfl ?_
 rintro v1 L1 ⟨_, ⟨nb2, nb3, sp1, cp1, rfl, rfl, hc1, hc2, hc3⟩, rfl⟩
 show JL _ _ _ _ (_ :: _) [_, _, _]
 refine Z2 6 ?_
 have hz1 : (z0).length = n := hz
 refine AF (BE 109 _ [false, true, false] [nb2] _ (AH _ CA rfl) rfl (fun w1 hw1 => EM nb2 0 8 (some ⟨nb3, 0, none⟩) n cp1 z0 z0 w1 (hw1.en 1 rfl) hz ZO ZO ZO ((fun _ _ h => h) _ _ (RdB.of hw1 (A0 2 rfl (AU (AG _))) (hw1.nm 2 1 rfl rfl ZD))) (Lq.zero z0) ZU)) rfl ?_
 rintro v1 L1 ⟨_, ⟨rfl, ao1, zz1, ca1, hq1, ⟨hA1, hb1, hb2, hb3⟩, rfl⟩, rfl⟩
 show JL _ _ _ _ (_ :: _) [_, _, _]
 refine Z2 1 ?_
 refine AF (BE 109 _ [false, false, true] [nb2] _ (AH _ CA rfl) rfl (fun w1 hw1 => EM nb2 8 1 ao1 zz1.length ca1 z0 zz1 w1 (hw1.en 2 rfl) rfl ZO ZO ZO (hA1 _ _ (RdB.of hw1 (A0 1 rfl (AU (AG _))) (hw1.nm 1 2 rfl rfl ZD))) hq1 ZU)) rfl ?_
 rintro v1 L1 ⟨_, ⟨rfl, ao2, zz2, ca2, hq2, ⟨hA2, hb4, hb5, hb6⟩, rfl⟩, rfl⟩
 show JL _ _ _ _ (_ :: _) [_, _, _]
 refine AE (I64 (((vQ z0 8 1).toNat:Int))) Ze rfl ?_
 refine AE (.agg (V1 (vQ z0 0 8) (((vQ z0 8 1).toNat:Int)) none 0 0 0 0 0 0 0 none 0 0 none 0 0 0 (zr8 16) 0).toArray) (DN [(0, U64 (vQ z0 0 8)), (1, I64 (((vQ z0 8 1).toNat:Int)))] _ rfl (fun _ => bld31_01 rfl rfl)) rfl ?_
 refine AF (AS _ (V5) Tryd.zeroValue31 ZR) rfl ?_
 rintro v1 L1 ⟨nb4, hnb4, rfl, rfl⟩
 show JL _ _ _ _ (_ :: _) [_, _, _, _]
 refine AC (AB 3 nb4 28 _ 31 (V1 (vQ z0 0 8) (((vQ z0 8 1).toNat:Int)) none 0 0 0 0 0 0 0 none 0 0 none 0 0 0 (zr8 16) 0) rfl rfl rfl C4 ZS (AQ (AQ ZC A6) ZC) ZS (AI ZS)) rfl ?_
 show JL _ _ _ _ _ [_, _, _, _]
 refine Z2 10 ?_
 refine AX _ rfl (fun hb7 => ?_) (fun hb7 => ?_)
 ·
  have hp7 := of_decide_eq_true hb7
  refine Z2 2 ?_
  refine AF (BE 60 _ [false, false, true, false] [nb2] _ (AH _ Tryd.call60 rfl) rfl (fun w1 hw1 => treadU_w nb2 9 ao2 zz2.length ca2 z0 zz2 w1 (hw1.en 2 rfl) rfl ZO ZO ZO ((fun w M h => hA2 w M (hA1 w M h)) _ _ (RdB.of hw1 (A0 1 rfl (AU (AG _))) (hw1.nm 1 2 rfl rfl ZD))) hq2)) rfl ?_
  rintro v1 L1 ⟨_, ⟨tv1, te1, tk1, tn1, tl1, tm1, ts1, tb1, tg1, tt1, tq1, ao3, zz3, ca3, ng1, cs1, nT1, na1, nc1, ng2, cs2, nT2, na2, nc2, hT1, hpq1, hc4, hc5, hc6, hc7, hc8, hq3, ⟨hA3, hb8, hb9, hb10⟩, rfl, rfl, hc9, hc10, hc11, hc12, hc13, hc14⟩, rfl⟩
  show JL _ _ _ _ (_ :: _) [_, _, _, _, _, _]
  refine Z2 1 ?_
  refine AC (BT 2 nb4 5 22 _ 31 (.agg (V2 tv1 te1 (tk1) na1 tn1 nc1 na2 tm1 nc2 tb1 tg1).toArray) (V2 tv1 te1 (tk1) na1 tn1 nc1 na2 tm1 nc2 tb1 tg1) (V1 (vQ z0 0 8) (((vQ z0 8 1).toNat:Int)) none 0 0 0 0 tv1 te1 (tk1) na1 tn1 nc1 na2 tm1 nc2 tb1 tg1 0) rfl rfl rfl (by first | rfl | simp) BH (by simp [hc6]) (AQ ZC A6) ZS (FL (a := [U64 (vQ z0 0 8), I64 (((vQ z0 8 1).toNat:Int)), SL none 0 0, U64 0, I64 0]) (b := V4) (c := [U64 0]) (by simp only [List.append_assoc, List.cons_append, List.nil_append, List.append_nil]) (by simp [(AN 16), hc6]) (by simp [(AN 16), hc6]) (by simp only [List.append_assoc, List.cons_append, List.nil_append, List.append_nil]))) rfl ?_
  show JL _ _ _ _ _ [_, _, _, _, _, _]
  refine Z2 16 ?_
  refine AY _ rfl (decide_eq_false (by have h9 := of_decide_eq_true hb7; omega)) ?_
  refine Z2 6 ?_
  refine AY _ rfl (decide_eq_false (by have h9 := of_decide_eq_true hb7; omega)) ?_
  refine Z2 7 ?_
  refine AC (AJ 63 _ (errV 50 (endN (eQ z0 tq1) zz3.length)) (AH _ DF rfl) (fun w1 hw1 => end_w nb2 (eQ z0 tq1) ao3 zz3.length ca3 w1 (RdA.of hw1 (A0 3 rfl (AG _)) ZM))) rfl ?_
  show JL _ _ _ _ (_ :: _) [_, _, _, _, _, _]
  refine AE (.bool (!(decide (endN (eQ z0 tq1) zz3.length = 0)))) (CG _ _ _ rfl rfl (fun _ => BL ..) fun _ => CW AV _ _) rfl ?_
  refine Z2 1 ?_
  rcases Bool.eq_false_or_eq_true (decide (endN (eQ z0 tq1) zz3.length = 0)) with hb11 | hb11
  ·
   have hp11 := of_decide_eq_true hb11
   refine Z2 1 ?_
   refine B6 3 59 false _ rfl rfl (bnotT hb11) (AJ 22 _ (.bool (reqR (((vQ z0 8 1).toNat:Int)) ([] : List UInt64) (0:UInt64) (0:Int) (0:UInt64) (blankB tv1 te1 (tk1) tl1 ts1 tb1 tg1) (decide (mayN tv1 te1 (tk1) tl1 ts1 tb1 = 0)))) (AH _ Tryd.call22 rfl) (fun w1 hw1 => rightReq_c (vQ z0 0 8) (((vQ z0 8 1).toNat:Int)) none 0 0 ([] : List UInt64) (0:UInt64) (0:Int) tv1 te1 (tk1) na1 tn1 nc1 tl1 na2 tm1 nc2 ts1 tb1 tg1 (0:UInt64) w1 rfl ZO ZO ZO RdV.nil hc4 ZO ZO ZO (Gh.at hw1 4 rfl hc9) hc5 ZO ZO ZO (Gh.at hw1 5 rfl hc12) hc6 ZO ZO)) rfl ?_
   rintro v1 L1 ⟨rfl, rfl⟩
   show JL _ _ _ _ (_ :: _) [_, _, _, _, _, _]
   refine Z2 4 ?_
   refine AX _ rfl (fun hb12 => ?_) (fun hb12 => ?_)
   ·
    have hb13 : (reqR (((vQ z0 8 1).toNat:Int)) ([] : List UInt64) (0:UInt64) (0:Int) (0:UInt64) (blankB tv1 te1 (tk1) tl1 ts1 tb1 tg1) (decide (mayN tv1 te1 (tk1) tl1 ts1 tb1 = 0))) = false := by simpa using hb12
    refine A4 (AO (AE (.agg (V5).toArray) Ze rfl ?_))
    refine Z2 1 ?_
    refine AC (AB 0 nb1 28 _ 31 (V5) rfl rfl rfl C4 ZS (AQ (AQ ZC A6) ZC) ZS (AI ZS)) rfl ?_
    show JL _ _ _ _ _ [_, _, _, _, _, _]
    refine Z2 5 ?_
    refine Z1 fun w1 hw1 => ?_
    have hR := RqR.k3 (kQT (k := 3) ZD hb7) hT1
    have he : tq1 = z0.length := (E4 hq3).1 (by have h9 := of_decide_eq_true hb11; omega)
    exact ⟨_, _, rfl, .inr ⟨BadRq.of hR (fun _ => hb13), rfl, _, _, _, _, _, _, _, _, _, rfl⟩, CS hw1 0 3 2 rfl rfl rfl ZD ZD ZD⟩
   have hb14 : (reqR (((vQ z0 8 1).toNat:Int)) ([] : List UInt64) (0:UInt64) (0:Int) (0:UInt64) (blankB tv1 te1 (tk1) tl1 ts1 tb1 tg1) (decide (mayN tv1 te1 (tk1) tl1 ts1 tb1 = 0))) = true := by simpa using hb12
   refine Z2 5 ?_
   refine AC (AB 0 nb1 28 _ 31 (V1 (vQ z0 0 8) (((vQ z0 8 1).toNat:Int)) none 0 0 0 0 tv1 te1 (tk1) na1 tn1 nc1 na2 tm1 nc2 tb1 tg1 0) rfl rfl rfl C4 (by simp [hc6]) (AQ (AQ ZC A6) ZC) ZS (AI (by simp [(AN 16), hc6]))) rfl ?_
   show JL _ _ _ _ _ [_, _, _, _, _, _]
   refine Z2 4 ?_
   refine Z1 fun w1 hw1 => ?_
   have hR := RqR.k3 (kQT (k := 3) ZD hb7) hT1
   have he : tq1 = z0.length := (E4 hq3).1 (by have h9 := of_decide_eq_true hb11; omega)
   have hz9 : 9 + tt1 = z0.length := by omega
   rw [hz9] at hR
   exact ⟨_, _, rfl, .inl ⟨_, _, 0, _, _, _, _, _, _, tn1, _, tm1, _, _, _, _, _, _, _, none, 0, _, _, _, na1, nc1, _, _, _, na2, nc2, ⟨hR, hb14⟩, rfl, hc4, hc5, hc6, ZO, hc7, hc8, rfl, rfl, .inl rfl, by first | omega | (unfold maxLen; omega), by first | omega | (unfold maxLen; omega), hc9, by first | omega | (unfold maxLen; omega), by first | omega | (unfold maxLen; omega), hc12, by first | omega | (unfold maxLen; omega), by first | omega | (unfold maxLen; omega)⟩, CS hw1 3 4 5 rfl rfl rfl ZD ZD ZD⟩
  have hp11 := of_decide_eq_false hb11
  refine Z2 6 ?_
  refine A7 _ rfl rfl ?_
  refine A4 (AO (AE (.agg (V5).toArray) Ze rfl ?_))
  refine Z2 1 ?_
  refine AC (AB 0 nb1 28 _ 31 (V5) rfl rfl rfl C4 ZS (AQ (AQ ZC A6) ZC) ZS (AI ZS)) rfl ?_
  show JL _ _ _ _ _ [_, _, _, _, _, _]
  refine Z2 5 ?_
  refine Z1 fun w1 hw1 => ?_
  have hR := RqR.k3 (kQT (k := 3) ZD hb7) hT1
  have hne : tq1 ≠ z0.length := fun e => (of_decide_eq_false hb11) ((E4 hq3).2 e)
  exact ⟨_, _, rfl, .inr ⟨BadRq.of hR (fun e => absurd e ZO), rfl, _, _, _, _, _, _, _, _, _, rfl⟩, CS hw1 0 3 2 rfl rfl rfl ZD ZD ZD⟩
 have hp7 := of_decide_eq_false hb7
 refine Z2 2 ?_
 refine AF (BE 109 _ [false, false, true, false] [nb2] _ (AH _ CA rfl) rfl (fun w1 hw1 => EM nb2 9 8 ao2 zz2.length ca2 z0 zz2 w1 (hw1.en 2 rfl) rfl ZO ZO ZO ((fun w M h => hA2 w M (hA1 w M h)) _ _ (RdB.of hw1 (A0 1 rfl (AU (AG _))) (hw1.nm 1 2 rfl rfl ZD))) hq2 ZU)) rfl ?_
 rintro v1 L1 ⟨_, ⟨rfl, ao4, zz4, ca4, hq4, ⟨hA4, hb15, hb16, hb17⟩, rfl⟩, rfl⟩
 show JL _ _ _ _ (_ :: _) [_, _, _, _]
 refine Z2 1 ?_
 refine AC (BT 2 nb4 27 1 _ 31 (U64 (vQ z0 9 8)) ([U64 (vQ z0 9 8)]) (V1 (vQ z0 0 8) (((vQ z0 8 1).toNat:Int)) none 0 0 0 0 0 0 0 none 0 0 none 0 0 0 (zr8 16) (vQ z0 9 8)) rfl rfl rfl rfl BJ rfl ZC ZS (DB 27 0 ZS rfl (AI ZM))) rfl ?_
 show JL _ _ _ _ _ [_, _, _, _]
 refine Z2 16 ?_
 refine AX _ rfl (fun hb18 => ?_) (fun hb18 => ?_)
 ·
  have hp18 := of_decide_eq_true hb18
  refine Z2 3 ?_
  refine AF (BE 109 _ [false, false, false, true] [nb2] _ (AH _ CA rfl) rfl (fun w1 hw1 => EM nb2 17 1 ao4 zz4.length ca4 z0 zz4 w1 (hw1.en 3 rfl) rfl ZO ZO ZO ((fun w M h => hA4 w M (hA2 w M (hA1 w M h))) _ _ (RdB.of hw1 (A0 1 rfl (AU (AG _))) (hw1.nm 1 3 rfl rfl ZD))) hq4 ZU)) rfl ?_
  rintro v1 L1 ⟨_, ⟨rfl, ao5, zz5, ca5, hq5, ⟨hA5, hb19, hb20, hb21⟩, rfl⟩, rfl⟩
  show JL _ _ _ _ (_ :: _) [_, _, _, _]
  refine AE (I64 (((vQ z0 17 1).toNat:Int))) Ze rfl ?_
  refine AE (I64 (((vQ z0 17 1).toNat:Int) + 1)) (AT rfl rfl fun _ => BR _ _ (((vQ z0 17 1).toNat:Int) + 1) ZO ZO) rfl ?_
  refine Z2 4 ?_
  obtain ⟨m, hm1, hm2, hm3⟩ := minQ hq5
  refine Z2 3 ?_
  refine AC (AJ 61 _ (I64 ((leftN (eQ z0 18) zz5.length:Int))) (AH _ C7 rfl) (fun w1 hw1 => left_w nb2 (eQ z0 18) ao5 zz5.length ca5 w1 (RdA.of hw1 (A0 3 rfl (AG _)) ZM))) rfl ?_
  show JL _ _ _ _ (_ :: _) [_, _, _, _]
  refine AE (I64 m) (Ev_min rfl rfl hm1) rfl ?_
  refine Z2 4 ?_
  refine JC_pick [0, 3, 1, 2] ZD ?_
  show JC _ _ _ _ [_, _, _, _]
  refine C3 (ι := (Unit) ⊕ (Nat × List UInt64 × Nat × List Value × Nat × Option Addr × List UInt8 × Nat)) (fun x => match x with | .inl _ => [(2, Ptr nb1 0), (3, .nilIface), (4, Ptr nb2 0), (5, Ptr nb4 0), (35, I64 m), (36, I64 0)] | .inr ⟨i, ll, gb, sp, cp, aa, zz, cc⟩ => [(2, Ptr nb1 0), (3, .nilIface), (4, Ptr nb2 0), (5, Ptr nb4 0), (35, I64 m), (36, I64 i)]) (fun x => match x with | .inl _ => [(Ez nb1 (V5) 31), (Ez nb2 [errV 50 (eQ z0 18), SL ao5 zz5.length ca5] 204), (Ez nb3 (cu8 z0 ++ sp1) 5), (Ez nb4 (V1 (vQ z0 0 8) (((vQ z0 8 1).toNat:Int)) none 0 0 0 0 0 0 0 none 0 0 none 0 0 0 (zr8 16) (vQ z0 9 8)) 31)] | .inr ⟨i, ll, gb, sp, cp, aa, zz, cc⟩ => [(Ez nb1 (V5) 31), (Ez nb2 [errV 50 (eQ z0 (4*i + 18)), SL aa zz.length cc] 204), (Ez nb3 (cu8 z0 ++ sp1) 5), (Ez nb4 ([U64 (vQ z0 0 8), I64 (((vQ z0 8 1).toNat:Int)), Slc gb 0 i cp, U64 0, I64 0, U64 0, U64 0, I64 0, SL none 0 0, SL none 0 0, U64 0] ++ cu8 (zr8 16) ++ [U64 (vQ z0 9 8)]) 31), (Ez gb (cu64 ll ++ sp) 22)]) (fun x => match x with | .inl _ => True | .inr ⟨i, ll, gb, sp, cp, aa, zz, cc⟩ => 0 < i ∧ i ≤ m ∧ ll = ixQ z0 18 i ∧ ll.length = i ∧ sp.length = cp - i ∧ i ≤ cp ∧ cp ≤ maxLen ∧ Lq z0 zz (4*i + 18) ∧ (∀ w M, RdB w M (some ⟨nb3, 0, none⟩) z0 → RdB w M aa zz) ∧ zz.length ≤ cc ∧ cc ≤ maxLen ∧ zz.length ≤ n) (fun x => match x with | .inl _ => m + 2 | .inr ⟨i, ll, gb, sp, cp, aa, zz, cc⟩ => m + 1 - i) (.inl ()) trivial (Sub.all rfl) rfl ?_
  rintro (_ | ⟨i, ll, gb, sp, cp, aa, zz, cc⟩) hx
  ·
   obtain _ := hx
   show JC _ _ _ [_, _, _, _, _, _] [_, _, _, _]
   refine Z2 6 ?_
   refine AX _ rfl (fun hb22 => ?_) (fun hb22 => ?_)
   ·
    have hp22 := of_decide_eq_true hb22
    refine CY (AK (A4 (JC_block (Z8 67 5 [(0, Ptr nb4 2), (1, SL none 0 0), (2, Ptr nb2 0)] ?_))))
    refine Z7 ⟨[], [0, 1, 2], [], [0, 1, 2], [3]⟩ 3 (AL rfl (BE 109 _ [false, true, false, false] [nb2] _ (AH _ CA rfl) rfl (fun w1 hw1 => EM nb2 18 4 ao5 zz5.length ca5 z0 zz5 w1 (hw1.en 1 rfl) rfl ZO ZO ZO ((fun w M h => hA5 w M (hA4 w M (hA2 w M (hA1 w M h)))) _ _ (RdB.of hw1 (A0 2 rfl (AU (AG _))) (hw1.nm 2 1 rfl rfl ZD))) hq5 ZU))) ?_
    rintro v1 L1 ⟨_, ⟨rfl, ao6, zz6, ca6, hq6, ⟨hA6, hb23, hb24, hb25⟩, rfl⟩, rfl⟩
    refine ⟨[], ?_⟩
    show DP _ _ _ _ _ _ _ _ [_, _, _, _]
    refine Z7 ⟨[3], [0, 1, 2], [2], [0, 1], [4]⟩ 4 (AL rfl (BF 22 1 _ [(0, U64 (vQ z0 18 4))] ([U64 (vQ z0 18 4)]) BB BJ Tryd.zeroValue22 rfl rfl rfl ZR)) ?_
    rintro v1 L1 ⟨nb5, hnb5, rfl, rfl⟩
    refine ⟨[], ?_⟩
    show DP _ _ _ _ _ _ _ _ [_, _, _, _, _]
    refine Z7 ⟨[3, 4], [0, 1, 2], [2], [0, 1], [5]⟩ 5 (AL rfl (E9 23 22 [false, false, false, false, false] (SL none 0 0) 0 ([] : List UInt64) ([vQ z0 18 4]) (some ⟨nb5, 0, none⟩) 1 1 1 BB E8 rfl (.inl ⟨rfl, rfl, rfl, rfl, ZO⟩) rfl ZM (SrcAt.mem (A0 4 rfl (Seg.head))) ZO ZX ZO)) ?_
    rintro v1 L1 ⟨nb6, sp2, cp2, hg1, rfl, rfl, ha1, ha2, ha3, ha4⟩
    refine ⟨[(6, Ptr nb4 2)], ?_⟩
    show DP _ _ _ _ _ _ _ _ [_, _, _, _, _, _]
    refine Z6 ⟨[3, 4, 5], [0, 1, 2, 6], [0, 1, 2], [6], [7]⟩ 7 (AL rfl ZW) ?_
    show DP _ _ _ _ _ _ _ _ [_, _, _, _, _, _]
    refine Z5 ⟨[3, 4, 5, 7], [0, 1, 2, 6], [0, 1, 2, 6], [], []⟩ ?_
    refine A9 (F' := [(38, Ptr nb4 2), (39, SL none 0 0), (40, Ptr nb2 0), (41, U64 (vQ z0 18 4)), (42, Slc nb5 0 1 1), (43, Slc nb6 0 1 cp2), (44, Ptr nb4 2), (2, Ptr nb1 0), (3, .nilIface), (4, Ptr nb2 0), (5, Ptr nb4 0), (35, I64 m), (36, I64 0), (37, .bool (decide ((0:Int) < ((m:Int)))))]) ZR ?_
    refine DH (AK (AO (AE (I64 1) (AT rfl rfl fun _ => BR _ _ (1:Int) ZO ZO) rfl ?_)))
    refine Z2 2 ?_
    refine B5 (D7 [true, true, true, true, false, true] ?_)
    show K _ _ [_, _, _, _, _] _
    refine K_pick [0, 3, 1, 2, 4] ZD ?_
    show K _ _ [_, _, _, _, _] _
    refine C1 (.inr (1, ([] : List UInt64) ++ ([vQ z0 18 4]), nb6, sp2, cp2, ao6, zz6, ca6)) ⟨ZO, ZO, by rw [ixQ_one]; rfl, (ha1).trans (by first | rfl | simp +arith), (ha2).trans (by first | rfl | omega), ZO, ZO, hq6, (fun w M h => hA6 w M (hA5 w M (hA4 w M (hA2 w M (hA1 w M h))))), ZO, ZO, ZO⟩ (by dsimp only; omega) (Sub.all rfl) rfl
   have hp22 := of_decide_eq_false hb22
   refine Z2 10 ?_
   refine AC (AJ 63 _ (errV 50 (endN (eQ z0 18) zz5.length)) (AH _ DF rfl) (fun w1 hw1 => end_w nb2 (eQ z0 18) ao5 zz5.length ca5 w1 (RdA.of hw1 (A0 1 rfl (AG _)) ZM))) rfl ?_
   show JL _ _ _ _ (_ :: _) [_, _, _, _]
   refine AE (.bool (!(decide (endN (eQ z0 18) zz5.length = 0)))) (CG _ _ _ rfl rfl (fun _ => BL ..) fun _ => CW AV _ _) rfl ?_
   refine Z2 1 ?_
   rcases Bool.eq_false_or_eq_true (decide (endN (eQ z0 18) zz5.length = 0)) with hb26 | hb26
   ·
    have hp26 := of_decide_eq_true hb26
    refine Z2 1 ?_
    refine B6 3 59 false _ rfl rfl (bnotT hb26) (AJ 22 _ (.bool (reqR (((vQ z0 8 1).toNat:Int)) ([] : List UInt64) (0:UInt64) (0:Int) (vQ z0 9 8) (blankB (0:UInt64) (0:UInt64) (0:Int) ([] : List UInt64) ([] : List SealR) (0:UInt64) (zr8 16)) (decide (mayN (0:UInt64) (0:UInt64) (0:Int) ([] : List UInt64) ([] : List SealR) (0:UInt64) = 0)))) (AH _ Tryd.call22 rfl) (fun w1 hw1 => rightReq_c (vQ z0 0 8) (((vQ z0 8 1).toNat:Int)) none 0 0 ([] : List UInt64) (0:UInt64) (0:Int) (0:UInt64) (0:UInt64) (0:Int) none 0 0 ([] : List UInt64) none 0 0 ([] : List SealR) (0:UInt64) (zr8 16) (vQ z0 9 8) w1 rfl ZO ZO ZO RdV.nil rfl ZO ZO ZO RdV.nil rfl ZO ZO ZO RdV.nil (AN 16) ZO ZO)) rfl ?_
    rintro v1 L1 ⟨rfl, rfl⟩
    show JL _ _ _ _ (_ :: _) [_, _, _, _]
    refine Z2 4 ?_
    refine A7 _ rfl (bnotF (by rw [show ((vQ z0 8 1).toNat:Int) = (1:Int) from of_decide_eq_true hb18]; exact reqR_nil)) ?_
    refine A4 (AO (AE (.agg (V5).toArray) Ze rfl ?_))
    refine Z2 1 ?_
    refine AC (AB 0 nb1 28 _ 31 (V5) rfl rfl rfl C4 ZS (AQ (AQ ZC A6) ZC) ZS (AI ZS)) rfl ?_
    show JL _ _ _ _ _ [_, _, _, _]
    refine Z2 5 ?_
    refine Z1 fun w1 hw1 => ?_
    have hR := RqR.k1 (kQT (k := 1) ZD hb18)
    have he : 18 = z0.length := (E4 hq5).1 (by have h9 := of_decide_eq_true hb26; omega)
    exact ⟨_, _, rfl, .inr ⟨BadRq.of hR (fun e => absurd e (by have h8 := mQ_eq z0; omega)), rfl, _, _, _, _, _, _, _, _, _, rfl⟩, CS hw1 0 1 3 rfl rfl rfl ZD ZD ZD⟩
   have hp26 := of_decide_eq_false hb26
   refine Z2 6 ?_
   refine A7 _ rfl rfl ?_
   refine A4 (AO (AE (.agg (V5).toArray) Ze rfl ?_))
   refine Z2 1 ?_
   refine AC (AB 0 nb1 28 _ 31 (V5) rfl rfl rfl C4 ZS (AQ (AQ ZC A6) ZC) ZS (AI ZS)) rfl ?_
   show JL _ _ _ _ _ [_, _, _, _]
   refine Z2 5 ?_
   refine Z1 fun w1 hw1 => ?_
   have hR := RqR.k1 (kQT (k := 1) ZD hb18)
   have hne : 18 ≠ z0.length := fun e => (of_decide_eq_false hb26) ((E4 hq5).2 e)
   exact ⟨_, _, rfl, .inr ⟨BadRq.of hR (fun e => absurd e (by have h8 := mQ_eq z0; omega)), rfl, _, _, _, _, _, _, _, _, _, rfl⟩, CS hw1 0 1 3 rfl rfl rfl ZD ZD ZD⟩
  obtain ⟨hi1, hi2, hi3, hi4, hi5, hi6, hi7, hi8, hi9, hi10, hi11, hi12⟩ := hx
  show JC _ _ _ [_, _, _, _, _, _] [_, _, _, _, _]
  refine Z2 6 ?_
  refine AX _ rfl (fun hb27 => ?_) (fun hb27 => ?_)
  ·
   have hp27 := of_decide_eq_true hb27
   refine CY (AK (A4 (JC_block (Z8 67 5 [(0, Ptr nb4 2), (1, Slc gb 0 i cp), (2, Ptr nb2 0)] ?_))))
   refine Z7 ⟨[], [0, 1, 2], [], [0, 1, 2], [3]⟩ 3 (AL rfl (BE 109 _ [false, true, false, false, false] [nb2] _ (AH _ CA rfl) rfl (fun w1 hw1 => EM nb2 (4*i + 18) 4 aa zz.length cc z0 zz w1 (hw1.en 1 rfl) rfl ZO ZO ZO (hi9 _ _ (RdB.of hw1 (A0 2 rfl (AU (AG _))) (hw1.nm 2 1 rfl rfl ZD))) hi8 ZU))) ?_
   rintro v1 L1 ⟨_, ⟨rfl, ao7, zz7, ca7, hq7, ⟨hA7, hb28, hb29, hb30⟩, rfl⟩, rfl⟩
   refine ⟨[], ?_⟩
   show DP _ _ _ _ _ _ _ _ [_, _, _, _, _]
   refine Z7 ⟨[3], [0, 1, 2], [2], [0, 1], [4]⟩ 4 (AL rfl (BF 22 1 _ [(0, U64 (vQ z0 (4*i + 18) 4))] ([U64 (vQ z0 (4*i + 18) 4)]) BB BJ Tryd.zeroValue22 rfl rfl rfl ZR)) ?_
   rintro v1 L1 ⟨nb7, hnb7, rfl, rfl⟩
   refine ⟨[], ?_⟩
   show DP _ _ _ _ _ _ _ _ [_, _, _, _, _, _]
   refine Z7 ⟨[3, 4], [0, 1, 2], [2], [0, 1], [5]⟩ 5 (AL rfl (E9 23 22 [false, false, false, true, false, false] (Slc gb 0 i cp) i ll ([vQ z0 (4*i + 18) 4]) (some ⟨nb7, 0, none⟩) 1 1 (i + 1) BB E8 rfl (.inr ⟨gb, sp, cp, rfl, rfl, (by first | exact hi4 | simp [hi4]), hi5, ZO, ZO⟩) rfl ZM (SrcAt.mem (A0 5 rfl (Seg.head))) ZO ZX ZO)) ?_
   rintro v1 L1 ⟨nb8, sp3, cp3, hg2, rfl, rfl, ha5, ha6, ha7, ha8⟩
   refine ⟨[(6, Ptr nb4 2)], ?_⟩
   show DP _ _ _ _ _ _ _ _ [_, _, _, _, _, _]
   refine Z6 ⟨[3, 4, 5], [0, 1, 2, 6], [0, 1, 2], [6], [7]⟩ 7 (AL rfl ZW) ?_
   show DP _ _ _ _ _ _ _ _ [_, _, _, _, _, _]
   refine Z5 ⟨[3, 4, 5, 7], [0, 1, 2, 6], [0, 1, 2, 6], [], []⟩ ?_
   refine A9 (F' := [(38, Ptr nb4 2), (39, Slc gb 0 i cp), (40, Ptr nb2 0), (41, U64 (vQ z0 (4*i + 18) 4)), (42, Slc nb7 0 1 1), (43, Slc nb8 0 (i + 1) cp3), (44, Ptr nb4 2), (2, Ptr nb1 0), (3, .nilIface), (4, Ptr nb2 0), (5, Ptr nb4 0), (35, I64 m), (36, I64 i), (37, .bool (decide (((i:Int)) < ((m:Int)))))]) ZR ?_
   refine DH (AK (AO (AE (I64 ((i:Int) + 1)) (AT rfl rfl fun _ => BR _ _ ((i:Int) + 1) ZO ZO) rfl ?_)))
   refine Z2 2 ?_
   refine B5 (D7 [true, true, true, true, false, true] ?_)
   show K _ _ [_, _, _, _, _] _
   refine K_pick [0, 3, 1, 2, 4] ZD ?_
   show K _ _ [_, _, _, _, _] _
   refine C1 (.inr (i + 1, ll ++ ([vQ z0 (4*i + 18) 4]), nb8, sp3, cp3, ao7, zz7, ca7)) ⟨ZO, ZO, by rw [ixQ_succ, ← hi3, Nat.add_comm 18 (4*i)], (ha5).trans (by first | rfl | simp +arith), (ha6).trans (by first | rfl | omega), ZO, ZO, hq7, (fun w M h => hA7 w M (hi9 w M h)), ZO, ZO, ZO⟩ (by dsimp only; omega) (Sub.all rfl) rfl
  have hp27 := of_decide_eq_false hb27
  refine Z2 8 ?_
  have ei : m = i := by omega
  subst ei
  subst hi3
  show JC _ _ _ _ [_, _, _, _, _]
  refine Z2 2 ?_
  refine AC (AJ 63 _ (errV 50 (endN (eQ z0 (4*m + 18)) zz.length)) (AH _ DF rfl) (fun w1 hw1 => end_w nb2 (eQ z0 (4*m + 18)) aa zz.length cc w1 (RdA.of hw1 (A0 1 rfl (AG _)) ZM))) rfl ?_
  show JL _ _ _ _ (_ :: _) [_, _, _, _, _]
  refine AE (.bool (!(decide (endN (eQ z0 (4*m + 18)) zz.length = 0)))) (CG _ _ _ rfl rfl (fun _ => BL ..) fun _ => CW AV _ _) rfl ?_
  refine Z2 1 ?_
  rcases Bool.eq_false_or_eq_true (decide (endN (eQ z0 (4*m + 18)) zz.length = 0)) with hb31 | hb31
  ·
   have hp31 := of_decide_eq_true hb31
   refine Z2 1 ?_
   refine B6 3 59 false _ rfl rfl (bnotT hb31) (AJ 22 _ (.bool (reqR (((vQ z0 8 1).toNat:Int)) (ixQ z0 18 m) (0:UInt64) (0:Int) (vQ z0 9 8) (blankB (0:UInt64) (0:UInt64) (0:Int) ([] : List UInt64) ([] : List SealR) (0:UInt64) (zr8 16)) (decide (mayN (0:UInt64) (0:UInt64) (0:Int) ([] : List UInt64) ([] : List SealR) (0:UInt64) = 0)))) (AH _ Tryd.call22 rfl) (fun w1 hw1 => rightReq_c (vQ z0 0 8) (((vQ z0 8 1).toNat:Int)) (some ⟨gb, 0, none⟩) m cp (ixQ z0 18 m) (0:UInt64) (0:Int) (0:UInt64) (0:UInt64) (0:Int) none 0 0 ([] : List UInt64) none 0 0 ([] : List SealR) (0:UInt64) (zr8 16) (vQ z0 9 8) w1 (E7 _ _ _) ZO ZO ZO (RdV.of hw1 (A0 4 rfl (AU (AG _)))) rfl ZO ZO ZO RdV.nil rfl ZO ZO ZO RdV.nil (AN 16) ZO ZO)) rfl ?_
   rintro v1 L1 ⟨rfl, rfl⟩
   show JL _ _ _ _ (_ :: _) [_, _, _, _, _]
   refine Z2 4 ?_
   refine AX _ rfl (fun hb32 => ?_) (fun hb32 => ?_)
   ·
    have hb33 : (reqR (((vQ z0 8 1).toNat:Int)) (ixQ z0 18 m) (0:UInt64) (0:Int) (vQ z0 9 8) (blankB (0:UInt64) (0:UInt64) (0:Int) ([] : List UInt64) ([] : List SealR) (0:UInt64) (zr8 16)) (decide (mayN (0:UInt64) (0:UInt64) (0:Int) ([] : List UInt64) ([] : List SealR) (0:UInt64) = 0))) = false := by simpa using hb32
    refine A4 (AO (AE (.agg (V5).toArray) Ze rfl ?_))
    refine Z2 1 ?_
    refine AC (AB 0 nb1 28 _ 31 (V5) rfl rfl rfl C4 ZS (AQ (AQ ZC A6) ZC) ZS (AI ZS)) rfl ?_
    show JL _ _ _ _ _ [_, _, _, _, _]
    refine Z2 5 ?_
    refine Z1 fun w1 hw1 => ?_
    have hR := RqR.k1 (kQT (k := 1) ZD hb18)
    have he : 4*m + 18 = z0.length := (E4 hi8).1 (by have h9 := of_decide_eq_true hb31; omega)
    obtain rfl : m = mQ z0 := by omega
    exact ⟨_, _, rfl, .inr ⟨BadRq.of hR (fun _ => hb33), rfl, _, _, _, _, _, _, _, _, _, rfl⟩, CS hw1 0 1 3 rfl rfl rfl ZD ZD ZD⟩
   have hb34 : (reqR (((vQ z0 8 1).toNat:Int)) (ixQ z0 18 m) (0:UInt64) (0:Int) (vQ z0 9 8) (blankB (0:UInt64) (0:UInt64) (0:Int) ([] : List UInt64) ([] : List SealR) (0:UInt64) (zr8 16)) (decide (mayN (0:UInt64) (0:UInt64) (0:Int) ([] : List UInt64) ([] : List SealR) (0:UInt64) = 0))) = true := by simpa using hb32
   refine Z2 5 ?_
   refine AC (AB 0 nb1 28 _ 31 ([U64 (vQ z0 0 8), I64 (((vQ z0 8 1).toNat:Int)), Slc gb 0 m cp, U64 0, I64 0, U64 0, U64 0, I64 0, SL none 0 0, SL none 0 0, U64 0] ++ cu8 (zr8 16) ++ [U64 (vQ z0 9 8)]) rfl rfl rfl C4 ZS (AQ (AQ ZC A6) ZC) ZS (AI ZS)) rfl ?_
   show JL _ _ _ _ _ [_, _, _, _, _]
   refine Z2 4 ?_
   refine Z1 fun w1 hw1 => ?_
   have hR := RqR.k1 (kQT (k := 1) ZD hb18)
   have he : 4*m + 18 = z0.length := (E4 hi8).1 (by have h9 := of_decide_eq_true hb31; omega)
   obtain rfl : m = mQ z0 := by omega
   have hz9 : 4*mQ z0 + 18 = z0.length := by omega
   rw [hz9] at hR
   exact ⟨_, _, rfl, .inl ⟨_, _, (mQ z0), _, _, _, _, _, _, 0, _, 0, _, _, _, _, _, _, _, (some ⟨gb, 0, none⟩), cp, _, _, _, none, 0, _, _, _, none, 0, ⟨hR, hb34⟩, (E7 _ _ _), rfl, rfl, (AN 16), (mQ_le z0), ZO, ZO, rfl, rfl, .inr ⟨rfl, _, rfl⟩, by first | omega | (unfold maxLen; omega), by first | omega | (unfold maxLen; omega), .inl rfl, by first | omega | (unfold maxLen; omega), by first | omega | (unfold maxLen; omega), .inl rfl, by first | omega | (unfold maxLen; omega), by first | omega | (unfold maxLen; omega)⟩, CS hw1 4 3 1 rfl rfl rfl ZD ZD ZD⟩
  have hp31 := of_decide_eq_false hb31
  refine Z2 6 ?_
  refine A7 _ rfl rfl ?_
  refine A4 (AO (AE (.agg (V5).toArray) Ze rfl ?_))
  refine Z2 1 ?_
  refine AC (AB 0 nb1 28 _ 31 (V5) rfl rfl rfl C4 ZS (AQ (AQ ZC A6) ZC) ZS (AI ZS)) rfl ?_
  show JL _ _ _ _ _ [_, _, _, _, _]
  refine Z2 5 ?_
  refine Z1 fun w1 hw1 => ?_
  have hR := RqR.k1 (kQT (k := 1) ZD hb18)
  have hne : 4*m + 18 ≠ z0.length := fun e => (of_decide_eq_false hb31) ((E4 hi8).2 e)
  exact ⟨_, _, rfl, .inr ⟨BadRq.of hR (fun e => absurd e (by have h8 := mQ_eq z0; omega)), rfl, _, _, _, _, _, _, _, _, _, rfl⟩, CS hw1 0 1 3 rfl rfl rfl ZD ZD ZD⟩
 have hp18 := of_decide_eq_false hb18
 refine Z2 6 ?_
 refine AX _ rfl (fun hb35 => ?_) (fun hb35 => ?_)
 ·
  have hp35 := of_decide_eq_true hb35
  refine Z2 3 ?_
  refine AF (BE 109 _ [false, false, false, true] [nb2] _ (AH _ CA rfl) rfl (fun w1 hw1 => EM nb2 17 4 ao4 zz4.length ca4 z0 zz4 w1 (hw1.en 3 rfl) rfl ZO ZO ZO ((fun w M h => hA4 w M (hA2 w M (hA1 w M h))) _ _ (RdB.of hw1 (A0 1 rfl (AU (AG _))) (hw1.nm 1 3 rfl rfl ZD))) hq4 ZU)) rfl ?_
  rintro v1 L1 ⟨_, ⟨rfl, ao8, zz8, ca8, hq8, ⟨hA8, hb36, hb37, hb38⟩, rfl⟩, rfl⟩
  show JL _ _ _ _ (_ :: _) [_, _, _, _]
  refine Z2 6 ?_
  refine AF (BE 109 _ [false, false, false, true] [nb2] _ (AH _ CA rfl) rfl (fun w1 hw1 => EM nb2 21 1 ao8 zz8.length ca8 z0 zz8 w1 (hw1.en 3 rfl) rfl ZO ZO ZO ((fun w M h => hA8 w M (hA4 w M (hA2 w M (hA1 w M h)))) _ _ (RdB.of hw1 (A0 1 rfl (AU (AG _))) (hw1.nm 1 3 rfl rfl ZD))) hq8 ZU)) rfl ?_
  rintro v1 L1 ⟨_, ⟨rfl, ao9, zz9, ca9, hq9, ⟨hA9, hb39, hb40, hb41⟩, rfl⟩, rfl⟩
  show JL _ _ _ _ (_ :: _) [_, _, _, _]
  refine AE (I64 (((vQ z0 21 1).toNat:Int))) Ze rfl ?_
  refine AE (I64 (((vQ z0 21 1).toNat:Int) + 1)) (AT rfl rfl fun _ => BR _ _ (((vQ z0 21 1).toNat:Int) + 1) ZO ZO) rfl ?_
  refine Z2 9 ?_
  refine AC (AJ 63 _ (errV 50 (endN (eQ z0 22) zz9.length)) (AH _ DF rfl) (fun w1 hw1 => end_w nb2 (eQ z0 22) ao9 zz9.length ca9 w1 (RdA.of hw1 (A0 3 rfl (AG _)) ZM))) rfl ?_
  show JL _ _ _ _ (_ :: _) [_, _, _, _]
  refine AE (.bool (!(decide (endN (eQ z0 22) zz9.length = 0)))) (CG _ _ _ rfl rfl (fun _ => BL ..) fun _ => CW AV _ _) rfl ?_
  refine Z2 1 ?_
  rcases Bool.eq_false_or_eq_true (decide (endN (eQ z0 22) zz9.length = 0)) with hb42 | hb42
  ·
   have hp42 := of_decide_eq_true hb42
   refine Z2 1 ?_
   refine B6 3 59 false _ rfl rfl (bnotT hb42) (AJ 22 _ (.bool (reqR (((vQ z0 8 1).toNat:Int)) ([] : List UInt64) (vQ z0 17 4) (((vQ z0 21 1).toNat:Int) + 1) (vQ z0 9 8) (blankB (0:UInt64) (0:UInt64) (0:Int) ([] : List UInt64) ([] : List SealR) (0:UInt64) (zr8 16)) (decide (mayN (0:UInt64) (0:UInt64) (0:Int) ([] : List UInt64) ([] : List SealR) (0:UInt64) = 0)))) (AH _ Tryd.call22 rfl) (fun w1 hw1 => rightReq_c (vQ z0 0 8) (((vQ z0 8 1).toNat:Int)) none 0 0 ([] : List UInt64) (vQ z0 17 4) (((vQ z0 21 1).toNat:Int) + 1) (0:UInt64) (0:UInt64) (0:Int) none 0 0 ([] : List UInt64) none 0 0 ([] : List SealR) (0:UInt64) (zr8 16) (vQ z0 9 8) w1 rfl ZO ZO ZO RdV.nil rfl ZO ZO ZO RdV.nil rfl ZO ZO ZO RdV.nil (AN 16) ZO ZO)) rfl ?_
   rintro v1 L1 ⟨rfl, rfl⟩
   show JL _ _ _ _ (_ :: _) [_, _, _, _]
   refine Z2 4 ?_
   refine AX _ rfl (fun hb43 => ?_) (fun hb43 => ?_)
   ·
    have hb44 : (reqR (((vQ z0 8 1).toNat:Int)) ([] : List UInt64) (vQ z0 17 4) (((vQ z0 21 1).toNat:Int) + 1) (vQ z0 9 8) (blankB (0:UInt64) (0:UInt64) (0:Int) ([] : List UInt64) ([] : List SealR) (0:UInt64) (zr8 16)) (decide (mayN (0:UInt64) (0:UInt64) (0:Int) ([] : List UInt64) ([] : List SealR) (0:UInt64) = 0))) = false := by simpa using hb43
    refine A4 (AO (AE (.agg (V5).toArray) Ze rfl ?_))
    refine Z2 1 ?_
    refine AC (AB 0 nb1 28 _ 31 (V5) rfl rfl rfl C4 ZS (AQ (AQ ZC A6) ZC) ZS (AI ZS)) rfl ?_
    show JL _ _ _ _ _ [_, _, _, _]
    refine Z2 5 ?_
    refine Z1 fun w1 hw1 => ?_
    have hR := RqR.k2 (kQT (k := 2) ZD hb35)
    have he : 22 = z0.length := (E4 hq9).1 (by have h9 := of_decide_eq_true hb42; omega)
    exact ⟨_, _, rfl, .inr ⟨BadRq.of hR (fun _ => hb44), rfl, _, _, _, _, _, _, _, _, _, rfl⟩, CS hw1 0 3 2 rfl rfl rfl ZD ZD ZD⟩
   have hb45 : (reqR (((vQ z0 8 1).toNat:Int)) ([] : List UInt64) (vQ z0 17 4) (((vQ z0 21 1).toNat:Int) + 1) (vQ z0 9 8) (blankB (0:UInt64) (0:UInt64) (0:Int) ([] : List UInt64) ([] : List SealR) (0:UInt64) (zr8 16)) (decide (mayN (0:UInt64) (0:UInt64) (0:Int) ([] : List UInt64) ([] : List SealR) (0:UInt64) = 0))) = true := by simpa using hb43
   refine Z2 5 ?_
   refine AC (AB 0 nb1 28 _ 31 (V1 (vQ z0 0 8) (((vQ z0 8 1).toNat:Int)) none 0 0 (vQ z0 17 4) (((vQ z0 21 1).toNat:Int) + 1) 0 0 0 none 0 0 none 0 0 0 (zr8 16) (vQ z0 9 8)) rfl rfl rfl C4 ZS (AQ (AQ ZC A6) ZC) ZS (AI ZS)) rfl ?_
   show JL _ _ _ _ _ [_, _, _, _]
   refine Z2 4 ?_
   refine Z1 fun w1 hw1 => ?_
   have hR := RqR.k2 (kQT (k := 2) ZD hb35)
   have he : 22 = z0.length := (E4 hq9).1 (by have h9 := of_decide_eq_true hb42; omega)
   have hz9 : 22 = z0.length := by omega
   rw [hz9] at hR
   exact ⟨_, _, rfl, .inl ⟨_, _, 0, _, _, _, _, _, _, 0, _, 0, _, _, _, _, _, _, _, none, 0, _, _, _, none, 0, _, _, _, none, 0, ⟨hR, hb45⟩, rfl, rfl, rfl, (AN 16), ZO, ZO, ZO, rfl, rfl, .inl rfl, by first | omega | (unfold maxLen; omega), by first | omega | (unfold maxLen; omega), .inl rfl, by first | omega | (unfold maxLen; omega), by first | omega | (unfold maxLen; omega), .inl rfl, by first | omega | (unfold maxLen; omega), by first | omega | (unfold maxLen; omega)⟩, CS hw1 3 2 0 rfl rfl rfl ZD ZD ZD⟩
  have hp42 := of_decide_eq_false hb42
  refine Z2 6 ?_
  refine A7 _ rfl rfl ?_
  refine A4 (AO (AE (.agg (V5).toArray) Ze rfl ?_))
  refine Z2 1 ?_
  refine AC (AB 0 nb1 28 _ 31 (V5) rfl rfl rfl C4 ZS (AQ (AQ ZC A6) ZC) ZS (AI ZS)) rfl ?_
  show JL _ _ _ _ _ [_, _, _, _]
  refine Z2 5 ?_
  refine Z1 fun w1 hw1 => ?_
  have hR := RqR.k2 (kQT (k := 2) ZD hb35)
  have hne : 22 ≠ z0.length := fun e => (of_decide_eq_false hb42) ((E4 hq9).2 e)
  exact ⟨_, _, rfl, .inr ⟨BadRq.of hR (fun e => absurd e ZO), rfl, _, _, _, _, _, _, _, _, _, rfl⟩, CS hw1 0 3 2 rfl rfl rfl ZD ZD ZD⟩
 have hp35 := of_decide_eq_false hb35
 refine Z2 7 ?_
 refine AC (AJ 63 _ (errV 50 (endN (eQ z0 17) zz4.length)) (AH _ DF rfl) (fun w1 hw1 => end_w nb2 (eQ z0 17) ao4 zz4.length ca4 w1 (RdA.of hw1 (A0 3 rfl (AG _)) ZM))) rfl ?_
 show JL _ _ _ _ (_ :: _) [_, _, _, _]
 refine AE (.bool (!(decide (endN (eQ z0 17) zz4.length = 0)))) (CG _ _ _ rfl rfl (fun _ => BL ..) fun _ => CW AV _ _) rfl ?_
 refine Z2 1 ?_
 rcases Bool.eq_false_or_eq_true (decide (endN (eQ z0 17) zz4.length = 0)) with hb46 | hb46
 ·
  have hp46 := of_decide_eq_true hb46
  refine Z2 1 ?_
  refine B6 3 59 false _ rfl rfl (bnotT hb46) (AJ 22 _ (.bool (reqR (((vQ z0 8 1).toNat:Int)) ([] : List UInt64) (0:UInt64) (0:Int) (vQ z0 9 8) (blankB (0:UInt64) (0:UInt64) (0:Int) ([] : List UInt64) ([] : List SealR) (0:UInt64) (zr8 16)) (decide (mayN (0:UInt64) (0:UInt64) (0:Int) ([] : List UInt64) ([] : List SealR) (0:UInt64) = 0)))) (AH _ Tryd.call22 rfl) (fun w1 hw1 => rightReq_c (vQ z0 0 8) (((vQ z0 8 1).toNat:Int)) none 0 0 ([] : List UInt64) (0:UInt64) (0:Int) (0:UInt64) (0:UInt64) (0:Int) none 0 0 ([] : List UInt64) none 0 0 ([] : List SealR) (0:UInt64) (zr8 16) (vQ z0 9 8) w1 rfl ZO ZO ZO RdV.nil rfl ZO ZO ZO RdV.nil rfl ZO ZO ZO RdV.nil (AN 16) ZO ZO)) rfl ?_
  rintro v1 L1 ⟨rfl, rfl⟩
  show JL _ _ _ _ (_ :: _) [_, _, _, _]
  refine Z2 4 ?_
  refine AX _ rfl (fun hb47 => ?_) (fun hb47 => ?_)
  ·
   have hb48 : (reqR (((vQ z0 8 1).toNat:Int)) ([] : List UInt64) (0:UInt64) (0:Int) (vQ z0 9 8) (blankB (0:UInt64) (0:UInt64) (0:Int) ([] : List UInt64) ([] : List SealR) (0:UInt64) (zr8 16)) (decide (mayN (0:UInt64) (0:UInt64) (0:Int) ([] : List UInt64) ([] : List SealR) (0:UInt64) = 0))) = false := by simpa using hb47
   refine A4 (AO (AE (.agg (V5).toArray) Ze rfl ?_))
   refine Z2 1 ?_
   refine AC (AB 0 nb1 28 _ 31 (V5) rfl rfl rfl C4 ZS (AQ (AQ ZC A6) ZC) ZS (AI ZS)) rfl ?_
   show JL _ _ _ _ _ [_, _, _, _]
   refine Z2 5 ?_
   refine Z1 fun w1 hw1 => ?_
   have hR := RqR.k0 (kQF (k := 3) ZD hb7) (kQF (k := 1) ZD hb18) (kQF (k := 2) ZD hb35)
   have he : 17 = z0.length := (E4 hq4).1 (by have h9 := of_decide_eq_true hb46; omega)
   exact ⟨_, _, rfl, .inr ⟨BadRq.of hR (fun _ => hb48), rfl, _, _, _, _, _, _, _, _, _, rfl⟩, CS hw1 0 3 2 rfl rfl rfl ZD ZD ZD⟩
  have hb49 : (reqR (((vQ z0 8 1).toNat:Int)) ([] : List UInt64) (0:UInt64) (0:Int) (vQ z0 9 8) (blankB (0:UInt64) (0:UInt64) (0:Int) ([] : List UInt64) ([] : List SealR) (0:UInt64) (zr8 16)) (decide (mayN (0:UInt64) (0:UInt64) (0:Int) ([] : List UInt64) ([] : List SealR) (0:UInt64) = 0))) = true := by simpa using hb47
  refine Z2 5 ?_
  refine AC (AB 0 nb1 28 _ 31 (V1 (vQ z0 0 8) (((vQ z0 8 1).toNat:Int)) none 0 0 0 0 0 0 0 none 0 0 none 0 0 0 (zr8 16) (vQ z0 9 8)) rfl rfl rfl C4 ZS (AQ (AQ ZC A6) ZC) ZS (AI ZS)) rfl ?_
  show JL _ _ _ _ _ [_, _, _, _]
  refine Z2 4 ?_
  refine Z1 fun w1 hw1 => ?_
  have hR := RqR.k0 (kQF (k := 3) ZD hb7) (kQF (k := 1) ZD hb18) (kQF (k := 2) ZD hb35)
  have he : 17 = z0.length := (E4 hq4).1 (by have h9 := of_decide_eq_true hb46; omega)
  have hz9 : 17 = z0.length := by omega
  rw [hz9] at hR
  exact ⟨_, _, rfl, .inl ⟨_, _, 0, _, _, _, _, _, _, 0, _, 0, _, _, _, _, _, _, _, none, 0, _, _, _, none, 0, _, _, _, none, 0, ⟨hR, hb49⟩, rfl, rfl, rfl, (AN 16), ZO, ZO, ZO, rfl, rfl, .inl rfl, by first | omega | (unfold maxLen; omega), by first | omega | (unfold maxLen; omega), .inl rfl, by first | omega | (unfold maxLen; omega), by first | omega | (unfold maxLen; omega), .inl rfl, by first | omega | (unfold maxLen; omega), by first | omega | (unfold maxLen; omega)⟩, CS hw1 3 2 0 rfl rfl rfl ZD ZD ZD⟩
 have hp46 := of_decide_eq_false hb46
 refine Z2 6 ?_
 refine A7 _ rfl rfl ?_
 refine A4 (AO (AE (.agg (V5).toArray) Ze rfl ?_))
 refine Z2 1 ?_
 refine AC (AB 0 nb1 28 _ 31 (V5) rfl rfl rfl C4 ZS (AQ (AQ ZC A6) ZC) ZS (AI ZS)) rfl ?_
 show JL _ _ _ _ _ [_, _, _, _]
 refine Z2 5 ?_
 refine Z1 fun w1 hw1 => ?_
 have hR := RqR.k0 (kQF (k := 3) ZD hb7) (kQF (k := 1) ZD hb18) (kQF (k := 2) ZD hb35)
 have hne : 17 ≠ z0.length := fun e => (of_decide_eq_false hb46) ((E4 hq4).2 e)
 exact ⟨_, _, rfl, .inr ⟨BadRq.of hR (fun e => absurd e ZO), rfl, _, _, _, _, _, _, _, _, _, rfl⟩, CS hw1 0 3 2 rfl rfl rfl ZD ZD ZD⟩
attribute [local irreducible] hQ
theorem bld67_012 {w : World} {v0 : Value} {v1 : Value} {v2 : Value} (h0 : v0.cells = [v0].toArray) (h1 : v1.cells = [v1].toArray) (h2 : v2.cells = [v2].toArray) : (Instr.build 67 ([(0, v0), (1, v1), (2, v2)] : List (Nat × Value)).toArray).run Tryd.prog w = .ok (.agg (((((((([v0] : List Value) ++ ([v1] : List Value)) ++ ([v2] : List Value)) ++ ([.slice none 0 0] : List Value)) ++ ([.bool false] : List Value)) ++ ([U64 0, U64 0, I64 0, .slice none 0 0, .slice none 0 0, U64 0] ++ cu8 (zr8 16) : List Value)) ++ ([.slice none 0 0] : List Value)) ++ ([.slice none 0 0] : List Value)).toArray) w :=
 C8 (places := #[(0, 1), (1, 1), (2, 1), (3, 1), (4, 1), (5, 22), (27, 1), (28, 1)]) (Z := (([U64 0] : List Value) ++ (([I64 0] : List Value) ++ (([I64 0] : List Value) ++ (([.slice none 0 0] : List Value) ++ (([.bool false] : List Value) ++ (([U64 0, U64 0, I64 0, .slice none 0 0, .slice none 0 0, U64 0] ++ cu8 (zr8 16) : List Value) ++ (([.slice none 0 0] : List Value) ++ (([.slice none 0 0] : List Value) ++ []))))))))) (fun _ => by kernel_rfl) CD (fun _ => by kernel_rfl) ((EI ([U64 0] : List Value) (([I64 0] : List Value) ++ (([I64 0] : List Value) ++ (([.slice none 0 0] : List Value) ++ (([.bool false] : List Value) ++ (([U64 0, U64 0, I64 0, .slice none 0 0, .slice none 0 0, U64 0] ++ cu8 (zr8 16) : List Value) ++ (([.slice none 0 0] : List Value) ++ (([.slice none 0 0] : List Value) ++ []))))))) ([v0] : List Value) h0 (by simp [AN]) rfl).trans ((DL ([v0] : List Value) ([I64 0] : List Value) (([I64 0] : List Value) ++ (([.slice none 0 0] : List Value) ++ (([.bool false] : List Value) ++ (([U64 0, U64 0, I64 0, .slice none 0 0, .slice none 0 0, U64 0] ++ cu8 (zr8 16) : List Value) ++ (([.slice none 0 0] : List Value) ++ (([.slice none 0 0] : List Value) ++ [])))))) ([v1] : List Value) h1 (by simp [AN]) rfl).trans ((DL (([v0] : List Value) ++ ([v1] : List Value)) ([I64 0] : List Value) (([.slice none 0 0] : List Value) ++ (([.bool false] : List Value) ++ (([U64 0, U64 0, I64 0, .slice none 0 0, .slice none 0 0, U64 0] ++ cu8 (zr8 16) : List Value) ++ (([.slice none 0 0] : List Value) ++ (([.slice none 0 0] : List Value) ++ []))))) ([v2] : List Value) h2 (by simp [AN]) rfl).trans ((D0 ((([v0] : List Value) ++ ([v1] : List Value)) ++ ([v2] : List Value)) ([.slice none 0 0] : List Value) (([.bool false] : List Value) ++ (([U64 0, U64 0, I64 0, .slice none 0 0, .slice none 0 0, U64 0] ++ cu8 (zr8 16) : List Value) ++ (([.slice none 0 0] : List Value) ++ (([.slice none 0 0] : List Value) ++ []))))).trans ((D0 (((([v0] : List Value) ++ ([v1] : List Value)) ++ ([v2] : List Value)) ++ ([.slice none 0 0] : List Value)) ([.bool false] : List Value) (([U64 0, U64 0, I64 0, .slice none 0 0, .slice none 0 0, U64 0] ++ cu8 (zr8 16) : List Value) ++ (([.slice none 0 0] : List Value) ++ (([.slice none 0 0] : List Value) ++ [])))).trans ((D0 ((((([v0] : List Value) ++ ([v1] : List Value)) ++ ([v2] : List Value)) ++ ([.slice none 0 0] : List Value)) ++ ([.bool false] : List Value)) ([U64 0, U64 0, I64 0, .slice none 0 0, .slice none 0 0, U64 0] ++ cu8 (zr8 16) : List Value) (([.slice none 0 0] : List Value) ++ (([.slice none 0 0] : List Value) ++ []))).trans ((D0 (((((([v0] : List Value) ++ ([v1] : List Value)) ++ ([v2] : List Value)) ++ ([.slice none 0 0] : List Value)) ++ ([.bool false] : List Value)) ++ ([U64 0, U64 0, I64 0, .slice none 0 0, .slice none 0 0, U64 0] ++ cu8 (zr8 16) : List Value)) ([.slice none 0 0] : List Value) (([.slice none 0 0] : List Value) ++ [])).trans ((D0 ((((((([v0] : List Value) ++ ([v1] : List Value)) ++ ([v2] : List Value)) ++ ([.slice none 0 0] : List Value)) ++ ([.bool false] : List Value)) ++ ([U64 0, U64 0, I64 0, .slice none 0 0, .slice none 0 0, U64 0] ++ cu8 (zr8 16) : List Value)) ++ ([.slice none 0 0] : List Value)) ([.slice none 0 0] : List Value) []).trans (by simp [Instr.fill])))))))))
theorem bld163_0 {w : World} {v0 : Value} (h0 : v0.cells = [v0].toArray) : (Instr.build 163 ([(0, v0)] : List (Nat × Value)).toArray).run Tryd.prog w = .ok (.agg (([v0] : List Value) ++ ([U64 0] ++ cu8 (zr8 32) ++ cu8 (zr8 16) : List Value)).toArray) w :=
 C8 (places := #[(0, 1), (1, 49)]) (Z := (([.bool false] : List Value) ++ (([U64 0] ++ cu8 (zr8 32) ++ cu8 (zr8 16) : List Value) ++ []))) (fun _ => by kernel_rfl) Tryd.underlying163 (fun _ => by kernel_rfl) ((EI ([.bool false] : List Value) (([U64 0] ++ cu8 (zr8 32) ++ cu8 (zr8 16) : List Value) ++ []) ([v0] : List Value) h0 (by simp [AN]) rfl).trans ((D0 ([v0] : List Value) ([U64 0] ++ cu8 (zr8 32) ++ cu8 (zr8 16) : List Value) []).trans (by simp [Instr.fill])))
theorem parp_c (ax : Option Addr) (n c : Nat) (z0 : List UInt8)  (w : World) (ha : ax.isNone = false) (hz : z0.length = n) (hn : n ≤ 200000) (hc : n ≤ c) (hcm : c ≤ maxLen) (hr : RdB w [] ax z0)  : Calls Tryd.prog 55 #[SL ax n c] w (Post w [] (fun v L => (∃ rq rk er nj lj th pv ep kd ni l ns ls bl tg na xa nb xb g0 cs0 T0 a0 c0 g1 cs1 T1 a1 c1 g2 cs2 T2 a2 c2 g3 cs3 T3 a3 c3 g4 cs4 T4 a4 c4, GRp z0 rq rk er lj th pv ep kd l ls bl tg na xa nb xb ∧ lj.length = nj ∧ l.length = ni ∧ ls.length = ns ∧ tg.length = 16 ∧ nj ≤ 256 ∧ ni ≤ 256 ∧ ns ≤ 256 ∧ xa.length = na*32 ∧ xb.length = nb*32 ∧ v = .tuple #[.agg (V0 rq rk er a0 nj c0 th pv ep kd a1 ni c1 a2 ns c2 bl tg a3 na c3 a4 nb c4).toArray, .nilIface] ∧ L = [(Ez g0 cs0 T0), (Ez g1 cs1 T1), (Ez g2 cs2 T2), (Ez g3 cs3 T3), (Ez g4 cs4 T4)] ∧ Gh (lj.flatMap itemC) g0 cs0 a0 ∧ nj ≤ c0 ∧ c0 ≤ maxLen ∧ Gh (cu64 l) g1 cs1 a1 ∧ ni ≤ c1 ∧ c1 ≤ maxLen ∧ Gh (ls.flatMap sealC) g2 cs2 a2 ∧ ns ≤ c2 ∧ c2 ≤ maxLen ∧ Gh (cu8 xa) g3 cs3 a3 ∧ na ≤ c3 ∧ c3 ≤ maxLen ∧ Gh (cu8 xb) g4 cs4 a4 ∧ nb ≤ c4 ∧ c4 ≤ maxLen) ∨ (BadRp z0 ∧ v = .tuple #[.agg (V6).toArray, .iface 50 (I64 2)] ∧ ∃ g0 cs0 T0 g1 cs1 T1 g2 cs2 T2 g3 cs3 T3 g4 cs4 T4, L = [(Ez g0 cs0 T0), (Ez g1 cs1 T1), (Ez g2 cs2 T2), (Ez g3 cs3 T3), (Ez g4 cs4 T4)]))) := by
 have hmx : maxLen = 9223372036854775807 := rfl
 have hk8 := E6 z0 8
 have hk9 := E6 z0 9
 have hk10 := E6 z0 10
 refine enter w [] 109 [] [SL ax n c] Tryd.func55 rfl rfl ZM (A2 ZM ZM ZM) ?_
 show JC _ _ _ [_] _
 refine A4 (AO (AF (AS _ (V6) Tryd.zeroValue67 ZR) rfl ?_))
 rintro v1 L1 ⟨nb1, hnb1, rfl, rfl⟩
 show JL _ _ _ _ (_ :: _) [_]
 refine Z2 6 ?_
 refine AF (A5 59 _ _ (AH _ Tryd.call59 rfl) (fun w1 hw1 => fromQ_w ax n c z0 w1 ha hz ZO (hr.at (M' := []) hw1 ZM))) rfl ?_
 rintro v1 L1 ⟨_, ⟨nb2, nb3, sp1, cp1, rfl, rfl, hc1, hc2, hc3⟩, rfl⟩
 show JL _ _ _ _ (_ :: _) [_, _, _]
 refine Z2 6 ?_
 have hz1 : (z0).length = n := hz
 refine AF (BE 109 _ [false, true, false] [nb2] _ (AH _ CA rfl) rfl (fun w1 hw1 => EM nb2 0 8 (some ⟨nb3, 0, none⟩) n cp1 z0 z0 w1 (hw1.en 1 rfl) hz ZO ZO ZO ((fun _ _ h => h) _ _ (RdB.of hw1 (A0 2 rfl (AU (AG _))) (hw1.nm 2 1 rfl rfl ZD))) (Lq.zero z0) ZU)) rfl ?_
 rintro v1 L1 ⟨_, ⟨rfl, ao1, zz1, ca1, hq1, ⟨hA1, hb1, hb2, hb3⟩, rfl⟩, rfl⟩
 show JL _ _ _ _ (_ :: _) [_, _, _]
 refine Z2 1 ?_
 refine AF (BE 109 _ [false, false, true] [nb2] _ (AH _ CA rfl) rfl (fun w1 hw1 => EM nb2 8 1 ao1 zz1.length ca1 z0 zz1 w1 (hw1.en 2 rfl) rfl ZO ZO ZO (hA1 _ _ (RdB.of hw1 (A0 1 rfl (AU (AG _))) (hw1.nm 1 2 rfl rfl ZD))) hq1 ZU)) rfl ?_
 rintro v1 L1 ⟨_, ⟨rfl, ao2, zz2, ca2, hq2, ⟨hA2, hb4, hb5, hb6⟩, rfl⟩, rfl⟩
 show JL _ _ _ _ (_ :: _) [_, _, _]
 refine AE (I64 (((vQ z0 8 1).toNat:Int))) Ze rfl ?_
 refine Z2 1 ?_
 refine AF (BE 109 _ [false, false, true] [nb2] _ (AH _ CA rfl) rfl (fun w1 hw1 => EM nb2 9 1 ao2 zz2.length ca2 z0 zz2 w1 (hw1.en 2 rfl) rfl ZO ZO ZO ((fun w M h => hA2 w M (hA1 w M h)) _ _ (RdB.of hw1 (A0 1 rfl (AU (AG _))) (hw1.nm 1 2 rfl rfl ZD))) hq2 ZU)) rfl ?_
 rintro v1 L1 ⟨_, ⟨rfl, ao3, zz3, ca3, hq3, ⟨hA3, hb7, hb8, hb9⟩, rfl⟩, rfl⟩
 show JL _ _ _ _ (_ :: _) [_, _, _]
 refine AE (I64 (((vQ z0 9 1).toNat:Int))) Ze rfl ?_
 refine AE (.agg (V0 (vQ z0 0 8) (((vQ z0 8 1).toNat:Int)) (((vQ z0 9 1).toNat:Int)) none 0 0 false 0 0 0 none 0 0 none 0 0 0 (zr8 16) none 0 0 none 0 0).toArray) (DN [(0, U64 (vQ z0 0 8)), (1, I64 (((vQ z0 8 1).toNat:Int))), (2, I64 (((vQ z0 9 1).toNat:Int)))] _ rfl (fun _ => (bld67_012 rfl rfl rfl ).trans (by first | rfl | simp only [List.append_assoc, List.cons_append, List.nil_append]))) rfl ?_
 refine AF (AS _ (V6) Tryd.zeroValue67 ZR) rfl ?_
 rintro v1 L1 ⟨nb4, hnb4, rfl, rfl⟩
 show JL _ _ _ _ (_ :: _) [_, _, _, _]
 refine AC (AB 3 nb4 29 _ 67 (V0 (vQ z0 0 8) (((vQ z0 8 1).toNat:Int)) (((vQ z0 9 1).toNat:Int)) none 0 0 false 0 0 0 none 0 0 none 0 0 0 (zr8 16) none 0 0 none 0 0) rfl rfl rfl DD ZS (AQ (AQ ZC A6) ZC) ZS (AI ZS)) rfl ?_
 show JL _ _ _ _ _ [_, _, _, _]
 refine Z2 5 ?_
 refine AF (A5 95 _ _ (AH _ Tryd.call95 rfl) (fun w1 hw1 => partsG_c (vQ z0 0 8) (((vQ z0 8 1).toNat:Int)) (((vQ z0 9 1).toNat:Int)) none 0 0 ([] : List ItemR) false (0:UInt64) (0:UInt64) (0:Int) none 0 0 ([] : List UInt64) none 0 0 ([] : List SealR) (0:UInt64) (zr8 16) none 0 0 [] none 0 0 [] w1 (AN 16))) rfl ?_
 rintro v1 L1 ⟨_, ⟨sg1, cs1, nT1, rfl, rfl⟩, rfl⟩
 show JL _ _ _ _ (_ :: _) [_, _, _, _, _]
 refine Z2 12 ?_
 refine ED (ι := Nat × Option Addr × List ItemR × Nat × Nat × Nat × List Value × Nat × Option Addr × List UInt8 × Nat) (fun ⟨qa, ja, jl, jn, jc, jg, jcs, jT, ra, zr, rc⟩ => [(2, Ptr nb1 0), (3, .nilIface), (4, Ptr nb2 0), (5, Ptr nb4 0)]) (fun ⟨qa, ja, jl, jn, jc, jg, jcs, jT, ra, zr, rc⟩ => [(Ez nb1 (V6) 67), (Ez nb3 (cu8 z0 ++ sp1) 5), (Ez nb2 [errV 50 (eQ z0 qa), SL ra zr.length rc] 204), (Ez nb4 (V0 (vQ z0 0 8) (((vQ z0 8 1).toNat:Int)) (((vQ z0 9 1).toNat:Int)) ja jn jc false 0 0 0 none 0 0 none 0 0 0 (zr8 16) none 0 0 none 0 0) 67), (Ez jg jcs jT)]) (fun ⟨qa, ja, jl, jn, jc, jg, jcs, jT, ra, zr, rc⟩ => qa = P1 z0 ∧ (qa ≤ z0.length → jl = ljZ z0) ∧ jl.length = jn ∧ jn ≤ 256 ∧ Gh (jl.flatMap itemC) jg jcs ja ∧ jn ≤ jc ∧ jc ≤ maxLen ∧ Lq z0 zr qa ∧ (∀ w M, RdB w M (some ⟨nb3, 0, none⟩) z0 → RdB w M ra zr) ∧ zr.length ≤ rc ∧ rc ≤ maxLen ∧ zr.length ≤ n) ?_ ?_
 ·
  refine Z2 5 ?_
  refine AX _ rfl (fun hb10 => ?_) (fun hb10 => ?_)
  ·
   refine Z2 3 ?_
   refine AF (BE 109 _ [false, false, true, false, false] [nb2] _ (AH _ CA rfl) rfl (fun w1 hw1 => EM nb2 10 1 ao3 zz3.length ca3 z0 zz3 w1 (hw1.en 2 rfl) rfl ZO ZO ZO ((fun w M h => hA3 w M (hA2 w M (hA1 w M h))) _ _ (RdB.of hw1 (A0 1 rfl (AU (AG _))) (hw1.nm 1 2 rfl rfl ZD))) hq3 ZU)) rfl ?_
   rintro v1 L1 ⟨_, ⟨rfl, ao4, zz4, ca4, hq4, ⟨hA4, hb11, hb12, hb13⟩, rfl⟩, rfl⟩
   show JL _ _ _ _ (_ :: _) [_, _, _, _, _]
   refine AE (I64 (((vQ z0 10 1).toNat:Int))) Ze rfl ?_
   refine AE (I64 (((vQ z0 10 1).toNat:Int) + 1)) (AT rfl rfl fun _ => BR _ _ (((vQ z0 10 1).toNat:Int) + 1) ZO ZO) rfl ?_
   refine Z2 5 ?_
   obtain ⟨m, hm1, hm2, hm3⟩ := minI hq4
   refine Z2 3 ?_
   refine AC (AJ 61 _ (I64 ((leftN (eQ z0 11) zz4.length:Int))) (AH _ C7 rfl) (fun w1 hw1 => left_w nb2 (eQ z0 11) ao4 zz4.length ca4 w1 (RdA.of hw1 (A0 4 rfl (AG _)) ZM))) rfl ?_
   show JL _ _ _ _ (_ :: _) [_, _, _, _, _]
   refine AE (I64 m) (Ev_min rfl rfl hm1) rfl ?_
   refine Z2 4 ?_
   refine C3 (ι := (Unit) ⊕ (Nat × Nat × List ItemR × Nat × List Value × Nat × Option Addr × List UInt8 × Nat)) (fun x => match x with | .inl _ => [(2, Ptr nb1 0), (3, .nilIface), (4, Ptr nb2 0), (5, Ptr nb4 0), (10, I64 (((vQ z0 10 1).toNat:Int) + 1)), (42, I64 m), (43, I64 0)] | .inr ⟨qi, i, ll, gb, sp, cp, aa, zz, cc⟩ => [(2, Ptr nb1 0), (3, .nilIface), (4, Ptr nb2 0), (5, Ptr nb4 0), (10, I64 (((vQ z0 10 1).toNat:Int) + 1)), (42, I64 m), (43, I64 i)]) (fun x => match x with | .inl _ => [(Ez nb1 (V6) 67), (Ez nb3 (cu8 z0 ++ sp1) 5), (Ez nb4 (V0 (vQ z0 0 8) (((vQ z0 8 1).toNat:Int)) (((vQ z0 9 1).toNat:Int)) none 0 0 false 0 0 0 none 0 0 none 0 0 0 (zr8 16) none 0 0 none 0 0) 67), (Ez sg1 cs1 nT1), (Ez nb2 [errV 50 (eQ z0 11), SL ao4 zz4.length ca4] 204)] | .inr ⟨qi, i, ll, gb, sp, cp, aa, zz, cc⟩ => [(Ez nb1 (V6) 67), (Ez nb3 (cu8 z0 ++ sp1) 5), (Ez nb4 ([U64 (vQ z0 0 8), I64 (((vQ z0 8 1).toNat:Int)), I64 (((vQ z0 9 1).toNat:Int)), Slc gb 0 i cp, .bool false, U64 0, U64 0, I64 0, SL none 0 0, SL none 0 0, U64 0] ++ cu8 (zr8 16) ++ [SL none 0 0, SL none 0 0]) 67), (Ez sg1 cs1 nT1), (Ez nb2 [errV 50 (eQ z0 qi), SL aa zz.length cc] 204), (Ez gb ((ll).flatMap itemC ++ sp) 163)]) (fun x => match x with | .inl _ => True | .inr ⟨qi, i, ll, gb, sp, cp, aa, zz, cc⟩ => qi = qI z0 11 i ∧ 0 < i ∧ i ≤ m ∧ ll = itQ z0 11 i ∧ ll.length = i ∧ sp.length = cp * 50 - i * 50 ∧ i ≤ cp ∧ cp ≤ maxLen ∧ Lq z0 zz qi ∧ (∀ w M, RdB w M (some ⟨nb3, 0, none⟩) z0 → RdB w M aa zz) ∧ zz.length ≤ cc ∧ cc ≤ maxLen ∧ zz.length ≤ n) (fun x => match x with | .inl _ => m + 2 | .inr ⟨qi, i, ll, gb, sp, cp, aa, zz, cc⟩ => m + 1 - i) (.inl ()) trivial (Sub.all rfl) rfl ?_
   rintro (_ | ⟨qi, i, ll, gb, sp, cp, aa, zz, cc⟩) hx
   ·
    obtain _ := hx
    show JC _ _ _ [_, _, _, _, _, _, _] [_, _, _, _, _]
    refine Z2 6 ?_
    refine AX _ rfl (fun hb14 => ?_) (fun hb14 => ?_)
    ·
     have hp14 := of_decide_eq_true hb14
     refine Z2 7 ?_
     refine AF (BE 119 _ [false, false, false, false, true] [nb2] _ (AH _ Tryd.call119 rfl) rfl (fun w1 hw1 => flgQ_w nb2 11 ao4 zz4.length ca4 z0 zz4 w1 (hw1.en 4 rfl) rfl ZO ZO ZO ((fun w M h => hA4 w M (hA3 w M (hA2 w M (hA1 w M h)))) _ _ (RdB.of hw1 (A0 1 rfl (AU (AG _))) (hw1.nm 1 4 rfl rfl ZD))) hq4)) rfl ?_
     rintro v1 L1 ⟨_, ⟨rfl, pq1, ao5, zz5, ca5, hpq1, hq5, ⟨hA5, hb15, hb16, hb17⟩, rfl⟩, rfl⟩
     show JL _ _ _ _ (_ :: _) [_, _, _, _, _]
     refine AE (.agg (List.toArray (α := Value) (V3 (fQ z0 11) 0 (zr8 32) (zr8 16)))) (DN [(0, .bool (fQ z0 11))] _ rfl (fun _ => bld163_0 rfl)) rfl ?_
     refine AF (AS _ (V7) DY ZR) rfl ?_
     rintro v1 L1 ⟨nb5, hnb5, rfl, rfl⟩
     show JL _ _ _ _ (_ :: _) [_, _, _, _, _, _]
     refine AC (AB 5 nb5 50 _ 163 (V3 (fQ z0 11) 0 (zr8 32) (zr8 16)) rfl rfl rfl CN ZS (AQ (AQ ZC A6) A6) ZS (AI ZS)) rfl ?_
     show JL _ _ _ _ _ [_, _, _, _, _, _]
     refine Z2 9 ?_
     refine AX _ rfl (fun hb18 => ?_) (fun hb18 => ?_)
     ·
      refine Z2 2 ?_
      refine AF (BE 120 _ [false, false, false, false, true, false] [nb2] _ (AH _ Tryd.call120 rfl) rfl (fun w1 hw1 => sreadQ_c nb2 pq1 ao5 zz5.length ca5 z0 zz5 w1 (hw1.en 4 rfl) rfl ZO ZO ZO ((fun w M h => hA5 w M (hA4 w M (hA3 w M (hA2 w M (hA1 w M h))))) _ _ (RdB.of hw1 (A0 1 rfl (AU (AG _))) (hw1.nm 1 4 rfl rfl ZD))) hq5)) rfl ?_
      rintro v1 L1 ⟨_, ⟨rfl, ao6, zz6, ca6, hq6, ⟨hA6, hb19, hb20, hb21⟩, rfl⟩, rfl⟩
      show JL _ _ _ _ (_ :: _) [_, _, _, _, _, _]
      refine Z2 1 ?_
      refine AC (BT 4 nb5 1 49 _ 163 (.agg ([U64 (vQ z0 pq1 8)] ++ cu8 (bQ z0 (pq1 + 8) 32) ++ cu8 (bQ z0 (pq1 + 40) 16)).toArray) ([U64 (vQ z0 pq1 8)] ++ cu8 (bQ z0 (pq1 + 8) 32) ++ cu8 (bQ z0 (pq1 + 40) 16)) (V3 (fQ z0 11) (vQ z0 pq1 8) (bQ z0 (pq1 + 8) 32) (bQ z0 (pq1 + 40) 16)) rfl rfl rfl (by first | rfl | simp) BC ZS (AQ (AQ ZC A6) A6) ZS (FL (a := [.bool (fQ z0 11)]) (b := [U64 0] ++ cu8 (zr8 32) ++ cu8 (zr8 16)) (c := ([] : List Value)) (by simp only [List.append_assoc, List.cons_append, List.nil_append, List.append_nil]) ZS ZS (by simp only [List.append_assoc, List.cons_append, List.nil_append, List.append_nil]))) rfl ?_
      show JL _ _ _ _ _ [_, _, _, _, _, _]
      refine Z2 6 ?_
      refine AF (BF 163 50 _ [(0, .agg (List.toArray (α := Value) (V3 (fQ z0 11) (vQ z0 pq1 8) (bQ z0 (pq1 + 8) 32) (bQ z0 (pq1 + 40) 16))))] (V3 (fQ z0 11) (vQ z0 pq1 8) (bQ z0 (pq1 + 8) 32) (bQ z0 (pq1 + 40) 16)) C0 CN DY rfl rfl rfl (EL (Z := V7) ZS ZR (by simp [zr8]))) rfl ?_
      rintro v1 L1 ⟨nb6, hnb6, rfl, rfl⟩
      show JL _ _ _ _ (_ :: _) [_, _, _, _, _, _, _]
      refine AF (E1 64 163 64 (.agg (List.toArray (α := Value) (V7))) [false, false, false, false, false, false, false] (SL none 0 0) 0 ([] : List ItemR) (ItemR.mk (fQ z0 11) (SealR.mk (vQ z0 pq1 8) (bQ z0 (pq1 + 8) 32) (bQ z0 (pq1 + 40) 16) (BG _ _ _) (BG _ _ _))) (some ⟨nb6, 0, none⟩) 1 1 C0 ZR ZR rfl (.inl ⟨rfl, rfl, rfl, rfl⟩) rfl (SrcAt.mem (A0 6 rfl (AG _))) ZO ZO ZO) rfl ?_
      rintro v1 L1 ⟨nb7, sp2, cp2, hg1, rfl, rfl, ha1, ha2, ha3, ha4⟩
      show JL _ _ _ _ (_ :: _) [_, _, _, _, _, _, _, _]
      refine Z2 6 ?_
      refine AE (I64 1) (AT rfl rfl fun _ => BR _ _ (1:Int) ZO ZO) rfl ?_
      refine Z2 2 ?_
      refine B5 (D7 [true, true, true, true, false, true, false, true] ?_)
      show K _ _ [_, _, _, _, _, _] _
      refine C1 (.inr ((pq1 + 56), 1, ([] : List ItemR) ++ [(ItemR.mk (fQ z0 11) (SealR.mk (vQ z0 pq1 8) (bQ z0 (pq1 + 8) 32) (bQ z0 (pq1 + 40) 16) (BG _ _ _) (BG _ _ _)))], nb7, sp2, cp2, ao6, zz6, ca6)) ⟨qI_t (i := 0) (rfl : 11 = qI z0 11 0) hb18 hpq1, ZO, ZO, (congrArg (fun x => [x]) (iQ_t hb18 hpq1 _ _) : _ = itQ z0 11 1), (ha1).trans (by first | rfl | simp +arith), (ha2).trans (by first | rfl | simp +arith), ZO, ZO, hq6, (fun w M h => hA6 w M (hA5 w M (hA4 w M (hA3 w M (hA2 w M (hA1 w M h)))))), ZO, ZO, ZO⟩ (by dsimp only; omega) (Sub.all rfl) rfl
     refine Z2 6 ?_
     refine AF (BF 163 50 _ [(0, .agg (List.toArray (α := Value) (V3 (fQ z0 11) 0 (zr8 32) (zr8 16))))] (V3 (fQ z0 11) 0 (zr8 32) (zr8 16)) C0 CN DY rfl rfl rfl (EL (Z := V7) ZS ZR (by simp [zr8]))) rfl ?_
     rintro v1 L1 ⟨nb8, hnb8, rfl, rfl⟩
     show JL _ _ _ _ (_ :: _) [_, _, _, _, _, _, _]
     refine AF (E1 64 163 64 (.agg (List.toArray (α := Value) (V7))) [false, false, false, false, false, false, false] (SL none 0 0) 0 ([] : List ItemR) (ItemR.mk (fQ z0 11) (SealR.mk (0:UInt64) (zr8 32) (zr8 16) (AN 32) (AN 16))) (some ⟨nb8, 0, none⟩) 1 1 C0 ZR ZR rfl (.inl ⟨rfl, rfl, rfl, rfl⟩) rfl (SrcAt.mem (A0 6 rfl (AG _))) ZO ZO ZO) rfl ?_
     rintro v1 L1 ⟨nb9, sp3, cp3, hg2, rfl, rfl, ha5, ha6, ha7, ha8⟩
     show JL _ _ _ _ (_ :: _) [_, _, _, _, _, _, _, _]
     refine Z2 6 ?_
     refine AE (I64 1) (AT rfl rfl fun _ => BR _ _ (1:Int) ZO ZO) rfl ?_
     refine Z2 2 ?_
     refine B5 (D7 [true, true, true, true, true, false, false, true] ?_)
     show K _ _ [_, _, _, _, _, _] _
     refine C1 (.inr (pq1, 1, ([] : List ItemR) ++ [(ItemR.mk (fQ z0 11) (SealR.mk (0:UInt64) (zr8 32) (zr8 16) (AN 32) (AN 16)))], nb9, sp3, cp3, ao5, zz5, ca5)) ⟨qI_f (i := 0) (rfl : 11 = qI z0 11 0) hb18 hpq1, ZO, ZO, (congrArg (fun x => [x]) (iQ_f hb18 _ _) : _ = itQ z0 11 1), (ha5).trans (by first | rfl | simp +arith), (ha6).trans (by first | rfl | simp +arith), ZO, ZO, hq5, (fun w M h => hA5 w M (hA4 w M (hA3 w M (hA2 w M (hA1 w M h))))), ZO, ZO, ZO⟩ (by dsimp only; omega) (Sub.all rfl) rfl
    have hp14 := of_decide_eq_false hb14
    refine Z2 14 ?_
    refine A7 _ rfl (decide_eq_true ZO) ?_
    refine Z2 3 ?_
    refine AF (C5 121 [Ptr nb2 0, .iface 50 (I64 2)] 4 (Ez nb2 [errV 50 (eQ z0 11), SL ao4 zz4.length ca4] 204) _ (fun v e' l' => v = .tuple #[] ∧ e' = (Ez nb2 [errV 50 (erN (eQ z0 11) 2), SL ao4 zz4.length ca4] 204) ∧ l' = []) (AH _ DE rfl) rfl (by rintro v l ⟨rfl, rfl⟩; exact ⟨_, _, rfl, rfl, rfl, rfl, rfl⟩) (fun w1 hw1 => D5 nb2 (eQ z0 11) 2 (SL ao4 zz4.length ca4) w1 ZD (hw1.en 4 rfl))) rfl ?_
    rintro v1 L1 ⟨_, _, ⟨rfl, rfl, rfl⟩, rfl⟩
    show JL _ _ _ _ (_ :: _) [_, _, _, _, _]
    refine A1 ?_
    have hit : itZ z0 = true := hb10
    have hgl : z0.length < qI z0 11 (nI z0) := by have h9 := qI_ge z0 11 (nI z0); have h8 : nI z0 = (vQ z0 10 1).toNat + 1 := rfl; omega
    rw [show erN (eQ z0 11) 2 = eQ z0 (qI z0 11 (nI z0)) from erQ_q hgl]
    refine DZ [0, 1, 4, 2, 3] ZD ?_
    show JQ _ _ _ _ [_, _, _, _, _]
    refine BU ((qI z0 11 (nI z0), none, ([] : List ItemR), 0, 0, sg1, cs1, nT1, ao4, zz4, ca4)) ⟨(P1_t hit).symm, (fun h => absurd h ZO), rfl, ZO, .inl rfl, ZO, by first | omega | (unfold maxLen; omega), (fun h => absurd h ZO), (fun w M h => hA4 w M (hA3 w M (hA2 w M (hA1 w M h)))), ZO, ZO, ZO⟩ (Sub.all rfl) rfl
   obtain ⟨hiq, hi1, hi2, hi3, hi4, hi5, hi6, hi7, hi8, hi9, hi10, hi11, hi12⟩ := hx
   show JC _ _ _ [_, _, _, _, _, _, _] [_, _, _, _, _, _]
   refine Z2 6 ?_
   refine AX _ rfl (fun hb22 => ?_) (fun hb22 => ?_)
   ·
    have hp22 := of_decide_eq_true hb22
    refine Z2 7 ?_
    refine AF (BE 119 _ [false, false, false, false, true, false] [nb2] _ (AH _ Tryd.call119 rfl) rfl (fun w1 hw1 => flgQ_w nb2 qi aa zz.length cc z0 zz w1 (hw1.en 4 rfl) rfl ZO ZO ZO (hi9 _ _ (RdB.of hw1 (A0 1 rfl (AU (AG _))) (hw1.nm 1 4 rfl rfl ZD))) hi8)) rfl ?_
    rintro v1 L1 ⟨_, ⟨rfl, pq2, ao7, zz7, ca7, hpq2, hq7, ⟨hA7, hb23, hb24, hb25⟩, rfl⟩, rfl⟩
    show JL _ _ _ _ (_ :: _) [_, _, _, _, _, _]
    refine AE (.agg (List.toArray (α := Value) (V3 (fQ z0 qi) 0 (zr8 32) (zr8 16)))) (DN [(0, .bool (fQ z0 qi))] _ rfl (fun _ => bld163_0 rfl)) rfl ?_
    refine AF (AS _ (V7) DY ZR) rfl ?_
    rintro v1 L1 ⟨nb10, hnb10, rfl, rfl⟩
    show JL _ _ _ _ (_ :: _) [_, _, _, _, _, _, _]
    refine AC (AB 6 nb10 50 _ 163 (V3 (fQ z0 qi) 0 (zr8 32) (zr8 16)) rfl rfl rfl CN ZS (AQ (AQ ZC A6) A6) ZS (AI ZS)) rfl ?_
    show JL _ _ _ _ _ [_, _, _, _, _, _, _]
    refine Z2 9 ?_
    refine AX _ rfl (fun hb26 => ?_) (fun hb26 => ?_)
    ·
     refine Z2 2 ?_
     refine AF (BE 120 _ [false, false, false, false, false, true, false] [nb2] _ (AH _ Tryd.call120 rfl) rfl (fun w1 hw1 => sreadQ_c nb2 pq2 ao7 zz7.length ca7 z0 zz7 w1 (hw1.en 5 rfl) rfl ZO ZO ZO ((fun w M h => hA7 w M (hi9 w M h)) _ _ (RdB.of hw1 (A0 1 rfl (AU (AG _))) (hw1.nm 1 5 rfl rfl ZD))) hq7)) rfl ?_
     rintro v1 L1 ⟨_, ⟨rfl, ao8, zz8, ca8, hq8, ⟨hA8, hb27, hb28, hb29⟩, rfl⟩, rfl⟩
     show JL _ _ _ _ (_ :: _) [_, _, _, _, _, _, _]
     refine Z2 1 ?_
     refine AC (BT 5 nb10 1 49 _ 163 (.agg ([U64 (vQ z0 pq2 8)] ++ cu8 (bQ z0 (pq2 + 8) 32) ++ cu8 (bQ z0 (pq2 + 40) 16)).toArray) ([U64 (vQ z0 pq2 8)] ++ cu8 (bQ z0 (pq2 + 8) 32) ++ cu8 (bQ z0 (pq2 + 40) 16)) (V3 (fQ z0 qi) (vQ z0 pq2 8) (bQ z0 (pq2 + 8) 32) (bQ z0 (pq2 + 40) 16)) rfl rfl rfl (by first | rfl | simp) BC ZS (AQ (AQ ZC A6) A6) ZS (FL (a := [.bool (fQ z0 qi)]) (b := [U64 0] ++ cu8 (zr8 32) ++ cu8 (zr8 16)) (c := ([] : List Value)) (by simp only [List.append_assoc, List.cons_append, List.nil_append, List.append_nil]) ZS ZS (by simp only [List.append_assoc, List.cons_append, List.nil_append, List.append_nil]))) rfl ?_
     show JL _ _ _ _ _ [_, _, _, _, _, _, _]
     refine Z2 6 ?_
     refine AF (BF 163 50 _ [(0, .agg (List.toArray (α := Value) (V3 (fQ z0 qi) (vQ z0 pq2 8) (bQ z0 (pq2 + 8) 32) (bQ z0 (pq2 + 40) 16))))] (V3 (fQ z0 qi) (vQ z0 pq2 8) (bQ z0 (pq2 + 8) 32) (bQ z0 (pq2 + 40) 16)) C0 CN DY rfl rfl rfl (EL (Z := V7) ZS ZR (by simp [zr8]))) rfl ?_
     rintro v1 L1 ⟨nb11, hnb11, rfl, rfl⟩
     show JL _ _ _ _ (_ :: _) [_, _, _, _, _, _, _, _]
     refine AF (E1 64 163 64 (.agg (List.toArray (α := Value) (V7))) [false, false, false, false, true, false, false, false] (Slc gb 0 i cp) i ll (ItemR.mk (fQ z0 qi) (SealR.mk (vQ z0 pq2 8) (bQ z0 (pq2 + 8) 32) (bQ z0 (pq2 + 40) 16) (BG _ _ _) (BG _ _ _))) (some ⟨nb11, 0, none⟩) 1 (i + 1) C0 ZR ZR rfl (.inr ⟨gb, sp, cp, rfl, rfl, (by have h : (ll).length = i := hi4; omega), (by first | exact hi5 | omega), ZO, ZO⟩) rfl (SrcAt.mem (A0 7 rfl (AG _))) ZO ZO ZO) rfl ?_
     rintro v1 L1 ⟨nb12, sp4, cp4, hg3, rfl, rfl, ha9, ha10, ha11, ha12⟩
     show JL _ _ _ _ (_ :: _) [_, _, _, _, _, _, _, _]
     refine Z2 6 ?_
     refine AE (I64 ((i:Int) + 1)) (AT rfl rfl fun _ => BR _ _ ((i:Int) + 1) ZO ZO) rfl ?_
     refine Z2 2 ?_
     refine B5 (D7 [true, true, true, true, false, true, false, true] ?_)
     show K _ _ [_, _, _, _, _, _] _
     refine C1 (.inr ((pq2 + 56), i + 1, ll ++ [(ItemR.mk (fQ z0 qi) (SealR.mk (vQ z0 pq2 8) (bQ z0 (pq2 + 8) 32) (bQ z0 (pq2 + 40) 16) (BG _ _ _) (BG _ _ _)))], nb12, sp4, cp4, ao8, zz8, ca8)) ⟨qI_t (i := i) hiq hb26 hpq2, ZO, ZO, (by rw [itQ_suc, ← hiq, ← hi3]; exact congrArg (fun x => ll ++ [x]) (iQ_t hb26 hpq2 _ _)), (ha9).trans (by first | rfl | simp +arith), (ha10).trans (by first | rfl | simp +arith), ZO, ZO, hq8, (fun w M h => hA8 w M (hA7 w M (hi9 w M h))), ZO, ZO, ZO⟩ (by dsimp only; omega) (Sub.all rfl) rfl
    refine Z2 6 ?_
    refine AF (BF 163 50 _ [(0, .agg (List.toArray (α := Value) (V3 (fQ z0 qi) 0 (zr8 32) (zr8 16))))] (V3 (fQ z0 qi) 0 (zr8 32) (zr8 16)) C0 CN DY rfl rfl rfl (EL (Z := V7) ZS ZR (by simp [zr8]))) rfl ?_
    rintro v1 L1 ⟨nb13, hnb13, rfl, rfl⟩
    show JL _ _ _ _ (_ :: _) [_, _, _, _, _, _, _, _]
    refine AF (E1 64 163 64 (.agg (List.toArray (α := Value) (V7))) [false, false, false, false, true, false, false, false] (Slc gb 0 i cp) i ll (ItemR.mk (fQ z0 qi) (SealR.mk (0:UInt64) (zr8 32) (zr8 16) (AN 32) (AN 16))) (some ⟨nb13, 0, none⟩) 1 (i + 1) C0 ZR ZR rfl (.inr ⟨gb, sp, cp, rfl, rfl, (by have h : (ll).length = i := hi4; omega), (by first | exact hi5 | omega), ZO, ZO⟩) rfl (SrcAt.mem (A0 7 rfl (AG _))) ZO ZO ZO) rfl ?_
    rintro v1 L1 ⟨nb14, sp5, cp5, hg4, rfl, rfl, ha13, ha14, ha15, ha16⟩
    show JL _ _ _ _ (_ :: _) [_, _, _, _, _, _, _, _]
    refine Z2 6 ?_
    refine AE (I64 ((i:Int) + 1)) (AT rfl rfl fun _ => BR _ _ ((i:Int) + 1) ZO ZO) rfl ?_
    refine Z2 2 ?_
    refine B5 (D7 [true, true, true, true, true, false, false, true] ?_)
    show K _ _ [_, _, _, _, _, _] _
    refine C1 (.inr (pq2, i + 1, ll ++ [(ItemR.mk (fQ z0 qi) (SealR.mk (0:UInt64) (zr8 32) (zr8 16) (AN 32) (AN 16)))], nb14, sp5, cp5, ao7, zz7, ca7)) ⟨qI_f (i := i) hiq hb26 hpq2, ZO, ZO, (by rw [itQ_suc, ← hiq, ← hi3]; exact congrArg (fun x => ll ++ [x]) (iQ_f hb26 _ _)), (ha13).trans (by first | rfl | simp +arith), (ha14).trans (by first | rfl | simp +arith), ZO, ZO, hq7, (fun w M h => hA7 w M (hi9 w M h)), ZO, ZO, ZO⟩ (by dsimp only; omega) (Sub.all rfl) rfl
   have hp22 := of_decide_eq_false hb22
   refine Z2 14 ?_
   refine AX _ rfl (fun hb30 => ?_) (fun hb30 => ?_)
   ·
    have hp30 := of_decide_eq_true hb30
    refine Z2 3 ?_
    refine AF (C5 121 [Ptr nb2 0, .iface 50 (I64 2)] 4 (Ez nb2 [errV 50 (eQ z0 qi), SL aa zz.length cc] 204) _ (fun v e' l' => v = .tuple #[] ∧ e' = (Ez nb2 [errV 50 (erN (eQ z0 qi) 2), SL aa zz.length cc] 204) ∧ l' = []) (AH _ DE rfl) rfl (by rintro v l ⟨rfl, rfl⟩; exact ⟨_, _, rfl, rfl, rfl, rfl, rfl⟩) (fun w1 hw1 => D5 nb2 (eQ z0 qi) 2 (SL aa zz.length cc) w1 ZD (hw1.en 4 rfl))) rfl ?_
    rintro v1 L1 ⟨_, _, ⟨rfl, rfl, rfl⟩, rfl⟩
    show JL _ _ _ _ (_ :: _) [_, _, _, _, _, _]
    refine A1 ?_
    have hit : itZ z0 = true := hb10
    have ei : m = i := by omega
    subst ei
    have hgl : z0.length < qI z0 11 (nI z0) := by have h9 := qI_ge z0 11 (nI z0); have h8 : nI z0 = (vQ z0 10 1).toNat + 1 := rfl; omega
    rw [show erN (eQ z0 qi) 2 = eQ z0 (qI z0 11 (nI z0)) from erQ_q hgl]
    refine DZ [0, 1, 4, 2, 5] ZD ?_
    show JQ _ _ _ _ [_, _, _, _, _]
    refine BU ((qI z0 11 (nI z0), (some ⟨gb, 0, none⟩), ll, m, cp, gb, (ll).flatMap itemC ++ sp, 163, aa, zz, cc)) ⟨(P1_t hit).symm, (fun h => absurd h ZO), hi4, ZO, .inr ⟨rfl, _, rfl⟩, ZO, by first | omega | (unfold maxLen; omega), (fun h => absurd h ZO), hi9, ZO, ZO, ZO⟩ (Sub.all rfl) rfl
   have hp30 := of_decide_eq_false hb30
   refine CY ?_
   have hit : itZ z0 = true := hb10
   have ei : m = i := by omega
   subst ei
   have en : m = nI z0 := by have h8 : nI z0 = (vQ z0 10 1).toNat + 1 := rfl; omega
   subst en
   refine DZ [0, 1, 4, 2, 5] ZD ?_
   show JQ _ _ _ _ [_, _, _, _, _]
   refine BU ((qi, (some ⟨gb, 0, none⟩), ll, nI z0, cp, gb, (ll).flatMap itemC ++ sp, 163, aa, zz, cc)) ⟨(hiq.trans (P1_t hit).symm), (fun _ => hi3.trans (ljZ_t hit).symm), hi4, ZO, .inr ⟨rfl, _, rfl⟩, ZO, by first | omega | (unfold maxLen; omega), hi8, hi9, ZO, ZO, ZO⟩ (Sub.all rfl) rfl
  refine CY ?_
  have hit : itZ z0 = false := hb10
  refine BU ((10, none, ([] : List ItemR), 0, 0, sg1, cs1, nT1, ao3, zz3, ca3)) ⟨(P1_f hit).symm, (fun _ => (ljZ_f hit).symm), rfl, ZO, .inl rfl, ZO, by first | omega | (unfold maxLen; omega), hq3, (fun w M h => hA3 w M (hA2 w M (hA1 w M h))), ZO, ZO, ZO⟩ (Sub.all rfl) rfl
 rintro ⟨qa, ja, jl, jn, jc, jg, jcs, jT, ra, zr, rc⟩ hx
 obtain ⟨hqa, hja, hjl, hjn, hjg, hjc, hjm, hrq, hrA, hr1, hr2, hr3⟩ := hx
 show JQ _ _ _ [_, _, _, _] [_, _, _, _, _]
 refine AK (A4 (ED (ι := Nat × Bool × Option Addr × List UInt8 × Nat) (fun ⟨qb, th, rb, zb, sb⟩ => [(2, Ptr nb1 0), (3, .nilIface), (4, Ptr nb2 0), (5, Ptr nb4 0)]) (fun ⟨qb, th, rb, zb, sb⟩ => [(Ez nb1 (V6) 67), (Ez nb3 (cu8 z0 ++ sp1) 5), (Ez nb2 [errV 50 (eQ z0 qb), SL rb zb.length sb] 204), (Ez nb4 (V0 (vQ z0 0 8) (((vQ z0 8 1).toNat:Int)) (((vQ z0 9 1).toNat:Int)) ja jn jc th 0 0 0 none 0 0 none 0 0 0 (zr8 16) none 0 0 none 0 0) 67), (Ez jg jcs jT)]) (fun ⟨qb, th, rb, zb, sb⟩ => qb = P2 z0 ∧ th = thZ z0 ∧ Lq z0 zb qb ∧ (∀ w M, RdB w M (some ⟨nb3, 0, none⟩) z0 → RdB w M rb zb) ∧ zb.length ≤ sb ∧ sb ≤ maxLen ∧ zb.length ≤ n) ?_ ?_))
 ·
  refine Z2 6 ?_
  rcases Bool.eq_false_or_eq_true (decide ((((vQ z0 9 1).toNat:Int)) = (0:Int))) with hb31 | hb31
  ·
   have hp31 := of_decide_eq_true hb31
   refine Z2 6 ?_
   refine AX _ rfl (fun hb32 => ?_) (fun hb32 => ?_)
   ·
    have hp32 := of_decide_eq_true hb32
    refine Z2 2 ?_
    refine AF (BE 119 _ [false, false, true, false, false] [nb2] _ (AH _ Tryd.call119 rfl) rfl (fun w1 hw1 => flgQ_w nb2 qa ra zr.length rc z0 zr w1 (hw1.en 2 rfl) rfl ZO ZO ZO (hrA _ _ (RdB.of hw1 (A0 1 rfl (AU (AG _))) (hw1.nm 1 2 rfl rfl ZD))) hrq)) rfl ?_
    rintro v1 L1 ⟨_, ⟨rfl, pq3, ao9, zz9, ca9, hpq3, hq9, ⟨hA9, hb33, hb34, hb35⟩, rfl⟩, rfl⟩
    show JL _ _ _ _ (_ :: _) [_, _, _, _, _]
    refine Z2 3 ?_
    have hf4 : F4 z0 = true := F4_t hb31 hb32
    refine DZ [0, 1, 4, 2, 3] ZD ?_
    show JQ _ _ _ _ [_, _, _, _, _]
    refine BU ((pq3, fQ z0 qa, ao9, zz9, ca9)) ⟨by rw [P2_t hf4, ← hqa]; exact hpq3, by rw [thZ_t hf4, ← hqa], hq9, (fun w M h => hA9 w M (hrA w M h)), ZO, ZO, ZO⟩ (Sub.all rfl) rfl
   have hp32 := of_decide_eq_false hb32
   refine CY ?_
   have hf4 : F4 z0 = false := F4_n4 hb32
   refine BU ((qa, false, ra, zr, rc)) ⟨hqa.trans (P2_f hf4).symm, (thZ_f hf4).symm, hrq, hrA, ZO, ZO, ZO⟩ (Sub.all rfl) rfl
  have hp31 := of_decide_eq_false hb31
  refine Z2 6 ?_
  refine AY _ rfl rfl ?_
  refine CY ?_
  have hf4 : F4 z0 = false := F4_n0 hb31
  refine BU ((qa, false, ra, zr, rc)) ⟨hqa.trans (P2_f hf4).symm, (thZ_f hf4).symm, hrq, hrA, ZO, ZO, ZO⟩ (Sub.all rfl) rfl
 rintro ⟨qb, th, rb, zb, sb⟩ hx
 obtain ⟨hqb, hth, hsq, hsA, hs1, hs2, hs3⟩ := hx
 show JQ _ _ _ [_, _, _, _] [_, _, _, _, _]
 refine Z2 4 ?_
 refine AF (A5 95 _ _ (AH _ Tryd.call95 rfl) (fun w1 hw1 => partsG_c (vQ z0 0 8) (((vQ z0 8 1).toNat:Int)) (((vQ z0 9 1).toNat:Int)) ja jn jc jl th (0:UInt64) (0:UInt64) (0:Int) none 0 0 ([] : List UInt64) none 0 0 ([] : List SealR) (0:UInt64) (zr8 16) none 0 0 [] none 0 0 [] w1 (AN 16))) rfl ?_
 rintro v1 L1 ⟨_, ⟨sg2, cs2, nT2, rfl, rfl⟩, rfl⟩
 show JL _ _ _ _ (_ :: _) [_, _, _, _, _, _]
 refine Z2 17 ?_
 refine AX _ rfl (fun hb36 => ?_) (fun hb36 => ?_)
 ·
  refine Z2 2 ?_
  refine AF (BE 60 _ [false, false, true, false, false, false] [nb2] _ (AH _ Tryd.call60 rfl) rfl (fun w1 hw1 => treadU_w nb2 qb rb zb.length sb z0 zb w1 (hw1.en 2 rfl) rfl ZO ZO ZO (hsA _ _ (RdB.of hw1 (A0 1 rfl (AU (AG _))) (hw1.nm 1 2 rfl rfl ZD))) hsq)) rfl ?_
  rintro v1 L1 ⟨_, ⟨tv1, te1, tk1, tn1, tl1, tm1, ts1, tb1, tg1, tt1, tq1, ao10, zz10, ca10, ng1, cs3, nT3, na1, nc1, ng2, cs4, nT4, na2, nc2, hT1, hpq4, hc4, hc5, hc6, hc7, hc8, hq10, ⟨hA10, hb37, hb38, hb39⟩, rfl, rfl, hc9, hc10, hc11, hc12, hc13, hc14⟩, rfl⟩
  show JL _ _ _ _ (_ :: _) [_, _, _, _, _, _, _, _]
  refine Z2 1 ?_
  refine AC (BT 2 nb4 5 22 _ 67 (.agg (V2 tv1 te1 (tk1) na1 tn1 nc1 na2 tm1 nc2 tb1 tg1).toArray) (V2 tv1 te1 (tk1) na1 tn1 nc1 na2 tm1 nc2 tb1 tg1) (V0 (vQ z0 0 8) (((vQ z0 8 1).toNat:Int)) (((vQ z0 9 1).toNat:Int)) ja jn jc th tv1 te1 (tk1) na1 tn1 nc1 na2 tm1 nc2 tb1 tg1 none 0 0 none 0 0) rfl rfl rfl (by first | rfl | simp) BH (by simp [hc6]) (AQ ZC A6) ZS (FL (a := [U64 (vQ z0 0 8), I64 (((vQ z0 8 1).toNat:Int)), I64 (((vQ z0 9 1).toNat:Int)), SL ja jn jc, .bool th]) (b := V4) (c := [SL none 0 0, SL none 0 0]) (by simp only [List.append_assoc, List.cons_append, List.nil_append, List.append_nil]) (by simp [(AN 16), hc6]) (by simp [(AN 16), hc6]) (by simp only [List.append_assoc, List.cons_append, List.nil_append, List.append_nil]))) rfl ?_
  show JL _ _ _ _ _ [_, _, _, _, _, _, _, _]
  refine A1 (AK (A4 (ED (ι := Nat × Option Addr × Nat × Nat × List UInt8 × Nat × List Value × Nat × Option Addr × List UInt8 × Nat) (fun ⟨qhA, haA, hnA, hkA, hxA, hgA, hcsA, hTA, raA, zrA, rcA⟩ => [(2, Ptr nb1 0), (3, .nilIface), (4, Ptr nb2 0), (5, Ptr nb4 0), (15, .bool (bB (((vQ z0 9 1).toNat:Int)) (((vQ z0 8 1).toNat:Int)) th))]) (fun ⟨qhA, haA, hnA, hkA, hxA, hgA, hcsA, hTA, raA, zrA, rcA⟩ => [(Ez nb1 (V6) 67), (Ez nb3 (cu8 z0 ++ sp1) 5), (Ez nb4 (V0 (vQ z0 0 8) (((vQ z0 8 1).toNat:Int)) (((vQ z0 9 1).toNat:Int)) ja jn jc th tv1 te1 (tk1) na1 tn1 nc1 na2 tm1 nc2 tb1 tg1 haA hnA hkA none 0 0) 67), (Ez jg jcs jT), (Ez nb2 [errV 50 (eQ z0 qhA), SL raA zrA.length rcA] 204), (Ez ng1 cs3 nT3), (Ez ng2 cs4 nT4), (Ez hgA hcsA hTA)]) (fun ⟨qhA, haA, hnA, hkA, hxA, hgA, hcsA, hTA, raA, zrA, rcA⟩ => qhA = P4 z0 ∧ (qhA ≤ z0.length → (hnA = naZ z0 ∧ hxA = xaZ z0) ∧ 32 * hnA ≤ qhA) ∧ hxA.length = hnA*32 ∧ Gh (cu8 hxA) hgA hcsA haA ∧ hnA ≤ hkA ∧ hkA ≤ maxLen ∧ Lq z0 zrA qhA ∧ (∀ w M, RdB w M (some ⟨nb3, 0, none⟩) z0 → RdB w M raA zrA) ∧ zrA.length ≤ rcA ∧ rcA ≤ maxLen ∧ zrA.length ≤ n) ?_ ?_)))
  ·
   refine A4 ?_
   have hch : chZ z0 = true := by unfold chZ; rw [← hth]; exact hb36
   have htn : tt1 = tkN (z0.drop qb) := TkR.tot hT1
   have p3 : P3 z0 = tq1 := by rw [P3_t hch, ← hqb, ← htn]; omega
   refine Z2 4 ?_
   refine A7 _ rfl (aB_ch hb36) ?_
   refine Z2 2 ?_
   refine AF (BE 122 _ [false, false, false, false, false, true, false, false] [nb2] _ (AH _ Tryd.call122 rfl) rfl (fun w1 hw1 => listQ_c nb2 tq1 ao10 zz10.length ca10 z0 zz10 w1 (hw1.en 5 rfl) rfl ZO ZO ZO ((fun w M h => hA10 w M (hsA w M h)) _ _ (RdB.of hw1 (A0 1 rfl (AU (AG _))) (hw1.nm 1 5 rfl rfl ZD))) hq10)) rfl ?_
   rintro v1 L1 ⟨_, ⟨pq4, ao11, zz11, ca11, nm1, hpq5, hq11, ⟨hA11, hb40, hb41, hb42⟩, hm1, hme1, (⟨hm3, rfl, rfl⟩ | ⟨hm2, nb15, sp6, cp6, rfl, rfl, hc15, hc16, hc17⟩)⟩, rfl⟩
   ·
    show JL _ _ _ _ (_ :: _) [_, _, _, _, _, _, _, _]
    refine Z2 1 ?_
    refine AC (BT 2 nb4 27 1 _ 67 (SL none 0 0) ([SL none 0 0]) (V0 (vQ z0 0 8) (((vQ z0 8 1).toNat:Int)) (((vQ z0 9 1).toNat:Int)) ja jn jc th tv1 te1 (tk1) na1 tn1 nc1 na2 tm1 nc2 tb1 tg1 none 0 0 none 0 0) rfl rfl rfl rfl D2 rfl ZC (by simp [hc6]) (DB 27 0 (by simp [hc6]) rfl (rfl))) rfl ?_
    show JL _ _ _ _ _ [_, _, _, _, _, _, _, _]
    refine A1 ?_
    have hzA : aZ z0 = true := by unfold aZ; rw [← hth]; exact (aB_ch hb36)
    refine DZ [0, 1, 2, 3, 7, 5, 6, 4] ZD ?_
    show JQ _ _ _ _ [_, _, _, _, _, _, _, _]
    refine BU ((pq4, none, 0, 0, [], sg2, cs2, nT2, ao11, zz11, ca11)) ⟨by rw [P4_t hzA, p3]; exact hpq5, (fun h => by have h9 : 0 = hN z0 tq1 := (by have h8 := hme1 h; omega); rw [(A_t hzA).1, (A_t hzA).2, p3, ← h9]; exact ⟨⟨rfl, (hQ_zero _ _).symm⟩, ZO⟩), rfl, .inl rfl, ZO, by first | omega | (unfold maxLen; omega), hq11, (fun w M h => hA11 w M (hA10 w M (hsA w M h))), ZO, ZO, ZO⟩ (Sub.all rfl) rfl
   show JL _ _ _ _ (_ :: _) [_, _, _, _, _, _, _, _, _]
   refine Z2 1 ?_
   refine AC (BT 2 nb4 27 1 _ 67 (Slc nb15 0 nm1 cp6) ([Slc nb15 0 nm1 cp6]) ([U64 (vQ z0 0 8), I64 (((vQ z0 8 1).toNat:Int)), I64 (((vQ z0 9 1).toNat:Int)), SL ja jn jc, .bool th, U64 tv1, U64 te1, I64 (tk1), SL na1 tn1 nc1, SL na2 tm1 nc2, U64 tb1] ++ cu8 tg1 ++ [Slc nb15 0 nm1 cp6, SL none 0 0]) rfl rfl rfl rfl D2 rfl ZC (by simp [hc6]) (DB 27 0 (by simp [hc6]) rfl (rfl))) rfl ?_
   show JL _ _ _ _ _ [_, _, _, _, _, _, _, _, _]
   refine A1 ?_
   have hzA : aZ z0 = true := by unfold aZ; rw [← hth]; exact (aB_ch hb36)
   refine DZ [0, 1, 2, 3, 7, 5, 6, 8] ZD ?_
   show JQ _ _ _ _ [_, _, _, _, _, _, _, _]
   refine BU ((pq4, (some ⟨nb15, 0, none⟩), nm1, cp6, hQ z0 (tq1 + 2) nm1, nb15, cu8 (hQ z0 (tq1 + 2) nm1) ++ sp6, 54, ao11, zz11, ca11)) ⟨by rw [P4_t hzA, p3]; exact hpq5, (fun h => by have h9 := hme1 h; rw [(A_t hzA).1, (A_t hzA).2, p3, ← h9]; exact ⟨⟨rfl, rfl⟩, ZO⟩), (hQ_len _ _ _), .inr ⟨rfl, _, rfl⟩, ZO, by first | omega | (unfold maxLen; omega), hq11, (fun w M h => hA11 w M (hA10 w M (hsA w M h))), ZO, ZO, ZO⟩ (Sub.all rfl) rfl
  rintro ⟨qhA, haA, hnA, hkA, hxA, hgA, hcsA, hTA, raA, zrA, rcA⟩ hx
  obtain ⟨hqhA, hnhA, hxlA, hghA, hnkA, hkmA, hrqA, hrAA, hr1A, hr2A, hr3A⟩ := hx
  show JQ _ _ _ [_, _, _, _, _] [_, _, _, _, _, _, _, _]
  refine AK (A4 (ED (ι := (Nat × Option Addr × Nat × Nat × List UInt8 × Nat × List Value × Nat × Option Addr × List UInt8 × Nat) ⊕ (Nat × Option Addr × List UInt8 × Nat)) (fun x => match x with | .inl ⟨qhB, haB, hnB, hkB, hxB, hgB, hcsB, hTB, raB, zrB, rcB⟩ => [(2, Ptr nb1 0), (3, .nilIface), (4, Ptr nb2 0), (5, Ptr nb4 0)] | .inr ⟨qhB, raB, zrB, rcB⟩ => [(2, Ptr nb1 0), (3, .nilIface), (4, Ptr nb2 0), (5, Ptr nb4 0)]) (fun x => match x with | .inl ⟨qhB, haB, hnB, hkB, hxB, hgB, hcsB, hTB, raB, zrB, rcB⟩ => [(Ez nb1 (V6) 67), (Ez nb3 (cu8 z0 ++ sp1) 5), (Ez nb4 (V0 (vQ z0 0 8) (((vQ z0 8 1).toNat:Int)) (((vQ z0 9 1).toNat:Int)) ja jn jc th tv1 te1 (tk1) na1 tn1 nc1 na2 tm1 nc2 tb1 tg1 haA hnA hkA haB hnB hkB) 67), (Ez jg jcs jT), (Ez nb2 [errV 50 (eQ z0 qhB), SL raB zrB.length rcB] 204), (Ez ng1 cs3 nT3), (Ez ng2 cs4 nT4), (Ez hgA hcsA hTA), (Ez hgB hcsB hTB)] | .inr ⟨qhB, raB, zrB, rcB⟩ => [(Ez nb1 (V6) 67), (Ez nb3 (cu8 z0 ++ sp1) 5), (Ez nb4 (V0 (vQ z0 0 8) (((vQ z0 8 1).toNat:Int)) (((vQ z0 9 1).toNat:Int)) ja jn jc th tv1 te1 (tk1) na1 tn1 nc1 na2 tm1 nc2 tb1 tg1 haA hnA hkA none 0 0) 67), (Ez jg jcs jT), (Ez nb2 [errV 50 (eQ z0 qhB), SL raB zrB.length rcB] 204), (Ez ng1 cs3 nT3), (Ez ng2 cs4 nT4), (Ez hgA hcsA hTA)]) (fun x => match x with | .inl ⟨qhB, haB, hnB, hkB, hxB, hgB, hcsB, hTB, raB, zrB, rcB⟩ => qhB = P5 z0 ∧ (qhB ≤ z0.length → (hnB = nbZ z0 ∧ hxB = xbZ z0) ∧ 32 * hnB ≤ qhB) ∧ hxB.length = hnB*32 ∧ Gh (cu8 hxB) hgB hcsB haB ∧ hnB ≤ hkB ∧ hkB ≤ maxLen ∧ Lq z0 zrB qhB ∧ (∀ w M, RdB w M (some ⟨nb3, 0, none⟩) z0 → RdB w M raB zrB) ∧ zrB.length ≤ rcB ∧ rcB ≤ maxLen ∧ zrB.length ≤ n | .inr ⟨qhB, raB, zrB, rcB⟩ => qhB = P5 z0 ∧ (qhB ≤ z0.length → (0 = nbZ z0 ∧ ([] : List UInt8) = xbZ z0) ∧ 32 * 0 ≤ qhB) ∧ Lq z0 zrB qhB ∧ (∀ w M, RdB w M (some ⟨nb3, 0, none⟩) z0 → RdB w M raB zrB) ∧ zrB.length ≤ rcB ∧ rcB ≤ maxLen ∧ zrB.length ≤ n) ?_ ?_))
  ·
   refine A4 ?_
   have p4 : P4 z0 = qhA := hqhA.symm
   refine Z2 4 ?_
   refine AX _ rfl (fun hb43 => ?_) (fun hb43 => ?_)
   ·
    refine Z2 2 ?_
    refine AF (BE 122 _ [false, false, false, false, true, false, false, false] [nb2] _ (AH _ Tryd.call122 rfl) rfl (fun w1 hw1 => listQ_c nb2 qhA raA zrA.length rcA z0 zrA w1 (hw1.en 4 rfl) rfl ZO ZO ZO (hrAA _ _ (RdB.of hw1 (A0 1 rfl (AU (AG _))) (hw1.nm 1 4 rfl rfl ZD))) hrqA)) rfl ?_
    rintro v1 L1 ⟨_, ⟨pq5, ao12, zz12, ca12, nm2, hpq6, hq12, ⟨hA12, hb44, hb45, hb46⟩, hm4, hme2, (⟨hm6, rfl, rfl⟩ | ⟨hm5, nb16, sp7, cp7, rfl, rfl, hc18, hc19, hc20⟩)⟩, rfl⟩
    ·
     show JL _ _ _ _ (_ :: _) [_, _, _, _, _, _, _, _]
     refine Z2 1 ?_
     refine AC (BT 2 nb4 28 1 _ 67 (SL none 0 0) ([SL none 0 0]) (V0 (vQ z0 0 8) (((vQ z0 8 1).toNat:Int)) (((vQ z0 9 1).toNat:Int)) ja jn jc th tv1 te1 (tk1) na1 tn1 nc1 na2 tm1 nc2 tb1 tg1 haA hnA hkA none 0 0) rfl rfl rfl rfl D2 rfl ZC (by simp [hc6]) (DB 27 1 (by simp [hc6]) rfl (rfl))) rfl ?_
     show JL _ _ _ _ _ [_, _, _, _, _, _, _, _]
     refine A1 ?_
     have hzB : bZ z0 = true := by unfold bZ; rw [← hth]; exact hb43
     refine DZ [0, 1, 2, 3, 7, 4, 5, 6] ZD ?_
     show JQ _ _ _ _ [_, _, _, _, _, _, _, _]
     refine BU (.inr (pq5, ao12, zz12, ca12)) ⟨by rw [P5_t hzB, p4]; exact hpq6, (fun h => by have h9 : 0 = hN z0 qhA := (by have h8 := hme2 h; omega); rw [(B_t hzB).1, (B_t hzB).2, p4, ← h9]; exact ⟨⟨rfl, (hQ_zero _ _).symm⟩, ZO⟩), hq12, (fun w M h => hA12 w M (hrAA w M h)), ZO, ZO, ZO⟩ (Sub.all rfl) rfl
    show JL _ _ _ _ (_ :: _) [_, _, _, _, _, _, _, _, _]
    refine Z2 1 ?_
    refine AC (BT 2 nb4 28 1 _ 67 (Slc nb16 0 nm2 cp7) ([Slc nb16 0 nm2 cp7]) ([U64 (vQ z0 0 8), I64 (((vQ z0 8 1).toNat:Int)), I64 (((vQ z0 9 1).toNat:Int)), SL ja jn jc, .bool th, U64 tv1, U64 te1, I64 (tk1), SL na1 tn1 nc1, SL na2 tm1 nc2, U64 tb1] ++ cu8 tg1 ++ [SL haA hnA hkA, Slc nb16 0 nm2 cp7]) rfl rfl rfl rfl D2 rfl ZC (by simp [hc6]) (DB 27 1 (by simp [hc6]) rfl (rfl))) rfl ?_
    show JL _ _ _ _ _ [_, _, _, _, _, _, _, _, _]
    refine A1 ?_
    have hzB : bZ z0 = true := by unfold bZ; rw [← hth]; exact hb43
    refine DZ [0, 1, 2, 3, 7, 4, 5, 6, 8] ZD ?_
    show JQ _ _ _ _ [_, _, _, _, _, _, _, _, _]
    refine BU (.inl (pq5, (some ⟨nb16, 0, none⟩), nm2, cp7, hQ z0 (qhA + 2) nm2, nb16, cu8 (hQ z0 (qhA + 2) nm2) ++ sp7, 54, ao12, zz12, ca12)) ⟨by rw [P5_t hzB, p4]; exact hpq6, (fun h => by have h9 := hme2 h; rw [(B_t hzB).1, (B_t hzB).2, p4, ← h9]; exact ⟨⟨rfl, rfl⟩, ZO⟩), (hQ_len _ _ _), .inr ⟨rfl, _, rfl⟩, ZO, by first | omega | (unfold maxLen; omega), hq12, (fun w M h => hA12 w M (hrAA w M h)), ZO, ZO, ZO⟩ (Sub.all rfl) rfl
   refine CY ?_
   have hzB : bZ z0 = false := by unfold bZ; rw [← hth]; exact hb43
   refine BU (.inr (qhA, raA, zrA, rcA)) ⟨p4.symm.trans (P5_f hzB).symm, (fun _ => ⟨⟨(B_f hzB).1.symm, (B_f hzB).2.symm⟩, ZO⟩), hrqA, hrAA, ZO, ZO, ZO⟩ (Sub.all rfl) rfl
  rintro (⟨qhB, haB, hnB, hkB, hxB, hgB, hcsB, hTB, raB, zrB, rcB⟩ | ⟨qhB, raB, zrB, rcB⟩) hx
  ·
   obtain ⟨hqhB, hnhB, hxlB, hghB, hnkB, hkmB, hrqB, hrAB, hr1B, hr2B, hr3B⟩ := hx
   show JQ _ _ _ [_, _, _, _] [_, _, _, _, _, _, _, _, _]
   refine Z2 3 ?_
   have hch : chZ z0 = true := by unfold chZ; rw [← hth]; exact hb36
   have htn : tt1 = tkN (z0.drop qb) := TkR.tot hT1
   have htk := (Or.inl ⟨hch, by rw [← hqb, ← htn]; exact hT1⟩ : TkZ z0 tv1 te1 tk1 tl1 ts1 tb1 tg1)
   have hbd : endN (eQ z0 qhB) zrB.length = 0 → qhB = z0.length := (E4 hrqB).1
   have g1 := P2_ge z0
   have g2 := P3_ge z0
   have g3 := P4_ge z0
   have g4 := P5_ge z0
   refine Z2 2 ?_
   refine AC (AJ 63 _ (errV 50 (endN (eQ z0 qhB) zrB.length)) (AH _ DF rfl) (fun w1 hw1 => end_w nb2 (eQ z0 qhB) raB zrB.length rcB w1 (RdA.of hw1 (A0 4 rfl (AG _)) ZM))) rfl ?_
   show JL _ _ _ _ (_ :: _) [_, _, _, _, _, _, _, _, _]
   refine AE (.bool (!(decide (endN (eQ z0 qhB) zrB.length = 0)))) (CG _ _ _ rfl rfl (fun _ => BL ..) fun _ => CW AV _ _) rfl ?_
   refine Z2 1 ?_
   rcases Bool.eq_false_or_eq_true (decide (endN (eQ z0 qhB) zrB.length = 0)) with hb47 | hb47
   ·
    have hp47 := of_decide_eq_true hb47
    refine Z2 1 ?_
    refine B6 3 101 false _ rfl rfl (bnotT hb47) (AJ 35 _ (.bool (repR (((vQ z0 8 1).toNat:Int)) (((vQ z0 9 1).toNat:Int)) th jl (blankB tv1 te1 (tk1) tl1 ts1 tb1 tg1) (decide (mayN tv1 te1 (tk1) tl1 ts1 tb1 = 0)) hnA hnB)) (AH _ Tryd.call35 rfl) (fun w1 hw1 => rightRep_c (vQ z0 0 8) (((vQ z0 8 1).toNat:Int)) (((vQ z0 9 1).toNat:Int)) ja jn jc jl th tv1 te1 (tk1) na1 tn1 nc1 tl1 na2 tm1 nc2 ts1 tb1 tg1 haA hnA hkA hxA haB hnB hkB hxB w1 hjl ZO ZO ZO (Gh.at hw1 3 rfl hjg) hc4 ZO ZO ZO (Gh.at hw1 5 rfl hc9) hc5 ZO ZO ZO (Gh.at hw1 6 rfl hc12) hc6 hxlA ZO ZO ZO (Gh.rdB hw1 7 rfl hghA) hxlB ZO ZO ZO (Gh.rdB hw1 8 rfl hghB) ZO ZO)) rfl ?_
    rintro v1 L1 ⟨rfl, rfl⟩
    show JL _ _ _ _ (_ :: _) [_, _, _, _, _, _, _, _, _]
    refine Z2 4 ?_
    refine AX _ rfl (fun hb48 => ?_) (fun hb48 => ?_)
    ·
     have hb49 : (repR (((vQ z0 8 1).toNat:Int)) (((vQ z0 9 1).toNat:Int)) th jl (blankB tv1 te1 (tk1) tl1 ts1 tb1 tg1) (decide (mayN tv1 te1 (tk1) tl1 ts1 tb1 = 0)) hnA hnB) = false := by simpa using hb48
     refine A4 (AO (AE (.agg (V6).toArray) Ze rfl ?_))
     refine Z2 1 ?_
     refine AC (AB 0 nb1 29 _ 67 (V6) rfl rfl rfl DD ZS (AQ (AQ ZC A6) ZC) ZS (AI ZS)) rfl ?_
     show JL _ _ _ _ _ [_, _, _, _, _, _, _, _, _]
     refine Z2 5 ?_
     refine Z1 fun w1 hw1 => ?_
     have he : qhB = z0.length := (E4 hrqB).1 (by have h9 := of_decide_eq_true hb47; omega)
     have hA := hnhA ZO
     have hB := hnhB ZO
     exact ⟨_, _, rfl, .inr ⟨BadRp.of ⟨hqhB.symm.trans he, rfl, rfl, rfl, hja ZO, hth, htk, hA.1.1, hA.1.2, hB.1.1, hB.1.2⟩ hb49, rfl, _, _, _, _, _, _, _, _, _, _, _, _, _, _, _, rfl⟩, Hp.pick hw1 [0, 1, 2, 3, 4] ⟨rfl, rfl, rfl, rfl, rfl, trivial⟩ ZD⟩
    have hb50 : (repR (((vQ z0 8 1).toNat:Int)) (((vQ z0 9 1).toNat:Int)) th jl (blankB tv1 te1 (tk1) tl1 ts1 tb1 tg1) (decide (mayN tv1 te1 (tk1) tl1 ts1 tb1 = 0)) hnA hnB) = true := by simpa using hb48
    refine Z2 5 ?_
    refine AC (AB 0 nb1 29 _ 67 (V0 (vQ z0 0 8) (((vQ z0 8 1).toNat:Int)) (((vQ z0 9 1).toNat:Int)) ja jn jc th tv1 te1 (tk1) na1 tn1 nc1 na2 tm1 nc2 tb1 tg1 haA hnA hkA haB hnB hkB) rfl rfl rfl DD (by simp [hc6]) (AQ (AQ ZC A6) ZC) ZS (AI (by simp [(AN 16), hc6]))) rfl ?_
    show JL _ _ _ _ _ [_, _, _, _, _, _, _, _, _]
    refine Z2 4 ?_
    refine Z1 fun w1 hw1 => ?_
    have he : qhB = z0.length := (E4 hrqB).1 (by have h9 := of_decide_eq_true hb47; omega)
    have hA := hnhA ZO
    have hB := hnhB ZO
    exact ⟨_, _, rfl, .inl ⟨_, _, _, jn, _, _, _, _, _, tn1, _, tm1, _, _, _, hnA, _, hnB, _, _, _, _, ja, jc, _, _, _, na1, nc1, _, _, _, na2, nc2, _, _, _, haA, hkA, _, _, _, haB, hkB, ⟨⟨hqhB.symm.trans he, rfl, rfl, rfl, hja ZO, hth, htk, hA.1.1, hA.1.2, hB.1.1, hB.1.2⟩, hb50⟩, hjl, hc4, hc5, hc6, ZO, hc7, hc8, hxlA, hxlB, rfl, rfl, hjg, by first | omega | (unfold maxLen; omega), by first | omega | (unfold maxLen; omega), hc9, by first | omega | (unfold maxLen; omega), by first | omega | (unfold maxLen; omega), hc12, by first | omega | (unfold maxLen; omega), by first | omega | (unfold maxLen; omega), hghA, by first | omega | (unfold maxLen; omega), by first | omega | (unfold maxLen; omega), hghB, by first | omega | (unfold maxLen; omega), by first | omega | (unfold maxLen; omega)⟩, Hp.pick hw1 [3, 5, 6, 7, 8] ⟨rfl, rfl, rfl, rfl, rfl, trivial⟩ ZD⟩
   have hp47 := of_decide_eq_false hb47
   refine Z2 6 ?_
   refine A7 _ rfl rfl ?_
   refine A4 (AO (AE (.agg (V6).toArray) Ze rfl ?_))
   refine Z2 1 ?_
   refine AC (AB 0 nb1 29 _ 67 (V6) rfl rfl rfl DD ZS (AQ (AQ ZC A6) ZC) ZS (AI ZS)) rfl ?_
   show JL _ _ _ _ _ [_, _, _, _, _, _, _, _, _]
   refine Z2 5 ?_
   refine Z1 fun w1 hw1 => ?_
   exact ⟨_, _, rfl, .inr ⟨BadRp.far (fun e => (of_decide_eq_false hb47) ((E4 hrqB).2 (hqhB.trans e))), rfl, _, _, _, _, _, _, _, _, _, _, _, _, _, _, _, rfl⟩, Hp.pick hw1 [0, 1, 2, 3, 4] ⟨rfl, rfl, rfl, rfl, rfl, trivial⟩ ZD⟩
  obtain ⟨hqhB, hnhB, hrqB, hrAB, hr1B, hr2B, hr3B⟩ := hx
  show JQ _ _ _ [_, _, _, _] [_, _, _, _, _, _, _, _]
  refine Z2 3 ?_
  have hch : chZ z0 = true := by unfold chZ; rw [← hth]; exact hb36
  have htn : tt1 = tkN (z0.drop qb) := TkR.tot hT1
  have htk := (Or.inl ⟨hch, by rw [← hqb, ← htn]; exact hT1⟩ : TkZ z0 tv1 te1 tk1 tl1 ts1 tb1 tg1)
  have hbd : endN (eQ z0 qhB) zrB.length = 0 → qhB = z0.length := (E4 hrqB).1
  have g1 := P2_ge z0
  have g2 := P3_ge z0
  have g3 := P4_ge z0
  have g4 := P5_ge z0
  refine Z2 2 ?_
  refine AC (AJ 63 _ (errV 50 (endN (eQ z0 qhB) zrB.length)) (AH _ DF rfl) (fun w1 hw1 => end_w nb2 (eQ z0 qhB) raB zrB.length rcB w1 (RdA.of hw1 (A0 4 rfl (AG _)) ZM))) rfl ?_
  show JL _ _ _ _ (_ :: _) [_, _, _, _, _, _, _, _]
  refine AE (.bool (!(decide (endN (eQ z0 qhB) zrB.length = 0)))) (CG _ _ _ rfl rfl (fun _ => BL ..) fun _ => CW AV _ _) rfl ?_
  refine Z2 1 ?_
  rcases Bool.eq_false_or_eq_true (decide (endN (eQ z0 qhB) zrB.length = 0)) with hb51 | hb51
  ·
   have hp51 := of_decide_eq_true hb51
   refine Z2 1 ?_
   refine B6 3 101 false _ rfl rfl (bnotT hb51) (AJ 35 _ (.bool (repR (((vQ z0 8 1).toNat:Int)) (((vQ z0 9 1).toNat:Int)) th jl (blankB tv1 te1 (tk1) tl1 ts1 tb1 tg1) (decide (mayN tv1 te1 (tk1) tl1 ts1 tb1 = 0)) hnA 0)) (AH _ Tryd.call35 rfl) (fun w1 hw1 => rightRep_c (vQ z0 0 8) (((vQ z0 8 1).toNat:Int)) (((vQ z0 9 1).toNat:Int)) ja jn jc jl th tv1 te1 (tk1) na1 tn1 nc1 tl1 na2 tm1 nc2 ts1 tb1 tg1 haA hnA hkA hxA none 0 0 ([]) w1 hjl ZO ZO ZO (Gh.at hw1 3 rfl hjg) hc4 ZO ZO ZO (Gh.at hw1 5 rfl hc9) hc5 ZO ZO ZO (Gh.at hw1 6 rfl hc12) hc6 hxlA ZO ZO ZO (Gh.rdB hw1 7 rfl hghA) rfl ZO ZO ZX RdB.nil ZO ZO)) rfl ?_
   rintro v1 L1 ⟨rfl, rfl⟩
   show JL _ _ _ _ (_ :: _) [_, _, _, _, _, _, _, _]
   refine Z2 4 ?_
   refine AX _ rfl (fun hb52 => ?_) (fun hb52 => ?_)
   ·
    have hb53 : (repR (((vQ z0 8 1).toNat:Int)) (((vQ z0 9 1).toNat:Int)) th jl (blankB tv1 te1 (tk1) tl1 ts1 tb1 tg1) (decide (mayN tv1 te1 (tk1) tl1 ts1 tb1 = 0)) hnA 0) = false := by simpa using hb52
    refine A4 (AO (AE (.agg (V6).toArray) Ze rfl ?_))
    refine Z2 1 ?_
    refine AC (AB 0 nb1 29 _ 67 (V6) rfl rfl rfl DD ZS (AQ (AQ ZC A6) ZC) ZS (AI ZS)) rfl ?_
    show JL _ _ _ _ _ [_, _, _, _, _, _, _, _]
    refine Z2 5 ?_
    refine Z1 fun w1 hw1 => ?_
    have he : qhB = z0.length := (E4 hrqB).1 (by have h9 := of_decide_eq_true hb51; omega)
    have hA := hnhA ZO
    have hB := hnhB ZO
    exact ⟨_, _, rfl, .inr ⟨BadRp.of ⟨hqhB.symm.trans he, rfl, rfl, rfl, hja ZO, hth, htk, hA.1.1, hA.1.2, hB.1.1, hB.1.2⟩ hb53, rfl, _, _, _, _, _, _, _, _, _, _, _, _, _, _, _, rfl⟩, Hp.pick hw1 [0, 1, 2, 3, 4] ⟨rfl, rfl, rfl, rfl, rfl, trivial⟩ ZD⟩
   have hb54 : (repR (((vQ z0 8 1).toNat:Int)) (((vQ z0 9 1).toNat:Int)) th jl (blankB tv1 te1 (tk1) tl1 ts1 tb1 tg1) (decide (mayN tv1 te1 (tk1) tl1 ts1 tb1 = 0)) hnA 0) = true := by simpa using hb52
   refine Z2 5 ?_
   refine AC (AB 0 nb1 29 _ 67 (V0 (vQ z0 0 8) (((vQ z0 8 1).toNat:Int)) (((vQ z0 9 1).toNat:Int)) ja jn jc th tv1 te1 (tk1) na1 tn1 nc1 na2 tm1 nc2 tb1 tg1 haA hnA hkA none 0 0) rfl rfl rfl DD (by simp [hc6]) (AQ (AQ ZC A6) ZC) ZS (AI (by simp [(AN 16), hc6]))) rfl ?_
   show JL _ _ _ _ _ [_, _, _, _, _, _, _, _]
   refine Z2 4 ?_
   refine Z1 fun w1 hw1 => ?_
   have he : qhB = z0.length := (E4 hrqB).1 (by have h9 := of_decide_eq_true hb51; omega)
   have hA := hnhA ZO
   have hB := hnhB ZO
   exact ⟨_, _, rfl, .inl ⟨_, _, _, jn, _, _, _, _, _, tn1, _, tm1, _, _, _, hnA, _, 0, _, _, _, _, ja, jc, _, _, _, na1, nc1, _, _, _, na2, nc2, _, _, _, haA, hkA, _, _, _, none, 0, ⟨⟨hqhB.symm.trans he, rfl, rfl, rfl, hja ZO, hth, htk, hA.1.1, hA.1.2, hB.1.1, hB.1.2⟩, hb54⟩, hjl, hc4, hc5, hc6, ZO, hc7, hc8, hxlA, rfl, rfl, rfl, hjg, by first | omega | (unfold maxLen; omega), by first | omega | (unfold maxLen; omega), hc9, by first | omega | (unfold maxLen; omega), by first | omega | (unfold maxLen; omega), hc12, by first | omega | (unfold maxLen; omega), by first | omega | (unfold maxLen; omega), hghA, by first | omega | (unfold maxLen; omega), by first | omega | (unfold maxLen; omega), .inl rfl, by first | omega | (unfold maxLen; omega), by first | omega | (unfold maxLen; omega)⟩, Hp.pick hw1 [3, 5, 6, 7, 4] ⟨rfl, rfl, rfl, rfl, rfl, trivial⟩ ZD⟩
  have hp51 := of_decide_eq_false hb51
  refine Z2 6 ?_
  refine A7 _ rfl rfl ?_
  refine A4 (AO (AE (.agg (V6).toArray) Ze rfl ?_))
  refine Z2 1 ?_
  refine AC (AB 0 nb1 29 _ 67 (V6) rfl rfl rfl DD ZS (AQ (AQ ZC A6) ZC) ZS (AI ZS)) rfl ?_
  show JL _ _ _ _ _ [_, _, _, _, _, _, _, _]
  refine Z2 5 ?_
  refine Z1 fun w1 hw1 => ?_
  exact ⟨_, _, rfl, .inr ⟨BadRp.far (fun e => (of_decide_eq_false hb51) ((E4 hrqB).2 (hqhB.trans e))), rfl, _, _, _, _, _, _, _, _, _, _, _, _, _, _, _, rfl⟩, Hp.pick hw1 [0, 1, 2, 3, 4] ⟨rfl, rfl, rfl, rfl, rfl, trivial⟩ ZD⟩
 refine CY (AK (A4 (ED (ι := Nat × Option Addr × Nat × Nat × List UInt8 × Nat × List Value × Nat × Option Addr × List UInt8 × Nat) (fun ⟨qhA, haA, hnA, hkA, hxA, hgA, hcsA, hTA, raA, zrA, rcA⟩ => [(2, Ptr nb1 0), (3, .nilIface), (4, Ptr nb2 0), (5, Ptr nb4 0), (15, .bool (bB (((vQ z0 9 1).toNat:Int)) (((vQ z0 8 1).toNat:Int)) th))]) (fun ⟨qhA, haA, hnA, hkA, hxA, hgA, hcsA, hTA, raA, zrA, rcA⟩ => [(Ez nb1 (V6) 67), (Ez nb3 (cu8 z0 ++ sp1) 5), (Ez nb2 [errV 50 (eQ z0 qhA), SL raA zrA.length rcA] 204), (Ez nb4 (V0 (vQ z0 0 8) (((vQ z0 8 1).toNat:Int)) (((vQ z0 9 1).toNat:Int)) ja jn jc th 0 0 0 none 0 0 none 0 0 0 (zr8 16) haA hnA hkA none 0 0) 67), (Ez jg jcs jT), (Ez hgA hcsA hTA)]) (fun ⟨qhA, haA, hnA, hkA, hxA, hgA, hcsA, hTA, raA, zrA, rcA⟩ => qhA = P4 z0 ∧ (qhA ≤ z0.length → (hnA = naZ z0 ∧ hxA = xaZ z0) ∧ 32 * hnA ≤ qhA) ∧ hxA.length = hnA*32 ∧ Gh (cu8 hxA) hgA hcsA haA ∧ hnA ≤ hkA ∧ hkA ≤ maxLen ∧ Lq z0 zrA qhA ∧ (∀ w M, RdB w M (some ⟨nb3, 0, none⟩) z0 → RdB w M raA zrA) ∧ zrA.length ≤ rcA ∧ rcA ≤ maxLen ∧ zrA.length ≤ n) ?_ ?_)))
 ·
  refine A4 ?_
  have hch : chZ z0 = false := by unfold chZ; rw [← hth]; exact hb36
  have p3 : P3 z0 = qb := (P3_f hch).trans hqb.symm
  refine Z2 4 ?_
  refine AX _ rfl (fun hb55 => ?_) (fun hb55 => ?_)
  ·
   refine Z2 2 ?_
   refine AF (BE 122 _ [false, false, true, false, false, false] [nb2] _ (AH _ Tryd.call122 rfl) rfl (fun w1 hw1 => listQ_c nb2 qb rb zb.length sb z0 zb w1 (hw1.en 2 rfl) rfl ZO ZO ZO (hsA _ _ (RdB.of hw1 (A0 1 rfl (AU (AG _))) (hw1.nm 1 2 rfl rfl ZD))) hsq)) rfl ?_
   rintro v1 L1 ⟨_, ⟨pq6, ao13, zz13, ca13, nm3, hpq7, hq13, ⟨hA13, hb56, hb57, hb58⟩, hm7, hme3, (⟨hm9, rfl, rfl⟩ | ⟨hm8, nb17, sp8, cp8, rfl, rfl, hc21, hc22, hc23⟩)⟩, rfl⟩
   ·
    show JL _ _ _ _ (_ :: _) [_, _, _, _, _, _]
    refine Z2 1 ?_
    refine AC (BT 2 nb4 27 1 _ 67 (SL none 0 0) ([SL none 0 0]) (V0 (vQ z0 0 8) (((vQ z0 8 1).toNat:Int)) (((vQ z0 9 1).toNat:Int)) ja jn jc th 0 0 0 none 0 0 none 0 0 0 (zr8 16) none 0 0 none 0 0) rfl rfl rfl rfl D2 rfl ZC ZS (DB 27 0 ZS rfl (rfl))) rfl ?_
    show JL _ _ _ _ _ [_, _, _, _, _, _]
    refine A1 ?_
    have hzA : aZ z0 = true := by unfold aZ; rw [← hth]; exact hb55
    refine DZ [0, 1, 5, 2, 3, 4] ZD ?_
    show JQ _ _ _ _ [_, _, _, _, _, _]
    refine BU ((pq6, none, 0, 0, [], sg2, cs2, nT2, ao13, zz13, ca13)) ⟨by rw [P4_t hzA, p3]; exact hpq7, (fun h => by have h9 : 0 = hN z0 qb := (by have h8 := hme3 h; omega); rw [(A_t hzA).1, (A_t hzA).2, p3, ← h9]; exact ⟨⟨rfl, (hQ_zero _ _).symm⟩, ZO⟩), rfl, .inl rfl, ZO, by first | omega | (unfold maxLen; omega), hq13, (fun w M h => hA13 w M (hsA w M h)), ZO, ZO, ZO⟩ (Sub.all rfl) rfl
   show JL _ _ _ _ (_ :: _) [_, _, _, _, _, _, _]
   refine Z2 1 ?_
   refine AC (BT 2 nb4 27 1 _ 67 (Slc nb17 0 nm3 cp8) ([Slc nb17 0 nm3 cp8]) ([U64 (vQ z0 0 8), I64 (((vQ z0 8 1).toNat:Int)), I64 (((vQ z0 9 1).toNat:Int)), SL ja jn jc, .bool th, U64 0, U64 0, I64 0, SL none 0 0, SL none 0 0, U64 0] ++ cu8 (zr8 16) ++ [Slc nb17 0 nm3 cp8, SL none 0 0]) rfl rfl rfl rfl D2 rfl ZC ZS (DB 27 0 ZS rfl (rfl))) rfl ?_
   show JL _ _ _ _ _ [_, _, _, _, _, _, _]
   refine A1 ?_
   have hzA : aZ z0 = true := by unfold aZ; rw [← hth]; exact hb55
   refine DZ [0, 1, 5, 2, 3, 6] ZD ?_
   show JQ _ _ _ _ [_, _, _, _, _, _]
   refine BU ((pq6, (some ⟨nb17, 0, none⟩), nm3, cp8, hQ z0 (qb + 2) nm3, nb17, cu8 (hQ z0 (qb + 2) nm3) ++ sp8, 54, ao13, zz13, ca13)) ⟨by rw [P4_t hzA, p3]; exact hpq7, (fun h => by have h9 := hme3 h; rw [(A_t hzA).1, (A_t hzA).2, p3, ← h9]; exact ⟨⟨rfl, rfl⟩, ZO⟩), (hQ_len _ _ _), .inr ⟨rfl, _, rfl⟩, ZO, by first | omega | (unfold maxLen; omega), hq13, (fun w M h => hA13 w M (hsA w M h)), ZO, ZO, ZO⟩ (Sub.all rfl) rfl
  refine CY ?_
  have hzA : aZ z0 = false := by unfold aZ; rw [← hth]; exact hb55
  refine BU ((qb, none, 0, 0, [], sg2, cs2, nT2, rb, zb, sb)) ⟨p3.symm.trans (P4_f hzA).symm, (fun _ => ⟨⟨(A_f hzA).1.symm, (A_f hzA).2.symm⟩, ZO⟩), rfl, .inl rfl, ZO, by first | omega | (unfold maxLen; omega), hsq, hsA, ZO, ZO, ZO⟩ (Sub.all rfl) rfl
 rintro ⟨qhA, haA, hnA, hkA, hxA, hgA, hcsA, hTA, raA, zrA, rcA⟩ hx
 obtain ⟨hqhA, hnhA, hxlA, hghA, hnkA, hkmA, hrqA, hrAA, hr1A, hr2A, hr3A⟩ := hx
 show JQ _ _ _ [_, _, _, _, _] [_, _, _, _, _, _]
 refine AK (A4 (ED (ι := (Nat × Option Addr × Nat × Nat × List UInt8 × Nat × List Value × Nat × Option Addr × List UInt8 × Nat) ⊕ (Nat × Option Addr × List UInt8 × Nat)) (fun x => match x with | .inl ⟨qhB, haB, hnB, hkB, hxB, hgB, hcsB, hTB, raB, zrB, rcB⟩ => [(2, Ptr nb1 0), (3, .nilIface), (4, Ptr nb2 0), (5, Ptr nb4 0)] | .inr ⟨qhB, raB, zrB, rcB⟩ => [(2, Ptr nb1 0), (3, .nilIface), (4, Ptr nb2 0), (5, Ptr nb4 0)]) (fun x => match x with | .inl ⟨qhB, haB, hnB, hkB, hxB, hgB, hcsB, hTB, raB, zrB, rcB⟩ => [(Ez nb1 (V6) 67), (Ez nb3 (cu8 z0 ++ sp1) 5), (Ez nb2 [errV 50 (eQ z0 qhB), SL raB zrB.length rcB] 204), (Ez nb4 (V0 (vQ z0 0 8) (((vQ z0 8 1).toNat:Int)) (((vQ z0 9 1).toNat:Int)) ja jn jc th 0 0 0 none 0 0 none 0 0 0 (zr8 16) haA hnA hkA haB hnB hkB) 67), (Ez jg jcs jT), (Ez hgA hcsA hTA), (Ez hgB hcsB hTB)] | .inr ⟨qhB, raB, zrB, rcB⟩ => [(Ez nb1 (V6) 67), (Ez nb3 (cu8 z0 ++ sp1) 5), (Ez nb2 [errV 50 (eQ z0 qhB), SL raB zrB.length rcB] 204), (Ez nb4 (V0 (vQ z0 0 8) (((vQ z0 8 1).toNat:Int)) (((vQ z0 9 1).toNat:Int)) ja jn jc th 0 0 0 none 0 0 none 0 0 0 (zr8 16) haA hnA hkA none 0 0) 67), (Ez jg jcs jT), (Ez hgA hcsA hTA)]) (fun x => match x with | .inl ⟨qhB, haB, hnB, hkB, hxB, hgB, hcsB, hTB, raB, zrB, rcB⟩ => qhB = P5 z0 ∧ (qhB ≤ z0.length → (hnB = nbZ z0 ∧ hxB = xbZ z0) ∧ 32 * hnB ≤ qhB) ∧ hxB.length = hnB*32 ∧ Gh (cu8 hxB) hgB hcsB haB ∧ hnB ≤ hkB ∧ hkB ≤ maxLen ∧ Lq z0 zrB qhB ∧ (∀ w M, RdB w M (some ⟨nb3, 0, none⟩) z0 → RdB w M raB zrB) ∧ zrB.length ≤ rcB ∧ rcB ≤ maxLen ∧ zrB.length ≤ n | .inr ⟨qhB, raB, zrB, rcB⟩ => qhB = P5 z0 ∧ (qhB ≤ z0.length → (0 = nbZ z0 ∧ ([] : List UInt8) = xbZ z0) ∧ 32 * 0 ≤ qhB) ∧ Lq z0 zrB qhB ∧ (∀ w M, RdB w M (some ⟨nb3, 0, none⟩) z0 → RdB w M raB zrB) ∧ zrB.length ≤ rcB ∧ rcB ≤ maxLen ∧ zrB.length ≤ n) ?_ ?_))
 ·
  refine A4 ?_
  have p4 : P4 z0 = qhA := hqhA.symm
  refine Z2 4 ?_
  refine AX _ rfl (fun hb59 => ?_) (fun hb59 => ?_)
  ·
   refine Z2 2 ?_
   refine AF (BE 122 _ [false, false, true, false, false, false] [nb2] _ (AH _ Tryd.call122 rfl) rfl (fun w1 hw1 => listQ_c nb2 qhA raA zrA.length rcA z0 zrA w1 (hw1.en 2 rfl) rfl ZO ZO ZO (hrAA _ _ (RdB.of hw1 (A0 1 rfl (AU (AG _))) (hw1.nm 1 2 rfl rfl ZD))) hrqA)) rfl ?_
   rintro v1 L1 ⟨_, ⟨pq7, ao14, zz14, ca14, nm4, hpq8, hq14, ⟨hA14, hb60, hb61, hb62⟩, hm10, hme4, (⟨hm12, rfl, rfl⟩ | ⟨hm11, nb18, sp9, cp9, rfl, rfl, hc24, hc25, hc26⟩)⟩, rfl⟩
   ·
    show JL _ _ _ _ (_ :: _) [_, _, _, _, _, _]
    refine Z2 1 ?_
    refine AC (BT 2 nb4 28 1 _ 67 (SL none 0 0) ([SL none 0 0]) (V0 (vQ z0 0 8) (((vQ z0 8 1).toNat:Int)) (((vQ z0 9 1).toNat:Int)) ja jn jc th 0 0 0 none 0 0 none 0 0 0 (zr8 16) haA hnA hkA none 0 0) rfl rfl rfl rfl D2 rfl ZC ZS (DB 27 1 ZS rfl (rfl))) rfl ?_
    show JL _ _ _ _ _ [_, _, _, _, _, _]
    refine A1 ?_
    have hzB : bZ z0 = true := by unfold bZ; rw [← hth]; exact hb59
    refine DZ [0, 1, 5, 2, 3, 4] ZD ?_
    show JQ _ _ _ _ [_, _, _, _, _, _]
    refine BU (.inr (pq7, ao14, zz14, ca14)) ⟨by rw [P5_t hzB, p4]; exact hpq8, (fun h => by have h9 : 0 = hN z0 qhA := (by have h8 := hme4 h; omega); rw [(B_t hzB).1, (B_t hzB).2, p4, ← h9]; exact ⟨⟨rfl, (hQ_zero _ _).symm⟩, ZO⟩), hq14, (fun w M h => hA14 w M (hrAA w M h)), ZO, ZO, ZO⟩ (Sub.all rfl) rfl
   show JL _ _ _ _ (_ :: _) [_, _, _, _, _, _, _]
   refine Z2 1 ?_
   refine AC (BT 2 nb4 28 1 _ 67 (Slc nb18 0 nm4 cp9) ([Slc nb18 0 nm4 cp9]) ([U64 (vQ z0 0 8), I64 (((vQ z0 8 1).toNat:Int)), I64 (((vQ z0 9 1).toNat:Int)), SL ja jn jc, .bool th, U64 0, U64 0, I64 0, SL none 0 0, SL none 0 0, U64 0] ++ cu8 (zr8 16) ++ [SL haA hnA hkA, Slc nb18 0 nm4 cp9]) rfl rfl rfl rfl D2 rfl ZC ZS (DB 27 1 ZS rfl (rfl))) rfl ?_
   show JL _ _ _ _ _ [_, _, _, _, _, _, _]
   refine A1 ?_
   have hzB : bZ z0 = true := by unfold bZ; rw [← hth]; exact hb59
   refine DZ [0, 1, 5, 2, 3, 4, 6] ZD ?_
   show JQ _ _ _ _ [_, _, _, _, _, _, _]
   refine BU (.inl (pq7, (some ⟨nb18, 0, none⟩), nm4, cp9, hQ z0 (qhA + 2) nm4, nb18, cu8 (hQ z0 (qhA + 2) nm4) ++ sp9, 54, ao14, zz14, ca14)) ⟨by rw [P5_t hzB, p4]; exact hpq8, (fun h => by have h9 := hme4 h; rw [(B_t hzB).1, (B_t hzB).2, p4, ← h9]; exact ⟨⟨rfl, rfl⟩, ZO⟩), (hQ_len _ _ _), .inr ⟨rfl, _, rfl⟩, ZO, by first | omega | (unfold maxLen; omega), hq14, (fun w M h => hA14 w M (hrAA w M h)), ZO, ZO, ZO⟩ (Sub.all rfl) rfl
  refine CY ?_
  have hzB : bZ z0 = false := by unfold bZ; rw [← hth]; exact hb59
  refine BU (.inr (qhA, raA, zrA, rcA)) ⟨p4.symm.trans (P5_f hzB).symm, (fun _ => ⟨⟨(B_f hzB).1.symm, (B_f hzB).2.symm⟩, ZO⟩), hrqA, hrAA, ZO, ZO, ZO⟩ (Sub.all rfl) rfl
 rintro (⟨qhB, haB, hnB, hkB, hxB, hgB, hcsB, hTB, raB, zrB, rcB⟩ | ⟨qhB, raB, zrB, rcB⟩) hx
 ·
  obtain ⟨hqhB, hnhB, hxlB, hghB, hnkB, hkmB, hrqB, hrAB, hr1B, hr2B, hr3B⟩ := hx
  show JQ _ _ _ [_, _, _, _] [_, _, _, _, _, _, _]
  refine Z2 3 ?_
  have hch : chZ z0 = false := by unfold chZ; rw [← hth]; exact hb36
  have htk := (Or.inr ⟨hch, rfl, rfl, rfl, rfl, rfl, rfl, rfl⟩ : TkZ z0 0 0 0 [] [] 0 (zr8 16))
  have hbd : endN (eQ z0 qhB) zrB.length = 0 → qhB = z0.length := (E4 hrqB).1
  have g1 := P2_ge z0
  have g2 := P3_ge z0
  have g3 := P4_ge z0
  have g4 := P5_ge z0
  refine Z2 2 ?_
  refine AC (AJ 63 _ (errV 50 (endN (eQ z0 qhB) zrB.length)) (AH _ DF rfl) (fun w1 hw1 => end_w nb2 (eQ z0 qhB) raB zrB.length rcB w1 (RdA.of hw1 (A0 2 rfl (AG _)) ZM))) rfl ?_
  show JL _ _ _ _ (_ :: _) [_, _, _, _, _, _, _]
  refine AE (.bool (!(decide (endN (eQ z0 qhB) zrB.length = 0)))) (CG _ _ _ rfl rfl (fun _ => BL ..) fun _ => CW AV _ _) rfl ?_
  refine Z2 1 ?_
  rcases Bool.eq_false_or_eq_true (decide (endN (eQ z0 qhB) zrB.length = 0)) with hb63 | hb63
  ·
   have hp63 := of_decide_eq_true hb63
   refine Z2 1 ?_
   refine B6 3 101 false _ rfl rfl (bnotT hb63) (AJ 35 _ (.bool (repR (((vQ z0 8 1).toNat:Int)) (((vQ z0 9 1).toNat:Int)) th jl (blankB (0:UInt64) (0:UInt64) (0:Int) ([] : List UInt64) ([] : List SealR) (0:UInt64) (zr8 16)) (decide (mayN (0:UInt64) (0:UInt64) (0:Int) ([] : List UInt64) ([] : List SealR) (0:UInt64) = 0)) hnA hnB)) (AH _ Tryd.call35 rfl) (fun w1 hw1 => rightRep_c (vQ z0 0 8) (((vQ z0 8 1).toNat:Int)) (((vQ z0 9 1).toNat:Int)) ja jn jc jl th (0:UInt64) (0:UInt64) (0:Int) none 0 0 ([] : List UInt64) none 0 0 ([] : List SealR) (0:UInt64) (zr8 16) haA hnA hkA hxA haB hnB hkB hxB w1 hjl ZO ZO ZO (Gh.at hw1 4 rfl hjg) rfl ZO ZO ZO RdV.nil rfl ZO ZO ZO RdV.nil (AN 16) hxlA ZO ZO ZO (Gh.rdB hw1 5 rfl hghA) hxlB ZO ZO ZO (Gh.rdB hw1 6 rfl hghB) ZO ZO)) rfl ?_
   rintro v1 L1 ⟨rfl, rfl⟩
   show JL _ _ _ _ (_ :: _) [_, _, _, _, _, _, _]
   refine Z2 4 ?_
   refine AX _ rfl (fun hb64 => ?_) (fun hb64 => ?_)
   ·
    have hb65 : (repR (((vQ z0 8 1).toNat:Int)) (((vQ z0 9 1).toNat:Int)) th jl (blankB (0:UInt64) (0:UInt64) (0:Int) ([] : List UInt64) ([] : List SealR) (0:UInt64) (zr8 16)) (decide (mayN (0:UInt64) (0:UInt64) (0:Int) ([] : List UInt64) ([] : List SealR) (0:UInt64) = 0)) hnA hnB) = false := by simpa using hb64
    refine A4 (AO (AE (.agg (V6).toArray) Ze rfl ?_))
    refine Z2 1 ?_
    refine AC (AB 0 nb1 29 _ 67 (V6) rfl rfl rfl DD ZS (AQ (AQ ZC A6) ZC) ZS (AI ZS)) rfl ?_
    show JL _ _ _ _ _ [_, _, _, _, _, _, _]
    refine Z2 5 ?_
    refine Z1 fun w1 hw1 => ?_
    have he : qhB = z0.length := (E4 hrqB).1 (by have h9 := of_decide_eq_true hb63; omega)
    have hA := hnhA ZO
    have hB := hnhB ZO
    exact ⟨_, _, rfl, .inr ⟨BadRp.of ⟨hqhB.symm.trans he, rfl, rfl, rfl, hja ZO, hth, htk, hA.1.1, hA.1.2, hB.1.1, hB.1.2⟩ hb65, rfl, _, _, _, _, _, _, _, _, _, _, _, _, _, _, _, rfl⟩, Hp.pick hw1 [0, 1, 2, 3, 4] ⟨rfl, rfl, rfl, rfl, rfl, trivial⟩ ZD⟩
   have hb66 : (repR (((vQ z0 8 1).toNat:Int)) (((vQ z0 9 1).toNat:Int)) th jl (blankB (0:UInt64) (0:UInt64) (0:Int) ([] : List UInt64) ([] : List SealR) (0:UInt64) (zr8 16)) (decide (mayN (0:UInt64) (0:UInt64) (0:Int) ([] : List UInt64) ([] : List SealR) (0:UInt64) = 0)) hnA hnB) = true := by simpa using hb64
   refine Z2 5 ?_
   refine AC (AB 0 nb1 29 _ 67 (V0 (vQ z0 0 8) (((vQ z0 8 1).toNat:Int)) (((vQ z0 9 1).toNat:Int)) ja jn jc th 0 0 0 none 0 0 none 0 0 0 (zr8 16) haA hnA hkA haB hnB hkB) rfl rfl rfl DD ZS (AQ (AQ ZC A6) ZC) ZS (AI ZS)) rfl ?_
   show JL _ _ _ _ _ [_, _, _, _, _, _, _]
   refine Z2 4 ?_
   refine Z1 fun w1 hw1 => ?_
   have he : qhB = z0.length := (E4 hrqB).1 (by have h9 := of_decide_eq_true hb63; omega)
   have hA := hnhA ZO
   have hB := hnhB ZO
   exact ⟨_, _, rfl, .inl ⟨_, _, _, jn, _, _, _, _, _, 0, _, 0, _, _, _, hnA, _, hnB, _, _, _, _, ja, jc, _, _, _, none, 0, _, _, _, none, 0, _, _, _, haA, hkA, _, _, _, haB, hkB, ⟨⟨hqhB.symm.trans he, rfl, rfl, rfl, hja ZO, hth, htk, hA.1.1, hA.1.2, hB.1.1, hB.1.2⟩, hb66⟩, hjl, rfl, rfl, (AN 16), ZO, ZO, ZO, hxlA, hxlB, rfl, rfl, hjg, by first | omega | (unfold maxLen; omega), by first | omega | (unfold maxLen; omega), .inl rfl, by first | omega | (unfold maxLen; omega), by first | omega | (unfold maxLen; omega), .inl rfl, by first | omega | (unfold maxLen; omega), by first | omega | (unfold maxLen; omega), hghA, by first | omega | (unfold maxLen; omega), by first | omega | (unfold maxLen; omega), hghB, by first | omega | (unfold maxLen; omega), by first | omega | (unfold maxLen; omega)⟩, Hp.pick hw1 [4, 3, 2, 5, 6] ⟨rfl, rfl, rfl, rfl, rfl, trivial⟩ ZD⟩
  have hp63 := of_decide_eq_false hb63
  refine Z2 6 ?_
  refine A7 _ rfl rfl ?_
  refine A4 (AO (AE (.agg (V6).toArray) Ze rfl ?_))
  refine Z2 1 ?_
  refine AC (AB 0 nb1 29 _ 67 (V6) rfl rfl rfl DD ZS (AQ (AQ ZC A6) ZC) ZS (AI ZS)) rfl ?_
  show JL _ _ _ _ _ [_, _, _, _, _, _, _]
  refine Z2 5 ?_
  refine Z1 fun w1 hw1 => ?_
  exact ⟨_, _, rfl, .inr ⟨BadRp.far (fun e => (of_decide_eq_false hb63) ((E4 hrqB).2 (hqhB.trans e))), rfl, _, _, _, _, _, _, _, _, _, _, _, _, _, _, _, rfl⟩, Hp.pick hw1 [0, 1, 2, 3, 4] ⟨rfl, rfl, rfl, rfl, rfl, trivial⟩ ZD⟩
 obtain ⟨hqhB, hnhB, hrqB, hrAB, hr1B, hr2B, hr3B⟩ := hx
 show JQ _ _ _ [_, _, _, _] [_, _, _, _, _, _]
 refine Z2 3 ?_
 have hch : chZ z0 = false := by unfold chZ; rw [← hth]; exact hb36
 have htk := (Or.inr ⟨hch, rfl, rfl, rfl, rfl, rfl, rfl, rfl⟩ : TkZ z0 0 0 0 [] [] 0 (zr8 16))
 have hbd : endN (eQ z0 qhB) zrB.length = 0 → qhB = z0.length := (E4 hrqB).1
 have g1 := P2_ge z0
 have g2 := P3_ge z0
 have g3 := P4_ge z0
 have g4 := P5_ge z0
 refine Z2 2 ?_
 refine AC (AJ 63 _ (errV 50 (endN (eQ z0 qhB) zrB.length)) (AH _ DF rfl) (fun w1 hw1 => end_w nb2 (eQ z0 qhB) raB zrB.length rcB w1 (RdA.of hw1 (A0 2 rfl (AG _)) ZM))) rfl ?_
 show JL _ _ _ _ (_ :: _) [_, _, _, _, _, _]
 refine AE (.bool (!(decide (endN (eQ z0 qhB) zrB.length = 0)))) (CG _ _ _ rfl rfl (fun _ => BL ..) fun _ => CW AV _ _) rfl ?_
 refine Z2 1 ?_
 rcases Bool.eq_false_or_eq_true (decide (endN (eQ z0 qhB) zrB.length = 0)) with hb67 | hb67
 ·
  have hp67 := of_decide_eq_true hb67
  refine Z2 1 ?_
  refine B6 3 101 false _ rfl rfl (bnotT hb67) (AJ 35 _ (.bool (repR (((vQ z0 8 1).toNat:Int)) (((vQ z0 9 1).toNat:Int)) th jl (blankB (0:UInt64) (0:UInt64) (0:Int) ([] : List UInt64) ([] : List SealR) (0:UInt64) (zr8 16)) (decide (mayN (0:UInt64) (0:UInt64) (0:Int) ([] : List UInt64) ([] : List SealR) (0:UInt64) = 0)) hnA 0)) (AH _ Tryd.call35 rfl) (fun w1 hw1 => rightRep_c (vQ z0 0 8) (((vQ z0 8 1).toNat:Int)) (((vQ z0 9 1).toNat:Int)) ja jn jc jl th (0:UInt64) (0:UInt64) (0:Int) none 0 0 ([] : List UInt64) none 0 0 ([] : List SealR) (0:UInt64) (zr8 16) haA hnA hkA hxA none 0 0 ([]) w1 hjl ZO ZO ZO (Gh.at hw1 4 rfl hjg) rfl ZO ZO ZO RdV.nil rfl ZO ZO ZO RdV.nil (AN 16) hxlA ZO ZO ZO (Gh.rdB hw1 5 rfl hghA) rfl ZO ZO ZX RdB.nil ZO ZO)) rfl ?_
  rintro v1 L1 ⟨rfl, rfl⟩
  show JL _ _ _ _ (_ :: _) [_, _, _, _, _, _]
  refine Z2 4 ?_
  refine AX _ rfl (fun hb68 => ?_) (fun hb68 => ?_)
  ·
   have hb69 : (repR (((vQ z0 8 1).toNat:Int)) (((vQ z0 9 1).toNat:Int)) th jl (blankB (0:UInt64) (0:UInt64) (0:Int) ([] : List UInt64) ([] : List SealR) (0:UInt64) (zr8 16)) (decide (mayN (0:UInt64) (0:UInt64) (0:Int) ([] : List UInt64) ([] : List SealR) (0:UInt64) = 0)) hnA 0) = false := by simpa using hb68
   refine A4 (AO (AE (.agg (V6).toArray) Ze rfl ?_))
   refine Z2 1 ?_
   refine AC (AB 0 nb1 29 _ 67 (V6) rfl rfl rfl DD ZS (AQ (AQ ZC A6) ZC) ZS (AI ZS)) rfl ?_
   show JL _ _ _ _ _ [_, _, _, _, _, _]
   refine Z2 5 ?_
   refine Z1 fun w1 hw1 => ?_
   have he : qhB = z0.length := (E4 hrqB).1 (by have h9 := of_decide_eq_true hb67; omega)
   have hA := hnhA ZO
   have hB := hnhB ZO
   exact ⟨_, _, rfl, .inr ⟨BadRp.of ⟨hqhB.symm.trans he, rfl, rfl, rfl, hja ZO, hth, htk, hA.1.1, hA.1.2, hB.1.1, hB.1.2⟩ hb69, rfl, _, _, _, _, _, _, _, _, _, _, _, _, _, _, _, rfl⟩, Hp.pick hw1 [0, 1, 2, 3, 4] ⟨rfl, rfl, rfl, rfl, rfl, trivial⟩ ZD⟩
  have hb70 : (repR (((vQ z0 8 1).toNat:Int)) (((vQ z0 9 1).toNat:Int)) th jl (blankB (0:UInt64) (0:UInt64) (0:Int) ([] : List UInt64) ([] : List SealR) (0:UInt64) (zr8 16)) (decide (mayN (0:UInt64) (0:UInt64) (0:Int) ([] : List UInt64) ([] : List SealR) (0:UInt64) = 0)) hnA 0) = true := by simpa using hb68
  refine Z2 5 ?_
  refine AC (AB 0 nb1 29 _ 67 (V0 (vQ z0 0 8) (((vQ z0 8 1).toNat:Int)) (((vQ z0 9 1).toNat:Int)) ja jn jc th 0 0 0 none 0 0 none 0 0 0 (zr8 16) haA hnA hkA none 0 0) rfl rfl rfl DD ZS (AQ (AQ ZC A6) ZC) ZS (AI ZS)) rfl ?_
  show JL _ _ _ _ _ [_, _, _, _, _, _]
  refine Z2 4 ?_
  refine Z1 fun w1 hw1 => ?_
  have he : qhB = z0.length := (E4 hrqB).1 (by have h9 := of_decide_eq_true hb67; omega)
  have hA := hnhA ZO
  have hB := hnhB ZO
  exact ⟨_, _, rfl, .inl ⟨_, _, _, jn, _, _, _, _, _, 0, _, 0, _, _, _, hnA, _, 0, _, _, _, _, ja, jc, _, _, _, none, 0, _, _, _, none, 0, _, _, _, haA, hkA, _, _, _, none, 0, ⟨⟨hqhB.symm.trans he, rfl, rfl, rfl, hja ZO, hth, htk, hA.1.1, hA.1.2, hB.1.1, hB.1.2⟩, hb70⟩, hjl, rfl, rfl, (AN 16), ZO, ZO, ZO, hxlA, rfl, rfl, rfl, hjg, by first | omega | (unfold maxLen; omega), by first | omega | (unfold maxLen; omega), .inl rfl, by first | omega | (unfold maxLen; omega), by first | omega | (unfold maxLen; omega), .inl rfl, by first | omega | (unfold maxLen; omega), by first | omega | (unfold maxLen; omega), hghA, by first | omega | (unfold maxLen; omega), by first | omega | (unfold maxLen; omega), .inl rfl, by first | omega | (unfold maxLen; omega), by first | omega | (unfold maxLen; omega)⟩, Hp.pick hw1 [4, 3, 2, 5, 0] ⟨rfl, rfl, rfl, rfl, rfl, trivial⟩ ZD⟩
 have hp67 := of_decide_eq_false hb67
 refine Z2 6 ?_
 refine A7 _ rfl rfl ?_
 refine A4 (AO (AE (.agg (V6).toArray) Ze rfl ?_))
 refine Z2 1 ?_
 refine AC (AB 0 nb1 29 _ 67 (V6) rfl rfl rfl DD ZS (AQ (AQ ZC A6) ZC) ZS (AI ZS)) rfl ?_
 show JL _ _ _ _ _ [_, _, _, _, _, _]
 refine Z2 5 ?_
 refine Z1 fun w1 hw1 => ?_
 exact ⟨_, _, rfl, .inr ⟨BadRp.far (fun e => (of_decide_eq_false hb67) ((E4 hrqB).2 (hqhB.trans e))), rfl, _, _, _, _, _, _, _, _, _, _, _, _, _, _, _, rfl⟩, Hp.pick hw1 [0, 1, 2, 3, 4] ⟨rfl, rfl, rfl, rfl, rfl, trivial⟩ ZD⟩
theorem fromQN_w (w : World) : Calls Tryd.prog 59 #[SL none 0 0] w (Post w [] (fun v L => ∃ rb, v = Ptr rb 0 ∧ L = [(Ez rb [errV 50 (eQ [] 0), SL none 0 0] 204)])) := by
 rw [show errV 50 (eQ [] 0) = .nilIface from by rw [E5 (Nat.zero_le _)]; rfl]
 exact fromNil_c w
theorem parqN_c  (w : World) : Calls Tryd.prog 53 #[SL none 0 0] w (Post w [] (fun v L => BadRq [] ∧ v = .tuple #[.agg (V5).toArray, .iface 50 (I64 2)] ∧ ∃ g0 cs0 T0 g1 cs1 T1 g2 cs2 T2, L = [(Ez g0 cs0 T0), (Ez g1 cs1 T1), (Ez g2 cs2 T2)])) := by
 have hmx : maxLen = 9223372036854775807 := rfl
 have hk8 := E6 [] 8
 have hk9 := E6 [] 9
 have hn0 : ([] : List UInt8).length = 0 := rfl
 refine enter w [] 67 [] [SL none 0 0] Tryd.func53 rfl rfl ZM (A2 ZM ZM ZM) ?_
 show JC _ _ _ [_] _
 refine A4 (AO (AF (AS _ (V5) Tryd.zeroValue31 ZR) rfl ?_))
 rintro v1 L1 ⟨nb1, hnb1, rfl, rfl⟩
 show JL _ _ _ _ (_ :: _) [_]
 refine Z2 6 ?_
 refine AF (A5 59 _ _ (AH _ Tryd.call59 rfl) (fun w1 hw1 => fromQN_w w1)) rfl ?_
 rintro v1 L1 ⟨_, ⟨nb2, rfl, rfl⟩, rfl⟩
 show JL _ _ _ _ (_ :: _) [_, _]
 refine Z2 6 ?_
 refine AF (BE 109 _ [false, true] [nb2] _ (AH _ CA rfl) rfl (fun w1 hw1 => EM nb2 0 8 none 0 0 [] ([] : List UInt8) w1 (hw1.en 1 rfl) rfl ZO ZO ZO ((fun _ _ h => h) _ _ RdB.nil) (Lq.zero []) ZU)) rfl ?_
 rintro v1 L1 ⟨_, ⟨rfl, ao1, zz1, ca1, hq1, ⟨hA1, hb1, hb2, hb3⟩, rfl⟩, rfl⟩
 show JL _ _ _ _ (_ :: _) [_, _]
 refine Z2 1 ?_
 refine AF (BE 109 _ [false, true] [nb2] _ (AH _ CA rfl) rfl (fun w1 hw1 => EM nb2 8 1 ao1 zz1.length ca1 [] zz1 w1 (hw1.en 1 rfl) rfl ZO ZO ZO (hA1 _ _ RdB.nil) hq1 ZU)) rfl ?_
 rintro v1 L1 ⟨_, ⟨rfl, ao2, zz2, ca2, hq2, ⟨hA2, hb4, hb5, hb6⟩, rfl⟩, rfl⟩
 show JL _ _ _ _ (_ :: _) [_, _]
 refine AE (I64 (((vQ [] 8 1).toNat:Int))) Ze rfl ?_
 refine AE (.agg (V1 (vQ [] 0 8) (((vQ [] 8 1).toNat:Int)) none 0 0 0 0 0 0 0 none 0 0 none 0 0 0 (zr8 16) 0).toArray) (DN [(0, U64 (vQ [] 0 8)), (1, I64 (((vQ [] 8 1).toNat:Int)))] _ rfl (fun _ => bld31_01 rfl rfl)) rfl ?_
 refine AF (AS _ (V5) Tryd.zeroValue31 ZR) rfl ?_
 rintro v1 L1 ⟨nb3, hnb3, rfl, rfl⟩
 show JL _ _ _ _ (_ :: _) [_, _, _]
 refine AC (AB 2 nb3 28 _ 31 (V1 (vQ [] 0 8) (((vQ [] 8 1).toNat:Int)) none 0 0 0 0 0 0 0 none 0 0 none 0 0 0 (zr8 16) 0) rfl rfl rfl C4 ZS (AQ (AQ ZC A6) ZC) ZS (AI ZS)) rfl ?_
 show JL _ _ _ _ _ [_, _, _]
 refine Z2 10 ?_
 refine AY _ rfl ZK ?_
 refine Z2 2 ?_
 refine AF (BE 109 _ [false, true, false] [nb2] _ (AH _ CA rfl) rfl (fun w1 hw1 => EM nb2 9 8 ao2 zz2.length ca2 [] zz2 w1 (hw1.en 1 rfl) rfl ZO ZO ZO ((fun w M h => hA2 w M (hA1 w M h)) _ _ RdB.nil) hq2 ZU)) rfl ?_
 rintro v1 L1 ⟨_, ⟨rfl, ao3, zz3, ca3, hq3, ⟨hA3, hb7, hb8, hb9⟩, rfl⟩, rfl⟩
 show JL _ _ _ _ (_ :: _) [_, _, _]
 refine Z2 1 ?_
 refine AC (BT 1 nb3 27 1 _ 31 (U64 (vQ [] 9 8)) ([U64 (vQ [] 9 8)]) (V1 (vQ [] 0 8) (((vQ [] 8 1).toNat:Int)) none 0 0 0 0 0 0 0 none 0 0 none 0 0 0 (zr8 16) (vQ [] 9 8)) rfl rfl rfl rfl BJ rfl ZC ZS (DB 27 0 ZS rfl (AI ZM))) rfl ?_
 show JL _ _ _ _ _ [_, _, _]
 refine Z2 16 ?_
 refine AY _ rfl ZK ?_
 refine Z2 6 ?_
 refine AY _ rfl ZK ?_
 refine Z2 7 ?_
 refine AC (AJ 63 _ (errV 50 (endN (eQ [] 17) zz3.length)) (AH _ DF rfl) (fun w1 hw1 => end_w nb2 (eQ [] 17) ao3 zz3.length ca3 w1 (RdA.of hw1 (A0 2 rfl (AG _)) ZM))) rfl ?_
 show JL _ _ _ _ (_ :: _) [_, _, _]
 refine AE (.bool (!(decide (endN (eQ [] 17) zz3.length = 0)))) (CG _ _ _ rfl rfl (fun _ => BL ..) fun _ => CW AV _ _) rfl ?_
 refine Z2 1 ?_
 refine D4 3 3 59 false _ rfl rfl (bnotF (decide_eq_false (by rw [DJ ZD, endN, if_neg ZD]; decide))) rfl (AE _ (CC _ rfl (bnotF (decide_eq_false (by rw [DJ ZD, endN, if_neg ZD]; decide))) rfl) rfl ?_)
 refine A1 (AK (A7 _ rfl rfl ?_))
 refine A4 (AO (AE (.agg (V5).toArray) Ze rfl ?_))
 refine Z2 1 ?_
 refine AC (AB 0 nb1 28 _ 31 (V5) rfl rfl rfl C4 ZS (AQ (AQ ZC A6) ZC) ZS (AI ZS)) rfl ?_
 show JL _ _ _ _ _ [_, _, _]
 refine Z2 5 ?_
 refine Z1 fun w1 hw1 => ?_
 exact ⟨_, _, rfl, ⟨BadRq.nil, rfl, _, _, _, _, _, _, _, _, _, rfl⟩, Hp.pick hw1 [0, 1, 2] ⟨rfl, rfl, rfl, trivial⟩ ZD⟩
theorem parpN_c  (w : World) : Calls Tryd.prog 55 #[SL none 0 0] w (Post w [] (fun v L => BadRp [] ∧ v = .tuple #[.agg (V6).toArray, .iface 50 (I64 2)] ∧ ∃ g0 cs0 T0 g1 cs1 T1 g2 cs2 T2 g3 cs3 T3 g4 cs4 T4, L = [(Ez g0 cs0 T0), (Ez g1 cs1 T1), (Ez g2 cs2 T2), (Ez g3 cs3 T3), (Ez g4 cs4 T4)])) := by
 have hmx : maxLen = 9223372036854775807 := rfl
 have hk8 := E6 [] 8
 have hk9 := E6 [] 9
 have hn0 : ([] : List UInt8).length = 0 := rfl
 refine enter w [] 109 [] [SL none 0 0] Tryd.func55 rfl rfl ZM (A2 ZM ZM ZM) ?_
 show JC _ _ _ [_] _
 refine A4 (AO (AF (AS _ (V6) Tryd.zeroValue67 ZR) rfl ?_))
 rintro v1 L1 ⟨nb1, hnb1, rfl, rfl⟩
 show JL _ _ _ _ (_ :: _) [_]
 refine Z2 6 ?_
 refine AF (A5 59 _ _ (AH _ Tryd.call59 rfl) (fun w1 hw1 => fromQN_w w1)) rfl ?_
 rintro v1 L1 ⟨_, ⟨nb2, rfl, rfl⟩, rfl⟩
 show JL _ _ _ _ (_ :: _) [_, _]
 refine Z2 6 ?_
 refine AF (BE 109 _ [false, true] [nb2] _ (AH _ CA rfl) rfl (fun w1 hw1 => EM nb2 0 8 none 0 0 [] ([] : List UInt8) w1 (hw1.en 1 rfl) rfl ZO ZO ZO ((fun _ _ h => h) _ _ RdB.nil) (Lq.zero []) ZU)) rfl ?_
 rintro v1 L1 ⟨_, ⟨rfl, ao1, zz1, ca1, hq1, ⟨hA1, hb1, hb2, hb3⟩, rfl⟩, rfl⟩
 show JL _ _ _ _ (_ :: _) [_, _]
 refine Z2 1 ?_
 refine AF (BE 109 _ [false, true] [nb2] _ (AH _ CA rfl) rfl (fun w1 hw1 => EM nb2 8 1 ao1 zz1.length ca1 [] zz1 w1 (hw1.en 1 rfl) rfl ZO ZO ZO (hA1 _ _ RdB.nil) hq1 ZU)) rfl ?_
 rintro v1 L1 ⟨_, ⟨rfl, ao2, zz2, ca2, hq2, ⟨hA2, hb4, hb5, hb6⟩, rfl⟩, rfl⟩
 show JL _ _ _ _ (_ :: _) [_, _]
 refine AE (I64 (((vQ [] 8 1).toNat:Int))) Ze rfl ?_
 refine Z2 1 ?_
 refine AF (BE 109 _ [false, true] [nb2] _ (AH _ CA rfl) rfl (fun w1 hw1 => EM nb2 9 1 ao2 zz2.length ca2 [] zz2 w1 (hw1.en 1 rfl) rfl ZO ZO ZO ((fun w M h => hA2 w M (hA1 w M h)) _ _ RdB.nil) hq2 ZU)) rfl ?_
 rintro v1 L1 ⟨_, ⟨rfl, ao3, zz3, ca3, hq3, ⟨hA3, hb7, hb8, hb9⟩, rfl⟩, rfl⟩
 show JL _ _ _ _ (_ :: _) [_, _]
 refine AE (I64 (((vQ [] 9 1).toNat:Int))) Ze rfl ?_
 refine AE (.agg (V0 (vQ [] 0 8) (((vQ [] 8 1).toNat:Int)) (((vQ [] 9 1).toNat:Int)) none 0 0 false 0 0 0 none 0 0 none 0 0 0 (zr8 16) none 0 0 none 0 0).toArray) (DN [(0, U64 (vQ [] 0 8)), (1, I64 (((vQ [] 8 1).toNat:Int))), (2, I64 (((vQ [] 9 1).toNat:Int)))] _ rfl (fun _ => (bld67_012 rfl rfl rfl ).trans (by first | rfl | simp only [List.append_assoc, List.cons_append, List.nil_append]))) rfl ?_
 refine AF (AS _ (V6) Tryd.zeroValue67 ZR) rfl ?_
 rintro v1 L1 ⟨nb3, hnb3, rfl, rfl⟩
 show JL _ _ _ _ (_ :: _) [_, _, _]
 refine AC (AB 2 nb3 29 _ 67 (V0 (vQ [] 0 8) (((vQ [] 8 1).toNat:Int)) (((vQ [] 9 1).toNat:Int)) none 0 0 false 0 0 0 none 0 0 none 0 0 0 (zr8 16) none 0 0 none 0 0) rfl rfl rfl DD ZS (AQ (AQ ZC A6) ZC) ZS (AI ZS)) rfl ?_
 show JL _ _ _ _ _ [_, _, _]
 refine Z2 5 ?_
 refine AF (A5 95 _ _ (AH _ Tryd.call95 rfl) (fun w1 hw1 => partsG_c (vQ [] 0 8) (((vQ [] 8 1).toNat:Int)) (((vQ [] 9 1).toNat:Int)) none 0 0 ([] : List ItemR) false (0:UInt64) (0:UInt64) (0:Int) none 0 0 ([] : List UInt64) none 0 0 ([] : List SealR) (0:UInt64) (zr8 16) none 0 0 [] none 0 0 [] w1 (AN 16))) rfl ?_
 rintro v1 L1 ⟨_, ⟨sg1, cs1, nT1, rfl, rfl⟩, rfl⟩
 show JL _ _ _ _ (_ :: _) [_, _, _, _]
 refine Z2 17 ?_
 refine AY _ rfl ZK ?_
 refine Z2 9 ?_
 refine AD 3 71 true _ (Ptr nb3 1) rfl rfl ZK ZE rfl ?_
 refine AD 3 71 true _ _ rfl rfl ZK ZE rfl ?_
 refine AD 3 71 true _ (.bool (decide ((((vQ [] 8 1).toNat:Int)) = (4:Int)))) rfl rfl ZK ZE rfl ?_
 refine AE _ (CC _ rfl ZK rfl) rfl ?_
 refine A1 (AK (AY _ rfl ZK ?_))
 refine Z2 5 ?_
 refine AF (A5 95 _ _ (AH _ Tryd.call95 rfl) (fun w1 hw1 => partsG_c (vQ [] 0 8) (((vQ [] 8 1).toNat:Int)) (((vQ [] 9 1).toNat:Int)) none 0 0 ([] : List ItemR) false (0:UInt64) (0:UInt64) (0:Int) none 0 0 ([] : List UInt64) none 0 0 ([] : List SealR) (0:UInt64) (zr8 16) none 0 0 [] none 0 0 [] w1 (AN 16))) rfl ?_
 rintro v1 L1 ⟨_, ⟨sg2, cs2, nT2, rfl, rfl⟩, rfl⟩
 show JL _ _ _ _ (_ :: _) [_, _, _, _, _]
 refine Z2 17 ?_
 refine AY _ rfl ZK ?_
 refine Z2 8 ?_
 refine AY _ rfl ZK ?_
 refine Z2 8 ?_
 refine AY _ rfl ZK ?_
 refine Z2 6 ?_
 refine AC (AJ 63 _ (errV 50 (endN (eQ [] 10) zz3.length)) (AH _ DF rfl) (fun w1 hw1 => end_w nb2 (eQ [] 10) ao3 zz3.length ca3 w1 (RdA.of hw1 (A0 1 rfl (AG _)) ZM))) rfl ?_
 show JL _ _ _ _ (_ :: _) [_, _, _, _, _]
 refine AE (.bool (!(decide (endN (eQ [] 10) zz3.length = 0)))) (CG _ _ _ rfl rfl (fun _ => BL ..) fun _ => CW AV _ _) rfl ?_
 refine Z2 1 ?_
 refine D4 3 3 101 false _ rfl rfl (bnotF (decide_eq_false (by rw [DJ ZD, endN, if_neg ZD]; decide))) rfl (AE _ (CC _ rfl (bnotF (decide_eq_false (by rw [DJ ZD, endN, if_neg ZD]; decide))) rfl) rfl ?_)
 refine A1 (AK (A7 _ rfl rfl ?_))
 refine A4 (AO (AE (.agg (V6).toArray) Ze rfl ?_))
 refine Z2 1 ?_
 refine AC (AB 0 nb1 29 _ 67 (V6) rfl rfl rfl DD ZS (AQ (AQ ZC A6) ZC) ZS (AI ZS)) rfl ?_
 show JL _ _ _ _ _ [_, _, _, _, _]
 refine Z2 5 ?_
 refine Z1 fun w1 hw1 => ?_
 exact ⟨_, _, rfl, ⟨(BadRp.short ZD), rfl, _, _, _, _, _, _, _, _, _, _, _, _, _, _, _, rfl⟩, Hp.pick hw1 [0, 1, 2, 3, 4] ⟨rfl, rfl, rfl, rfl, rfl, trivial⟩ ZD⟩
theorem parqA_c (ax : Option Addr) (n c : Nat) (z0 : List UInt8) (w : World) (hA : ax = none → c = 0) (hz : z0.length = n) (hn : n ≤ 200000) (hc : n ≤ c) (hcm : c ≤ maxLen) (hr : RdB w [] ax z0) : Calls Tryd.prog 53 #[SL ax n c] w (Post w [] (fun v L => (∃ sq qk niq lq fs mn pv ep kd ni l ns ls bl tg eq g0 cs0 T0 a0 c0 g1 cs1 T1 a1 c1 g2 cs2 T2 a2 c2, GRq z0 sq qk lq fs mn pv ep kd l ls bl tg eq ∧ lq.length = niq ∧ l.length = ni ∧ ls.length = ns ∧ tg.length = 16 ∧ niq ≤ 256 ∧ ni ≤ 256 ∧ ns ≤ 256 ∧ v = .tuple #[.agg (V1 sq qk a0 niq c0 fs mn pv ep kd a1 ni c1 a2 ns c2 bl tg eq).toArray, .nilIface] ∧ L = [(Ez g0 cs0 T0), (Ez g1 cs1 T1), (Ez g2 cs2 T2)] ∧ Gh (cu64 lq) g0 cs0 a0 ∧ niq ≤ c0 ∧ c0 ≤ maxLen ∧ Gh (cu64 l) g1 cs1 a1 ∧ ni ≤ c1 ∧ c1 ≤ maxLen ∧ Gh (ls.flatMap sealC) g2 cs2 a2 ∧ ns ≤ c2 ∧ c2 ≤ maxLen) ∨ (BadRq z0 ∧ v = .tuple #[.agg (V5).toArray, .iface 50 (I64 2)] ∧ ∃ g0 cs0 T0 g1 cs1 T1 g2 cs2 T2, L = [(Ez g0 cs0 T0), (Ez g1 cs1 T1), (Ez g2 cs2 T2)]))) := by
 by_cases ha : ax = none
 ·
  subst ha
  obtain rfl : c = 0 := hA rfl
  obtain rfl : n = 0 := by omega
  obtain rfl : z0 = [] := List.eq_nil_of_length_eq_zero hz
  refine (parqN_c w).mono ?_
  rintro E W ⟨v, L, hv, h, hw⟩
  exact ⟨v, L, hv, .inr h, hw⟩
 ·
  exact parq_c ax n c z0 w (by cases ax with
   | none => exact absurd rfl ha
   | some x => rfl) hz ZO hc hcm hr
theorem parpA_c (ax : Option Addr) (n c : Nat) (z0 : List UInt8) (w : World) (hA : ax = none → c = 0) (hz : z0.length = n) (hn : n ≤ 200000) (hc : n ≤ c) (hcm : c ≤ maxLen) (hr : RdB w [] ax z0) : Calls Tryd.prog 55 #[SL ax n c] w (Post w [] (fun v L => (∃ rq rk er nj lj th pv ep kd ni l ns ls bl tg na xa nb xb g0 cs0 T0 a0 c0 g1 cs1 T1 a1 c1 g2 cs2 T2 a2 c2 g3 cs3 T3 a3 c3 g4 cs4 T4 a4 c4, GRp z0 rq rk er lj th pv ep kd l ls bl tg na xa nb xb ∧ lj.length = nj ∧ l.length = ni ∧ ls.length = ns ∧ tg.length = 16 ∧ nj ≤ 256 ∧ ni ≤ 256 ∧ ns ≤ 256 ∧ xa.length = na*32 ∧ xb.length = nb*32 ∧ v = .tuple #[.agg (V0 rq rk er a0 nj c0 th pv ep kd a1 ni c1 a2 ns c2 bl tg a3 na c3 a4 nb c4).toArray, .nilIface] ∧ L = [(Ez g0 cs0 T0), (Ez g1 cs1 T1), (Ez g2 cs2 T2), (Ez g3 cs3 T3), (Ez g4 cs4 T4)] ∧ Gh (lj.flatMap itemC) g0 cs0 a0 ∧ nj ≤ c0 ∧ c0 ≤ maxLen ∧ Gh (cu64 l) g1 cs1 a1 ∧ ni ≤ c1 ∧ c1 ≤ maxLen ∧ Gh (ls.flatMap sealC) g2 cs2 a2 ∧ ns ≤ c2 ∧ c2 ≤ maxLen ∧ Gh (cu8 xa) g3 cs3 a3 ∧ na ≤ c3 ∧ c3 ≤ maxLen ∧ Gh (cu8 xb) g4 cs4 a4 ∧ nb ≤ c4 ∧ c4 ≤ maxLen) ∨ (BadRp z0 ∧ v = .tuple #[.agg (V6).toArray, .iface 50 (I64 2)] ∧ ∃ g0 cs0 T0 g1 cs1 T1 g2 cs2 T2 g3 cs3 T3 g4 cs4 T4, L = [(Ez g0 cs0 T0), (Ez g1 cs1 T1), (Ez g2 cs2 T2), (Ez g3 cs3 T3), (Ez g4 cs4 T4)]))) := by
 by_cases ha : ax = none
 ·
  subst ha
  obtain rfl : c = 0 := hA rfl
  obtain rfl : n = 0 := by omega
  obtain rfl : z0 = [] := List.eq_nil_of_length_eq_zero hz
  refine (parpN_c w).mono ?_
  rintro E W ⟨v, L, hv, h, hw⟩
  exact ⟨v, L, hv, .inr h, hw⟩
 ·
  exact parp_c ax n c z0 w (by cases ax with
   | none => exact absurd rfl ha
   | some x => rfl) hz ZO hc hcm hr
end Go.Proofs.YtkdpdgpphpngeaaDoor
namespace Go.Proofs.YtkdpdgpphpngeaaDoor
open Go Go.Sx Go.RowKit
open Go.Value renaming slice → SL
open Go.ChangeShapes Go.WideShapes
def RqE (z : List UInt8) (sq : UInt64) (qk : Int) (lq : List UInt64) (fs : UInt64) (mn : Int) (pv : UInt64) (ep : UInt64) (kd : Int) (l : List UInt64) (ls : List SealR) (bl : UInt64) (tg : List UInt8) (eq : UInt64) (e : Nat) : Prop := (e = 0 ∧ GRq z sq qk lq fs mn pv ep kd l ls bl tg eq) ∨ (e = 2 ∧ BadRq z ∧ sq = 0 ∧ qk = 0 ∧ lq = [] ∧ fs = 0 ∧ mn = 0 ∧ pv = 0 ∧ ep = 0 ∧ kd = 0 ∧ l = [] ∧ ls = [] ∧ bl = 0 ∧ tg = zr8 16 ∧ eq = 0)
theorem RqE.one {z : List UInt8} {sq : UInt64} {qk : Int} {lq : List UInt64} {fs : UInt64} {mn : Int} {pv : UInt64} {ep : UInt64} {kd : Int} {l : List UInt64} {ls : List SealR} {bl : UInt64} {tg : List UInt8} {eq : UInt64} {e : Nat}
  {sq' : UInt64} {qk' : Int} {lq' : List UInt64} {fs' : UInt64} {mn' : Int} {pv' : UInt64} {ep' : UInt64} {kd' : Int} {l' : List UInt64} {ls' : List SealR} {bl' : UInt64} {tg' : List UInt8} {eq' : UInt64} {e' : Nat} (h : RqE z sq qk lq fs mn pv ep kd l ls bl tg eq e) (h' : RqE z sq' qk' lq' fs' mn' pv' ep' kd' l' ls' bl' tg' eq' e') : sq = sq' ∧ qk = qk' ∧ lq = lq' ∧ fs = fs' ∧ mn = mn' ∧ pv = pv' ∧ ep = ep' ∧ kd = kd' ∧ l = l' ∧ ls = ls' ∧ bl = bl' ∧ tg = tg' ∧ eq = eq' ∧ e = e' := by
 rcases h with ⟨rfl, hG⟩ | ⟨rfl, hB, rfl, rfl, rfl, rfl, rfl, rfl, rfl, rfl, rfl, rfl, rfl, rfl, rfl⟩ <;> rcases h' with ⟨rfl, hG'⟩ | ⟨rfl, hB', rfl, rfl, rfl, rfl, rfl, rfl, rfl, rfl, rfl, rfl, rfl, rfl, rfl⟩
 ·
  obtain ⟨a0, a1, a2, a3, a4, a5, a6, a7, a8, a9, a10, a11, a12, _⟩ := hG.1.one hG'.1
  exact ⟨a0, a1, a2, a3, a4, a5, a6, a7, a8, a9, a10, a11, a12, rfl⟩
 ·
  exact absurd hG (hB' _ _ _ _ _ _ _ _ _ _ _ _ _)
 ·
  exact absurd hG' (hB _ _ _ _ _ _ _ _ _ _ _ _ _)
 ·
  exact ⟨rfl, rfl, rfl, rfl, rfl, rfl, rfl, rfl, rfl, rfl, rfl, rfl, rfl, rfl⟩
theorem RqE.err {z : List UInt8} {sq : UInt64} {qk : Int} {lq : List UInt64} {fs : UInt64} {mn : Int} {pv : UInt64} {ep : UInt64} {kd : Int} {l : List UInt64} {ls : List SealR} {bl : UInt64} {tg : List UInt8} {eq : UInt64} {e : Nat} (h : RqE z sq qk lq fs mn pv ep kd l ls bl tg eq e) : e = 0 ∨ e = 2 := h.imp (fun h => h.1) (fun h => h.1)
def RpE (z : List UInt8) (rq : UInt64) (rk : Int) (er : Int) (lj : List ItemR) (th : Bool) (pv : UInt64) (ep : UInt64) (kd : Int) (l : List UInt64) (ls : List SealR) (bl : UInt64) (tg : List UInt8) (na : Nat) (xa : List UInt8) (nb : Nat) (xb : List UInt8) (e : Nat) : Prop := (e = 0 ∧ GRp z rq rk er lj th pv ep kd l ls bl tg na xa nb xb) ∨ (e = 2 ∧ BadRp z ∧ rq = 0 ∧ rk = 0 ∧ er = 0 ∧ lj = [] ∧ th = false ∧ pv = 0 ∧ ep = 0 ∧ kd = 0 ∧ l = [] ∧ ls = [] ∧ bl = 0 ∧ tg = zr8 16 ∧ na = 0 ∧ xa = [] ∧ nb = 0 ∧ xb = [])
theorem RpE.one {z : List UInt8} {rq : UInt64} {rk : Int} {er : Int} {lj : List ItemR} {th : Bool} {pv : UInt64} {ep : UInt64} {kd : Int} {l : List UInt64} {ls : List SealR} {bl : UInt64} {tg : List UInt8} {na : Nat} {xa : List UInt8} {nb : Nat} {xb : List UInt8} {e : Nat}
  {rq' : UInt64} {rk' : Int} {er' : Int} {lj' : List ItemR} {th' : Bool} {pv' : UInt64} {ep' : UInt64} {kd' : Int} {l' : List UInt64} {ls' : List SealR} {bl' : UInt64} {tg' : List UInt8} {na' : Nat} {xa' : List UInt8} {nb' : Nat} {xb' : List UInt8} {e' : Nat} (h : RpE z rq rk er lj th pv ep kd l ls bl tg na xa nb xb e) (h' : RpE z rq' rk' er' lj' th' pv' ep' kd' l' ls' bl' tg' na' xa' nb' xb' e') : rq = rq' ∧ rk = rk' ∧ er = er' ∧ lj = lj' ∧ th = th' ∧ pv = pv' ∧ ep = ep' ∧ kd = kd' ∧ l = l' ∧ ls = ls' ∧ bl = bl' ∧ tg = tg' ∧ na = na' ∧ xa = xa' ∧ nb = nb' ∧ xb = xb' ∧ e = e' := by
 rcases h with ⟨rfl, hG⟩ | ⟨rfl, hB, rfl, rfl, rfl, rfl, rfl, rfl, rfl, rfl, rfl, rfl, rfl, rfl, rfl, rfl, rfl, rfl⟩ <;> rcases h' with ⟨rfl, hG'⟩ | ⟨rfl, hB', rfl, rfl, rfl, rfl, rfl, rfl, rfl, rfl, rfl, rfl, rfl, rfl, rfl, rfl, rfl, rfl⟩
 ·
  obtain ⟨a0, a1, a2, a3, a4, a5, a6, a7, a8, a9, a10, a11, a12, a13, a14, a15⟩ := hG.one hG'
  exact ⟨a0, a1, a2, a3, a4, a5, a6, a7, a8, a9, a10, a11, a12, a13, a14, a15, rfl⟩
 ·
  exact absurd hG (hB' _ _ _ _ _ _ _ _ _ _ _ _ _ _ _ _)
 ·
  exact absurd hG' (hB _ _ _ _ _ _ _ _ _ _ _ _ _ _ _ _)
 ·
  exact ⟨rfl, rfl, rfl, rfl, rfl, rfl, rfl, rfl, rfl, rfl, rfl, rfl, rfl, rfl, rfl, rfl, rfl⟩
theorem RpE.err {z : List UInt8} {rq : UInt64} {rk : Int} {er : Int} {lj : List ItemR} {th : Bool} {pv : UInt64} {ep : UInt64} {kd : Int} {l : List UInt64} {ls : List SealR} {bl : UInt64} {tg : List UInt8} {na : Nat} {xa : List UInt8} {nb : Nat} {xb : List UInt8} {e : Nat} (h : RpE z rq rk er lj th pv ep kd l ls bl tg na xa nb xb e) : e = 0 ∨ e = 2 := h.imp (fun h => h.1) (fun h => h.1)
theorem RpE.four {z : List UInt8} {rq : UInt64} {rk : Int} {er : Int} {lj : List ItemR} {th : Bool} {pv : UInt64} {ep : UInt64} {kd : Int} {l : List UInt64} {ls : List SealR} {bl : UInt64} {tg : List UInt8} {na : Nat} {xa : List UInt8} {nb : Nat} {xb : List UInt8} {e : Nat} (h : RpE z rq rk er lj th pv ep kd l ls bl tg na xa nb xb e) : na ≤ 256 ∧ nb ≤ 8192 := by
 rcases h with ⟨_, hG⟩ | ⟨_, _, _, _, _, _, _, _, _, _, _, _, _, _, h1, _, h2, _⟩
 ·
  exact repR_4 hG.2
 ·
  omega
end Go.Proofs.YtkdpdgpphpngeaaDoor
namespace Go.Proofs.YtkdpdgpphpngeaaDoor
open Go Go.Sx
open Go.Value renaming slice → SL
attribute [local irreducible] mid zr8 numK valK rvalK constL initL putL RightB tktT mayN idxT selT blankB spanB reqR plainV itB chB bB aB c1B c2B c3B c4B repR repT LargeQ eQ vQ tQ bQ sQ ixQ seQ fQ fN hQ
theorem parqE_c (ax : Option Addr) (n c : Nat) (z0 : List UInt8) (w : World) (hA : ax = none → c = 0) (hz : z0.length = n) (hn : n ≤ 200000) (hc : n ≤ c) (hcm : c ≤ maxLen) (hr : RdB w [] ax z0) : Calls Tryd.prog 53 #[SL ax n c] w (Post w [] (fun v L => ∃ sq qk niq lq fs mn pv ep kd ni l ns ls bl tg eq e g0 cs0 T0 a0 c0 g1 cs1 T1 a1 c1 g2 cs2 T2 a2 c2, RqE z0 sq qk lq fs mn pv ep kd l ls bl tg eq e ∧ lq.length = niq ∧ l.length = ni ∧ ls.length = ns ∧ tg.length = 16 ∧ niq ≤ 256 ∧ ni ≤ 256 ∧ ns ≤ 256 ∧ v = .tuple #[.agg (V1 sq qk a0 niq c0 fs mn pv ep kd a1 ni c1 a2 ns c2 bl tg eq).toArray, errV 50 e] ∧ L = [(Ez g0 cs0 T0), (Ez g1 cs1 T1), (Ez g2 cs2 T2)] ∧ Gh (cu64 lq) g0 cs0 a0 ∧ niq ≤ c0 ∧ c0 ≤ maxLen ∧ Gh (cu64 l) g1 cs1 a1 ∧ ni ≤ c1 ∧ c1 ≤ maxLen ∧ Gh (ls.flatMap sealC) g2 cs2 a2 ∧ ns ≤ c2 ∧ c2 ≤ maxLen)) := by
 refine (parqA_c ax n c z0 w hA hz hn hc hcm hr).mono ?_
 rintro E W ⟨v, L, hE, (⟨sq, qk, niq, lq, fs, mn, pv, ep, kd, ni, l, ns, ls, bl, tg, eq, g0, cs0, T0, a0, c0, g1, cs1, T1, a1, c1, g2, cs2, T2, a2, c2, hG, h⟩ | ⟨hB, hv, g0, cs0, T0, g1, cs1, T1, g2, cs2, T2, hL⟩), hw⟩
 ·
  exact ⟨v, L, hE, ⟨sq, qk, niq, lq, fs, mn, pv, ep, kd, ni, l, ns, ls, bl, tg, eq, 0, g0, cs0, T0, a0, c0, g1, cs1, T1, a1, c1, g2, cs2, T2, a2, c2, .inl ⟨rfl, hG⟩, h⟩, hw⟩
 ·
  exact ⟨v, L, hE, ⟨0, 0, 0, [], 0, 0, 0, 0, 0, 0, [], 0, [], 0, (zr8 16), 0, 2, g0, cs0, T0, none, 0, g1, cs1, T1, none, 0, g2, cs2, T2, none, 0, .inr ⟨rfl, hB, rfl, rfl, rfl, rfl, rfl, rfl, rfl, rfl, rfl, rfl, rfl, rfl, rfl⟩, rfl, rfl, rfl, AN 16, by omega, by omega, by omega, hv, hL, .inl rfl, by omega, by unfold maxLen; omega, .inl rfl, by omega, by unfold maxLen; omega, .inl rfl, by omega, by unfold maxLen; omega⟩, hw⟩
theorem rparqE_c (ax : Option Addr) (n c : Nat) (z0 : List UInt8) (sq : UInt64) (qk : Int) (niq : Nat) (lq : List UInt64) (fs : UInt64) (mn : Int) (pv : UInt64) (ep : UInt64) (kd : Int) (ni : Nat) (l : List UInt64) (ns : Nat) (ls : List SealR) (bl : UInt64) (tg : List UInt8) (eq : UInt64) (e : Nat) (w : World) (hz : z0.length = n) (hn : n ≤ 200000) (hc : n ≤ c) (hcm : c ≤ maxLen) (hr : RdB w [] ax z0) (hE : RqE z0 sq qk lq fs mn pv ep kd l ls bl tg eq e) (h_lq : lq.length = niq) (h_l : l.length = ni) (h_ls : ls.length = ns) (h_tg : tg.length = 16) : Calls Tryd.prog 54 #[SL ax n c] w (Post w [] (fun v L => ∃ g0 cs0 T0 a0 c0 g1 cs1 T1 a1 c1 g2 cs2 T2 a2 c2, niq ≤ 256 ∧ ni ≤ 256 ∧ ns ≤ 256 ∧ v = .tuple #[.agg (V1 sq qk a0 niq c0 fs mn pv ep kd a1 ni c1 a2 ns c2 bl tg eq).toArray, .bool (decide (e = 0))] ∧ L = [(Ez g0 cs0 T0), (Ez g1 cs1 T1), (Ez g2 cs2 T2)] ∧ Gh (cu64 lq) g0 cs0 a0 ∧ niq ≤ c0 ∧ c0 ≤ maxLen ∧ Gh (cu64 l) g1 cs1 a1 ∧ ni ≤ c1 ∧ c1 ≤ maxLen ∧ Gh (ls.flatMap sealC) g2 cs2 a2 ∧ ns ≤ c2 ∧ c2 ≤ maxLen)) := by
 refine (rparq_c ax n c z0 w hz (by omega) hc hcm hr).mono ?_
 rintro E W ⟨v, L, hV, (⟨sq', qk', niq', lq', fs', mn', pv', ep', kd', ni', l', ns', ls', bl', tg', eq', g0, cs0, T0, a0, c0, g1, cs1, T1, a1, c1, g2, cs2, T2, a2, c2, hG', k0, k1, k2, k3, b0, b1, b2, r⟩ | ⟨hB, hv, g0, cs0, T0, g1, cs1, T1, g2, cs2, T2, hL⟩), hw⟩
 ·
  obtain ⟨rfl, rfl, rfl, rfl, rfl, rfl, rfl, rfl, rfl, rfl, rfl, rfl, rfl, he⟩ := hE.one (Or.inl ⟨rfl, hG'⟩)
  subst he
  obtain rfl : niq = niq' := h_lq.symm.trans k0
  obtain rfl : ni = ni' := h_l.symm.trans k1
  obtain rfl : ns = ns' := h_ls.symm.trans k2
  exact ⟨v, L, hV, ⟨g0, cs0, T0, a0, c0, g1, cs1, T1, a1, c1, g2, cs2, T2, a2, c2, b0, b1, b2, r⟩, hw⟩
 ·
  obtain ⟨rfl, rfl, rfl, rfl, rfl, rfl, rfl, rfl, rfl, rfl, rfl, rfl, rfl, he⟩ := hE.one (Or.inr ⟨rfl, hB, rfl, rfl, rfl, rfl, rfl, rfl, rfl, rfl, rfl, rfl, rfl, rfl, rfl⟩)
  subst he
  obtain rfl : niq = 0 := h_lq.symm
  obtain rfl : ni = 0 := h_l.symm
  obtain rfl : ns = 0 := h_ls.symm
  exact ⟨v, L, hV, ⟨g0, cs0, T0, none, 0, g1, cs1, T1, none, 0, g2, cs2, T2, none, 0, by omega, by omega, by omega, hv, hL, .inl rfl, by omega, by unfold maxLen; omega, .inl rfl, by omega, by unfold maxLen; omega, .inl rfl, by omega, by unfold maxLen; omega⟩, hw⟩
theorem parpE_c (ax : Option Addr) (n c : Nat) (z0 : List UInt8) (w : World) (hA : ax = none → c = 0) (hz : z0.length = n) (hn : n ≤ 200000) (hc : n ≤ c) (hcm : c ≤ maxLen) (hr : RdB w [] ax z0) : Calls Tryd.prog 55 #[SL ax n c] w (Post w [] (fun v L => ∃ rq rk er nj lj th pv ep kd ni l ns ls bl tg na xa nb xb e g0 cs0 T0 a0 c0 g1 cs1 T1 a1 c1 g2 cs2 T2 a2 c2 g3 cs3 T3 a3 c3 g4 cs4 T4 a4 c4, RpE z0 rq rk er lj th pv ep kd l ls bl tg na xa nb xb e ∧ lj.length = nj ∧ l.length = ni ∧ ls.length = ns ∧ tg.length = 16 ∧ nj ≤ 256 ∧ ni ≤ 256 ∧ ns ≤ 256 ∧ xa.length = na*32 ∧ xb.length = nb*32 ∧ v = .tuple #[.agg (V0 rq rk er a0 nj c0 th pv ep kd a1 ni c1 a2 ns c2 bl tg a3 na c3 a4 nb c4).toArray, errV 50 e] ∧ L = [(Ez g0 cs0 T0), (Ez g1 cs1 T1), (Ez g2 cs2 T2), (Ez g3 cs3 T3), (Ez g4 cs4 T4)] ∧ Gh (lj.flatMap itemC) g0 cs0 a0 ∧ nj ≤ c0 ∧ c0 ≤ maxLen ∧ Gh (cu64 l) g1 cs1 a1 ∧ ni ≤ c1 ∧ c1 ≤ maxLen ∧ Gh (ls.flatMap sealC) g2 cs2 a2 ∧ ns ≤ c2 ∧ c2 ≤ maxLen ∧ Gh (cu8 xa) g3 cs3 a3 ∧ na ≤ c3 ∧ c3 ≤ maxLen ∧ Gh (cu8 xb) g4 cs4 a4 ∧ nb ≤ c4 ∧ c4 ≤ maxLen)) := by
 refine (parpA_c ax n c z0 w hA hz hn hc hcm hr).mono ?_
 rintro E W ⟨v, L, hE, (⟨rq, rk, er, nj, lj, th, pv, ep, kd, ni, l, ns, ls, bl, tg, na, xa, nb, xb, g0, cs0, T0, a0, c0, g1, cs1, T1, a1, c1, g2, cs2, T2, a2, c2, g3, cs3, T3, a3, c3, g4, cs4, T4, a4, c4, hG, h⟩ | ⟨hB, hv, g0, cs0, T0, g1, cs1, T1, g2, cs2, T2, g3, cs3, T3, g4, cs4, T4, hL⟩), hw⟩
 ·
  exact ⟨v, L, hE, ⟨rq, rk, er, nj, lj, th, pv, ep, kd, ni, l, ns, ls, bl, tg, na, xa, nb, xb, 0, g0, cs0, T0, a0, c0, g1, cs1, T1, a1, c1, g2, cs2, T2, a2, c2, g3, cs3, T3, a3, c3, g4, cs4, T4, a4, c4, .inl ⟨rfl, hG⟩, h⟩, hw⟩
 ·
  exact ⟨v, L, hE, ⟨0, 0, 0, 0, [], false, 0, 0, 0, 0, [], 0, [], 0, (zr8 16), 0, [], 0, [], 2, g0, cs0, T0, none, 0, g1, cs1, T1, none, 0, g2, cs2, T2, none, 0, g3, cs3, T3, none, 0, g4, cs4, T4, none, 0, .inr ⟨rfl, hB, rfl, rfl, rfl, rfl, rfl, rfl, rfl, rfl, rfl, rfl, rfl, rfl, rfl, rfl, rfl, rfl⟩, rfl, rfl, rfl, AN 16, by omega, by omega, by omega, rfl, rfl, hv, hL, .inl rfl, by omega, by unfold maxLen; omega, .inl rfl, by omega, by unfold maxLen; omega, .inl rfl, by omega, by unfold maxLen; omega, .inl rfl, by omega, by unfold maxLen; omega, .inl rfl, by omega, by unfold maxLen; omega⟩, hw⟩
theorem rparpE_c (ax : Option Addr) (n c : Nat) (z0 : List UInt8) (rq : UInt64) (rk : Int) (er : Int) (nj : Nat) (lj : List ItemR) (th : Bool) (pv : UInt64) (ep : UInt64) (kd : Int) (ni : Nat) (l : List UInt64) (ns : Nat) (ls : List SealR) (bl : UInt64) (tg : List UInt8) (na : Nat) (xa : List UInt8) (nb : Nat) (xb : List UInt8) (e : Nat) (w : World) (hz : z0.length = n) (hn : n ≤ 200000) (hc : n ≤ c) (hcm : c ≤ maxLen) (hr : RdB w [] ax z0) (hE : RpE z0 rq rk er lj th pv ep kd l ls bl tg na xa nb xb e) (h_lj : lj.length = nj) (h_l : l.length = ni) (h_ls : ls.length = ns) (h_tg : tg.length = 16) (h_xa : xa.length = na*32) (h_xb : xb.length = nb*32) : Calls Tryd.prog 56 #[SL ax n c] w (Post w [] (fun v L => ∃ g0 cs0 T0 a0 c0 g1 cs1 T1 a1 c1 g2 cs2 T2 a2 c2 g3 cs3 T3 a3 c3 g4 cs4 T4 a4 c4, nj ≤ 256 ∧ ni ≤ 256 ∧ ns ≤ 256 ∧ v = .tuple #[.agg (V0 rq rk er a0 nj c0 th pv ep kd a1 ni c1 a2 ns c2 bl tg a3 na c3 a4 nb c4).toArray, .bool (decide (e = 0))] ∧ L = [(Ez g0 cs0 T0), (Ez g1 cs1 T1), (Ez g2 cs2 T2), (Ez g3 cs3 T3), (Ez g4 cs4 T4)] ∧ Gh (lj.flatMap itemC) g0 cs0 a0 ∧ nj ≤ c0 ∧ c0 ≤ maxLen ∧ Gh (cu64 l) g1 cs1 a1 ∧ ni ≤ c1 ∧ c1 ≤ maxLen ∧ Gh (ls.flatMap sealC) g2 cs2 a2 ∧ ns ≤ c2 ∧ c2 ≤ maxLen ∧ Gh (cu8 xa) g3 cs3 a3 ∧ na ≤ c3 ∧ c3 ≤ maxLen ∧ Gh (cu8 xb) g4 cs4 a4 ∧ nb ≤ c4 ∧ c4 ≤ maxLen)) := by
 refine (rparp_c ax n c z0 w hz (by omega) hc hcm hr).mono ?_
 rintro E W ⟨v, L, hV, (⟨rq', rk', er', nj', lj', th', pv', ep', kd', ni', l', ns', ls', bl', tg', na', xa', nb', xb', g0, cs0, T0, a0, c0, g1, cs1, T1, a1, c1, g2, cs2, T2, a2, c2, g3, cs3, T3, a3, c3, g4, cs4, T4, a4, c4, hG', k0, k1, k2, k3, b0, b1, b2, k4, k5, r⟩ | ⟨hB, hv, g0, cs0, T0, g1, cs1, T1, g2, cs2, T2, g3, cs3, T3, g4, cs4, T4, hL⟩), hw⟩
 ·
  obtain ⟨rfl, rfl, rfl, rfl, rfl, rfl, rfl, rfl, rfl, rfl, rfl, rfl, rfl, rfl, rfl, rfl, he⟩ := hE.one (Or.inl ⟨rfl, hG'⟩)
  subst he
  obtain rfl : nj = nj' := h_lj.symm.trans k0
  obtain rfl : ni = ni' := h_l.symm.trans k1
  obtain rfl : ns = ns' := h_ls.symm.trans k2
  exact ⟨v, L, hV, ⟨g0, cs0, T0, a0, c0, g1, cs1, T1, a1, c1, g2, cs2, T2, a2, c2, g3, cs3, T3, a3, c3, g4, cs4, T4, a4, c4, b0, b1, b2, r⟩, hw⟩
 ·
  obtain ⟨rfl, rfl, rfl, rfl, rfl, rfl, rfl, rfl, rfl, rfl, rfl, rfl, rfl, rfl, rfl, rfl, he⟩ := hE.one (Or.inr ⟨rfl, hB, rfl, rfl, rfl, rfl, rfl, rfl, rfl, rfl, rfl, rfl, rfl, rfl, rfl, rfl, rfl, rfl⟩)
  subst he
  obtain rfl : nj = 0 := h_lj.symm
  obtain rfl : ni = 0 := h_l.symm
  obtain rfl : ns = 0 := h_ls.symm
  exact ⟨v, L, hV, ⟨g0, cs0, T0, none, 0, g1, cs1, T1, none, 0, g2, cs2, T2, none, 0, g3, cs3, T3, none, 0, g4, cs4, T4, none, 0, by omega, by omega, by omega, hv, hL, .inl rfl, by omega, by unfold maxLen; omega, .inl rfl, by omega, by unfold maxLen; omega, .inl rfl, by omega, by unfold maxLen; omega, .inl rfl, by omega, by unfold maxLen; omega, .inl rfl, by omega, by unfold maxLen; omega⟩, hw⟩
attribute [local irreducible] GRq GRp RqE RpE JL JC JQ DP Ev Ld MemAt Seg Step Cl RV Qok Cok
theorem wparses_c (ax : Option Addr) (n c : Nat) (z0 : List UInt8)  (w : World) (hA : ax = none → c = 0) (hz : z0.length = n) (hn : n ≤ 30000) (hc : n ≤ c) (hcm : c ≤ maxLen) (hr : RdB w [] ax z0) (hW : GLw w)  : Calls Tryd.prog 10 #[SL ax n c] w (Post w [] (fun v L => v = .bool true ∧ L = [])) := by
 have hmx : maxLen = 9223372036854775807 := rfl
 refine enter w [] 74 [] [SL ax n c] Tryd.func10 rfl rfl ZM (A2 ZM ZM ZM) ?_
 show JC _ _ _ [_] _
 refine Z2 8 ?_
 refine AF (AJ 17 _ (.bool true) (AH _ Tryd.call17 rfl) (fun w1 hw1 => alive14_c  w1 (GLw.at hw1 hW))) rfl ?_
 rintro v1 L1 ⟨rfl, rfl⟩
 show JL _ _ _ _ (_ :: _) []
 refine Z2 3 ?_
 refine AY _ rfl rfl ?_
 refine Z2 10 ?_
 refine AY _ rfl (decide_eq_false ZO) ?_
 refine Z2 5 ?_
 refine AF (A5 53 _ _ (AH _ Tryd.call53 rfl) (fun w1 hw1 => parqE_c ax n c z0 w1 hA hz ZO ZO ZO (hr.at (M' := []) hw1 ZM))) rfl ?_
 rintro v1 L1 ⟨_, ⟨pf1, pf2, pf3, pf4, pf5, pf6, pf7, pf8, pf9, pf10, pf11, pf12, pf13, pf14, pf15, pf16, pe1, ng1, cs1, nT1, na1, nc1, ng2, cs2, nT2, na2, nc2, ng3, cs3, nT3, na3, nc3, hG1, hc1, hc2, hc3, hc4, hc5, hc6, hc7, rfl, rfl, hc8, hc9, hc10, hc11, hc12, hc13, hc14, hc15, hc16⟩, rfl⟩
 show JL _ _ _ _ (_ :: _) [_, _, _]
 refine Z2 3 ?_
 refine AF (AS _ (V5) Tryd.zeroValue31 ZR) rfl ?_
 rintro v1 L1 ⟨nb1, hnb1, rfl, rfl⟩
 show JL _ _ _ _ (_ :: _) [_, _, _, _]
 refine AC (AB 3 nb1 28 _ 31 (V1 pf1 (pf2) na1 pf3 nc1 pf5 (pf6) pf7 pf8 (pf9) na2 pf10 nc2 na3 pf12 nc3 pf14 pf15 pf16) rfl rfl rfl C4 (by simp [hc4]) (AQ (AQ ZC A6) ZC) ZS (AI (by simp [(AN 16), hc4]))) rfl ?_
 show JL _ _ _ _ _ [_, _, _, _]
 refine Z2 6 ?_
 refine AF (A5 54 _ _ (AH _ Tryd.call54 rfl) (fun w1 hw1 => rparqE_c ax n c z0 pf1 pf2 pf3 pf4 pf5 pf6 pf7 pf8 pf9 pf10 pf11 pf12 pf13 pf14 pf15 pf16 pe1 w1 hz ZO ZO ZO (hr.at (M' := []) hw1 ZM) hG1 hc1 hc2 hc3 hc4)) rfl ?_
 rintro v1 L1 ⟨_, ⟨ng4, cs4, nT4, na4, nc4, ng5, cs5, nT5, na5, nc5, ng6, cs6, nT6, na6, nc6, hc17, hc18, hc19, rfl, rfl, hc20, hc21, hc22, hc23, hc24, hc25, hc26, hc27, hc28⟩, rfl⟩
 show JL _ _ _ _ (_ :: _) [_, _, _, _, _, _, _]
 refine Z2 3 ?_
 refine AF (AS _ (V5) Tryd.zeroValue40 ZR) rfl ?_
 rintro v1 L1 ⟨nb2, hnb2, rfl, rfl⟩
 show JL _ _ _ _ (_ :: _) [_, _, _, _, _, _, _, _]
 refine AC (AB 7 nb2 28 _ 40 (V1 pf1 (pf2) na4 pf3 nc4 pf5 (pf6) pf7 pf8 (pf9) na5 pf10 nc5 na6 pf12 nc6 pf14 pf15 pf16) rfl rfl rfl DI (by simp [hc4]) (AQ (AQ ZC A6) ZC) ZS (AI (by simp [(AN 16), hc4]))) rfl ?_
 show JL _ _ _ _ _ [_, _, _, _, _, _, _, _]
 refine Z2 6 ?_
 refine AF (A5 55 _ _ (AH _ Tryd.call55 rfl) (fun w1 hw1 => parpE_c ax n c z0 w1 hA hz ZO ZO ZO (hr.at (M' := []) hw1 ZM))) rfl ?_
 rintro v1 L1 ⟨_, ⟨pf17, pf18, pf19, pf20, pf21, pf22, pf23, pf24, pf25, pf26, pf27, pf28, pf29, pf30, pf31, pf32, pf33, pf34, pf35, pe2, ng7, cs7, nT7, na7, nc7, ng8, cs8, nT8, na8, nc8, ng9, cs9, nT9, na9, nc9, ng10, cs10, nT10, na10, nc10, ng11, cs11, nT11, na11, nc11, hG2, hc29, hc30, hc31, hc32, hc33, hc34, hc35, hc36, hc37, rfl, rfl, hc38, hc39, hc40, hc41, hc42, hc43, hc44, hc45, hc46, hc47, hc48, hc49, hc50, hc51, hc52⟩, rfl⟩
 show JL _ _ _ _ (_ :: _) [_, _, _, _, _, _, _, _, _, _, _, _, _]
 refine Z2 3 ?_
 refine AF (AS _ (V6) Tryd.zeroValue67 ZR) rfl ?_
 rintro v1 L1 ⟨nb3, hnb3, rfl, rfl⟩
 show JL _ _ _ _ (_ :: _) [_, _, _, _, _, _, _, _, _, _, _, _, _, _]
 refine AC (AB 13 nb3 29 _ 67 (V0 pf17 (pf18) (pf19) na7 pf20 nc7 pf22 pf23 pf24 (pf25) na8 pf26 nc8 na9 pf28 nc9 pf30 pf31 na10 pf32 nc10 na11 pf34 nc11) rfl rfl rfl DD (by simp [hc32]) (AQ (AQ ZC A6) ZC) ZS (AI (by simp [(AN 16), hc32]))) rfl ?_
 show JL _ _ _ _ _ [_, _, _, _, _, _, _, _, _, _, _, _, _, _]
 refine Z2 6 ?_
 refine AF (A5 56 _ _ (AH _ Tryd.call56 rfl) (fun w1 hw1 => rparpE_c ax n c z0 pf17 pf18 pf19 pf20 pf21 pf22 pf23 pf24 pf25 pf26 pf27 pf28 pf29 pf30 pf31 pf32 pf33 pf34 pf35 pe2 w1 hz ZO ZO ZO (hr.at (M' := []) hw1 ZM) hG2 hc29 hc30 hc31 hc32 hc36 hc37)) rfl ?_
 rintro v1 L1 ⟨_, ⟨ng12, cs12, nT12, na12, nc12, ng13, cs13, nT13, na13, nc13, ng14, cs14, nT14, na14, nc14, ng15, cs15, nT15, na15, nc15, ng16, cs16, nT16, na16, nc16, hc53, hc54, hc55, rfl, rfl, hc56, hc57, hc58, hc59, hc60, hc61, hc62, hc63, hc64, hc65, hc66, hc67, hc68, hc69, hc70⟩, rfl⟩
 show JL _ _ _ _ (_ :: _) [_, _, _, _, _, _, _, _, _, _, _, _, _, _, _, _, _, _, _]
 refine Z2 3 ?_
 refine AF (AS _ (V6) Tryd.zeroValue71 ZR) rfl ?_
 rintro v1 L1 ⟨nb4, hnb4, rfl, rfl⟩
 show JL _ _ _ _ (_ :: _) [_, _, _, _, _, _, _, _, _, _, _, _, _, _, _, _, _, _, _, _]
 refine AC (AB 19 nb4 29 _ 71 (V0 pf17 (pf18) (pf19) na12 pf20 nc12 pf22 pf23 pf24 (pf25) na13 pf26 nc13 na14 pf28 nc14 pf30 pf31 na15 pf32 nc15 na16 pf34 nc16) rfl rfl rfl D1 (by simp [hc32]) (AQ (AQ ZC A6) ZC) ZS (AI (by simp [(AN 16), hc32]))) rfl ?_
 show JL _ _ _ _ _ [_, _, _, _, _, _, _, _, _, _, _, _, _, _, _, _, _, _, _, _]
 refine Z2 4 ?_
 refine ED (ι := Unit) (fun _ => [(3, Ptr nb1 0), (5, Ptr nb2 0), (7, Ptr nb3 0), (9, Ptr nb4 0)]) (fun _ => [(Ez ng1 cs1 nT1), (Ez ng2 cs2 nT2), (Ez ng3 cs3 nT3), (Ez nb1 (V1 pf1 (pf2) na1 pf3 nc1 pf5 (pf6) pf7 pf8 (pf9) na2 pf10 nc2 na3 pf12 nc3 pf14 pf15 pf16) 31), (Ez ng4 cs4 nT4), (Ez ng5 cs5 nT5), (Ez ng6 cs6 nT6), (Ez nb2 (V1 pf1 (pf2) na4 pf3 nc4 pf5 (pf6) pf7 pf8 (pf9) na5 pf10 nc5 na6 pf12 nc6 pf14 pf15 pf16) 40), (Ez ng7 cs7 nT7), (Ez ng8 cs8 nT8), (Ez ng9 cs9 nT9), (Ez ng10 cs10 nT10), (Ez ng11 cs11 nT11), (Ez nb3 (V0 pf17 (pf18) (pf19) na7 pf20 nc7 pf22 pf23 pf24 (pf25) na8 pf26 nc8 na9 pf28 nc9 pf30 pf31 na10 pf32 nc10 na11 pf34 nc11) 67), (Ez ng12 cs12 nT12), (Ez ng13 cs13 nT13), (Ez ng14 cs14 nT14), (Ez ng15 cs15 nT15), (Ez ng16 cs16 nT16), (Ez nb4 (V0 pf17 (pf18) (pf19) na12 pf20 nc12 pf22 pf23 pf24 (pf25) na13 pf26 nc13 na14 pf28 nc14 pf30 pf31 na15 pf32 nc15 na16 pf34 nc16) 71)]) (fun _ => True) ?_ ?_
 ·
  refine A4 ?_
  have he1 := RqE.err hG1
  have he2 := RpE.err hG2
  refine Z2 3 ?_
  refine AE (.bool (decide (pe1 = 0))) (CG _ _ _ rfl rfl (fun _ => BL ..) fun _ => eql_errV AV _ _) rfl ?_
  refine AE (.bool (!((decide (pe1 = 0)) == (decide (pe1 = 0))))) (CG _ _ _ rfl rfl (fun _ => eqGuard_bool ..) fun _ => neq_bool Tryd.underlying4) rfl ?_
  refine Z2 1 ?_
  refine AD 4 40 false _ _ rfl rfl (bnotT ZM) ZE rfl ?_
  refine AD 4 40 false _ (.bool (!(decide (pe1 = 0)))) rfl rfl (bnotT ZM) ZE rfl ?_
  refine AD 4 40 false _ _ rfl rfl (bnotT ZM) ZE rfl ?_
  rcases Bool.eq_false_or_eq_true (decide (pe1 = 0)) with hb1 | hb1
  ·
   have hp1 := of_decide_eq_true hb1
   refine Z2 3 ?_
   refine AD 4 40 false _ _ rfl rfl (bnotT ZM) ZE rfl ?_
   refine AE _ (BO _ rfl (bnotT ZM) rfl) rfl ?_
   refine Z2 3 ?_
   refine AD 13 49 false _ (.bool (decide (pe2 = 0))) rfl rfl rfl (CG _ _ _ rfl rfl (fun _ => BL ..) fun _ => eql_errV AV _ _) rfl ?_
   refine AD 13 49 false _ (.bool (!((decide (pe2 = 0)) == (decide (pe2 = 0))))) rfl rfl rfl (CG _ _ _ rfl rfl (fun _ => eqGuard_bool ..) fun _ => neq_bool Tryd.underlying4) rfl ?_
   refine Z2 2 ?_
   refine AD 19 55 false _ _ rfl rfl (bnotT ZM) ZE rfl ?_
   refine AD 19 55 false _ (.bool (!(decide (pe2 = 0)))) rfl rfl (bnotT ZM) ZE rfl ?_
   refine AD 19 55 false _ _ rfl rfl (bnotT ZM) ZE rfl ?_
   rcases Bool.eq_false_or_eq_true (decide (pe2 = 0)) with hb2 | hb2
   ·
    have hp2 := of_decide_eq_true hb2
    refine Z2 3 ?_
    refine AD 19 55 false _ _ rfl rfl (bnotT ZM) ZE rfl ?_
    refine AE _ (BO _ rfl (bnotT ZM) rfl) rfl ?_
    refine A1 (AK (AY _ rfl rfl ?_))
    refine CY (BU (()) trivial (Sub.all rfl) rfl)
   have hp2 := of_decide_eq_false hb2
   refine Z2 1 ?_
   refine B6 22 58 true _ rfl rfl (bnotF hb2) (AJ 23 _ (.bool (decide ((pe2:Int) = (2:Int)))) (AH _ Tryd.call23 rfl) (fun w1 hw1 => is_c pe2 2 w1)) rfl ?_
   rintro v1 L1 ⟨rfl, rfl⟩
   show JL _ _ _ _ (_ :: _) [_, _, _, _, _, _, _, _, _, _, _, _, _, _, _, _, _, _, _, _]
   refine Z2 1 ?_
   refine AD 19 55 false _ _ rfl rfl (bnotT ZM) ZE rfl ?_
   refine AE _ (BO _ rfl (bnotT ZM) rfl) rfl ?_
   refine A1 (AK (AY _ rfl (bnotT (decide_eq_true ZO)) ?_))
   refine CY (BU (()) trivial (Sub.all rfl) rfl)
  have hp1 := of_decide_eq_false hb1
  refine Z2 1 ?_
  refine B6 7 43 true _ rfl rfl (bnotF hb1) (AJ 23 _ (.bool (decide ((pe1:Int) = (2:Int)))) (AH _ Tryd.call23 rfl) (fun w1 hw1 => is_c pe1 2 w1)) rfl ?_
  rintro v1 L1 ⟨rfl, rfl⟩
  show JL _ _ _ _ (_ :: _) [_, _, _, _, _, _, _, _, _, _, _, _, _, _, _, _, _, _, _, _]
  refine Z2 1 ?_
  refine AD 4 40 false _ _ rfl rfl (bnotT ZM) ZE rfl ?_
  refine AE _ (BO _ rfl (bnotT ZM) rfl) rfl ?_
  refine Z2 1 ?_
  refine AD 13 49 false _ _ rfl rfl (bnotT (decide_eq_true ZO)) ZE rfl ?_
  refine AD 13 49 false _ _ rfl rfl (bnotT (decide_eq_true ZO)) ZE rfl ?_
  refine AD 13 49 false _ (.bool (decide (pe2 = 0))) rfl rfl (bnotT (decide_eq_true ZO)) (CG _ _ _ rfl rfl (fun _ => BL ..) fun _ => eql_errV AV _ _) rfl ?_
  refine AD 13 49 false _ (.bool (!((decide (pe2 = 0)) == (decide (pe2 = 0))))) rfl rfl (bnotT (decide_eq_true ZO)) (CG _ _ _ rfl rfl (fun _ => eqGuard_bool ..) fun _ => neq_bool Tryd.underlying4) rfl ?_
  refine AE _ (BO _ rfl (bnotT (decide_eq_true ZO)) rfl) rfl ?_
  refine Z2 1 ?_
  refine AD 19 55 false _ _ rfl rfl (bnotT ZM) ZE rfl ?_
  refine AD 19 55 false _ (.bool (!(decide (pe2 = 0)))) rfl rfl (bnotT ZM) ZE rfl ?_
  refine AD 19 55 false _ _ rfl rfl (bnotT ZM) ZE rfl ?_
  rcases Bool.eq_false_or_eq_true (decide (pe2 = 0)) with hb3 | hb3
  ·
   have hp3 := of_decide_eq_true hb3
   refine Z2 3 ?_
   refine AD 19 55 false _ _ rfl rfl (bnotT ZM) ZE rfl ?_
   refine AE _ (BO _ rfl (bnotT ZM) rfl) rfl ?_
   refine A1 (AK (AY _ rfl rfl ?_))
   refine CY (BU (()) trivial (Sub.all rfl) rfl)
  have hp3 := of_decide_eq_false hb3
  refine Z2 1 ?_
  refine B6 22 58 true _ rfl rfl (bnotF hb3) (AJ 23 _ (.bool (decide ((pe2:Int) = (2:Int)))) (AH _ Tryd.call23 rfl) (fun w1 hw1 => is_c pe2 2 w1)) rfl ?_
  rintro v1 L1 ⟨rfl, rfl⟩
  show JL _ _ _ _ (_ :: _) [_, _, _, _, _, _, _, _, _, _, _, _, _, _, _, _, _, _, _, _]
  refine Z2 1 ?_
  refine AD 19 55 false _ _ rfl rfl (bnotT ZM) ZE rfl ?_
  refine AE _ (BO _ rfl (bnotT ZM) rfl) rfl ?_
  refine A1 (AK (AY _ rfl (bnotT (decide_eq_true ZO)) ?_))
  refine CY (BU (()) trivial (Sub.all rfl) rfl)
 rintro _ hx
 obtain _ := hx
 show JQ _ _ _ [_, _, _, _] [_, _, _, _, _, _, _, _, _, _, _, _, _, _, _, _, _, _, _, _]
 refine Z2 2 ?_
 obtain ⟨hn4a, hn4b⟩ := RpE.four hG2
 refine Z8 74 5 [(0, .agg (V1 pf1 (pf2) na1 pf3 nc1 pf5 (pf6) pf7 pf8 (pf9) na2 pf10 nc2 na3 pf12 nc3 pf14 pf15 pf16).toArray), (2, .agg (V1 pf1 (pf2) na4 pf3 nc4 pf5 (pf6) pf7 pf8 (pf9) na5 pf10 nc5 na6 pf12 nc6 pf14 pf15 pf16).toArray)] ?_
 refine Z7 ⟨[], [0, 2], [], [0, 2], [1]⟩ 1 (AL rfl (A5 19 _ _ (AH _ Tryd.call19 rfl) (fun w1 hw1 => reqH_c pf1 (pf2) na1 pf3 nc1 pf4 pf5 (pf6) pf7 pf8 (pf9) na2 pf10 nc2 pf11 na3 pf12 nc3 pf13 pf14 pf15 pf16 w1 hc1 ZO ZO ZO (Gh.at hw1 0 rfl hc8) hc2 ZO ZO ZO (Gh.at hw1 1 rfl hc11) hc3 ZO ZO ZO (Gh.at hw1 2 rfl hc14) hc4))) ?_
 rintro v1 L1 ⟨_, ⟨ng17, cs17, nT17, na17, nc17, rfl, rfl, hc71, hc72, hc73⟩, rfl⟩
 refine ⟨[], ?_⟩
 show DP _ _ _ _ _ _ _ _ [_, _, _, _, _, _, _, _, _, _, _, _, _, _, _, _, _, _, _, _, _]
 refine Z7 ⟨[1], [0, 2], [0], [2], [3]⟩ 3 (AL rfl (AJ 57 _ (.bool true) (AH _ Tryd.call57 rfl) (fun w1 hw1 => rsameReqT_c pf1 (pf2) na1 pf3 nc1 pf4 pf5 (pf6) pf7 pf8 (pf9) na2 pf10 nc2 pf11 na17 pf12 nc17 pf13 pf14 pf15 pf16 na4 nc4 na5 nc5 na6 nc6 w1 hc1 ZO ZO ZO (Gh.at hw1 0 rfl hc8) hc2 ZO ZO ZO (Gh.at hw1 1 rfl hc11) hc3 ZO ZO ZO (Gh.at hw1 20 rfl hc71) hc4 ZO ZO (Gh.at hw1 4 rfl hc20) ZO ZO (Gh.at hw1 5 rfl hc23) ZO ZO (Gh.at hw1 6 rfl hc26)))) ?_
 rintro v1 L1 ⟨rfl, rfl⟩
 refine ⟨[(4, .bool true), (5, .agg (V0 pf17 (pf18) (pf19) na7 pf20 nc7 pf22 pf23 pf24 (pf25) na8 pf26 nc8 na9 pf28 nc9 pf30 pf31 na10 pf32 nc10 na11 pf34 nc11).toArray), (7, .agg (V0 pf17 (pf18) (pf19) na12 pf20 nc12 pf22 pf23 pf24 (pf25) na13 pf26 nc13 na14 pf28 nc14 pf30 pf31 na15 pf32 nc15 na16 pf34 nc16).toArray)], ?_⟩
 show DP _ _ _ _ _ _ _ _ [_, _, _, _, _, _, _, _, _, _, _, _, _, _, _, _, _, _, _, _, _]
 refine Z7 ⟨[1, 3], [0, 2, 4, 5, 7], [0, 2], [4, 5, 7], [6]⟩ 6 (hq := ⟨BM rfl rfl rfl, ⟨_, rfl, BA 4 68 true _ rfl rfl rfl rfl (AR rfl (BV Tryd.isAgg67 DD (by simp [hc32]) (A0 13 rfl (AG _))))⟩, ⟨_, rfl, BA 4 68 true _ rfl rfl rfl rfl (AR rfl (BV Tryd.isAgg71 D1 (by simp [hc32]) (A0 19 rfl (AG _))))⟩, trivial⟩) (Cok_gstep 4 68 true _ rfl rfl rfl rfl (A5 32 _ _ (AH _ Tryd.call32 rfl) (fun w1 hw1 => repH_c pf17 (pf18) (pf19) na7 pf20 nc7 pf21 pf22 pf23 pf24 (pf25) na8 pf26 nc8 pf27 na9 pf28 nc9 pf29 pf30 pf31 na10 pf32 nc10 pf33 na11 pf34 nc11 pf35 w1 hc29 ZO ZO ZO (Gh.at hw1 8 rfl hc38) hc30 ZO ZO ZO (Gh.at hw1 9 rfl hc41) hc31 ZO ZO ZO (Gh.at hw1 10 rfl hc44) hc32 hc36 ZO ZO ZO (Gh.rdB hw1 11 rfl hc47) hc37 ZO ZO ZO (Gh.rdB hw1 12 rfl hc50)))) ?_
 rintro v1 L1 ⟨_, ⟨ng18, cs18, nT18, na18, nc18, ng19, cs19, nT19, na19, nc19, rfl, rfl, hc74, hc75, hc76, hc77, hc78, hc79⟩, rfl⟩
 refine ⟨[], ?_⟩
 show DP _ _ _ _ _ _ _ _ [_, _, _, _, _, _, _, _, _, _, _, _, _, _, _, _, _, _, _, _, _, _, _]
 refine Z7 ⟨[1, 3, 6], [0, 2, 4, 5, 7], [0, 2, 4, 5], [7], [8]⟩ 8 (hq := ⟨⟨_, rfl, BA 4 68 true _ rfl rfl rfl rfl (AR rfl (BV Tryd.isAgg71 D1 (by simp [hc32]) (A0 19 rfl (AG _))))⟩, trivial⟩) (Cok_gstep 4 68 true _ rfl rfl rfl rfl (AJ 37 _ (.bool true) (AH _ Tryd.call37 rfl) (fun w1 hw1 => rsameRepT_c pf17 (pf18) (pf19) na18 pf20 nc18 pf21 pf22 pf23 pf24 (pf25) na8 pf26 nc8 pf27 na19 pf28 nc19 pf29 pf30 pf31 na10 pf32 nc10 pf33 na11 pf34 nc11 pf35 na12 nc12 na13 nc13 na14 nc14 na15 nc15 na16 nc16 w1 hc29 ZO ZO ZO (Gh.at hw1 21 rfl hc74) hc30 ZO ZO ZO (Gh.at hw1 9 rfl hc41) hc31 ZO ZO ZO (Gh.at hw1 22 rfl hc77) hc32 hc36 ZO ZO ZO (Gh.rdB hw1 11 rfl hc47) hc37 ZO ZO ZO (Gh.rdB hw1 12 rfl hc50) ZO ZO (Gh.at hw1 14 rfl hc56) ZO ZO (Gh.at hw1 15 rfl hc59) ZO ZO (Gh.at hw1 16 rfl hc62) ZO ZO (Gh.rdB hw1 17 rfl hc65) ZO ZO (Gh.rdB hw1 18 rfl hc68)))) ?_
 rintro v1 L1 ⟨rfl, rfl⟩
 refine ⟨[(9, .bool true), (10, .bool true)], ?_⟩
 show DP _ _ _ _ _ _ _ _ [_, _, _, _, _, _, _, _, _, _, _, _, _, _, _, _, _, _, _, _, _, _, _]
 refine Z5 ⟨[1, 3, 6, 8], [0, 2, 4, 5, 7, 9, 10], [0, 2, 4, 5, 7], [9, 10], []⟩ ?_
 refine A9 (F' := [(2, .bool true)]) ZR ?_
 refine AK (CH (A8 [false, false, false, false, false, false, false, false, false, false, false, false, false, false, false, false, false, false, false, false, false, false, false] ?_))
 show JQ _ _ _ _ []
 refine Z1 fun w1 hw1 => ?_
 exact ⟨_, [], rfl, ⟨congrArg Value.bool rfl, rfl⟩, hw1.no⟩
theorem wparsesL_c (ax : Option Addr) (n c : Nat) (z0 : List UInt8)  (w : World) (hz : z0.length = n) (hn : 30000 < n) (hc : n ≤ c) (hcm : c ≤ maxLen) (hr : RdB w [] ax z0) (hW : GLw w)  : Calls Tryd.prog 10 #[SL ax n c] w (Post w [] (fun v L => v = .bool true ∧ L = [])) := by
 have hmx : maxLen = 9223372036854775807 := rfl
 refine enter w [] 74 [] [SL ax n c] Tryd.func10 rfl rfl ZM (A2 ZM ZM ZM) ?_
 show JC _ _ _ [_] _
 refine Z2 8 ?_
 refine AF (AJ 17 _ (.bool true) (AH _ Tryd.call17 rfl) (fun w1 hw1 => alive14_c  w1 (GLw.at hw1 hW))) rfl ?_
 rintro v1 L1 ⟨rfl, rfl⟩
 show JL _ _ _ _ (_ :: _) []
 refine Z2 3 ?_
 refine AY _ rfl rfl ?_
 refine Z2 10 ?_
 refine A7 _ rfl (decide_eq_true ZO) ?_
 refine Z2 7 ?_
 refine Z1 fun w1 hw1 => ?_
 exact ⟨_, [], rfl, ⟨congrArg Value.bool rfl, rfl⟩, hw1.no⟩
theorem wireParses_w (az : Option Addr) (n cz : Nat) (z : List UInt8) (w : World) (hz : z.length = n) (hcb : az = none → cz = 0) (hc : n ≤ cz ∧ cz ≤ maxLen) (hr : RdB w [] az z) (hW : GLw w) : Calls Tryd.prog 10 #[SL az n cz] w (Post w [] (fun v L => v = .bool true ∧ L = [])) := by
 by_cases hn : n ≤ 30000
 ·
  exact wparses_c az n cz z w hcb hz hn hc.1 hc.2 hr hW
 ·
  exact wparsesL_c az n cz z w hz ZO hc.1 hc.2 hr hW
end Go.Proofs.YtkdpdgpphpngeaaDoor
namespace Go.Sx
open Go Go.RowKit
open Go.ChangeShapes Go.WideShapes
theorem strs_cells {H : Type} {enc : TypeId × Value → H} {P : Program} {w : World} {base : Nat} {sp : Nat → Bool} {held : Bool} {t e : TypeId} {n : Nat} {l : List (List UInt8)} {p : List MemPlace}
  (ht : P.underlying t = some (.array n e)) (he : P.underlying e = some .string) (hce : P.cellsOf e = 1) (hct : P.cellsOf t = n) :
  ∀ {fuel : Nat} {cs : List Value}, DataW.trod enc P w base sp held fuel t cs = some (.agg (l.map fun s => .lit (.string s)), p) → cs = l.map fun s => Value.string ⟨s.toArray⟩
 | 0, cs, h => by simp [DataW.trod] at h
 | fuel + 1, cs, h => by
  simp only [DataW.trod, ht, hce, hct, Nat.mul_one] at h
  split at h
  case isFalse => cases h
  case isTrue hl =>
   obtain ⟨xs, hm, hx⟩ := Option.map_eq_some_iff.1 h
   have e1 : xs.map Prod.fst = l.map fun s => (DataW.lit (.string s) : DataW H) := by simpa using congrArg Prod.fst hx
   have e2 : xs.length = n := by simpa using Lib.mapM_length hm
   have e3 : l.length = n := by rw [← e2]; simpa using (congrArg List.length e1).symm
   refine List.ext_getElem? fun i => ?_
   by_cases hi : i < n
   ·
    obtain ⟨b, hb, hf⟩ := Lib.mapM_at hm i i (by simp [hi])
    obtain ⟨s, hc, rfl, _⟩ := DataW.trod_string he hf
    have c0 : (List.take 1 (List.drop i cs))[0]? = some (Value.string s) := by rw [hc]; rfl
    have c1 : cs[i]? = some (.string s) := by simpa [List.getElem?_take, List.getElem?_drop] using c0
    have c2 := congrArg (·[i]?) e1
    simp only [List.getElem?_map, hb, Option.map_some] at c2
    obtain ⟨s', hs', he'⟩ := Option.map_eq_some_iff.1 c2.symm
    have he2 : s' = s.data.toList := by simpa using he'
    subst he2
    rw [c1, List.getElem?_map, hs']
    simp
   ·
    rw [List.getElem?_eq_none (by omega), List.getElem?_eq_none (by simp; omega)]
theorem laid_rdS {P : Program} {W : World} {laid : List (String × DataW Unit)} (h : laidMetH P laid W) (hp : (laid.all fun x => x.2.handleName?.isNone) = true) {name : String} {d : DataW Unit} (hm : (name, d) ∈ laid) (l : List (List UInt8))
  (hd : d = .agg (l.map fun s => .lit (.string s))) {g t e n : Nat}
  (hg : P.globalNamed name = some g) (hty : (P.globals[g]?).map (·.type) = some t) (ht : P.underlying t = some (.array n e)) (he : P.underlying e = some .string) (hce : P.cellsOf e = 1) (hct : P.cellsOf t = n) (hl : 0 < l.length) : RdA W g 0 (l.map fun s => Value.string ⟨s.toArray⟩) := by
 rw [MakeChecks.laidMetH_plain _ _ _ hp] at h
 obtain ⟨ps, hv, _, _⟩ := h
 obtain ⟨g', t', cs, fuel, p, hg', ht', hvar, htr⟩ := laidVars_mem hv hm
 obtain rfl := Option.some.inj (hg.symm.trans hg')
 obtain rfl := Option.some.inj (hty.symm.trans ht')
 subst hd
 have hcs := strs_cells ht he hce hct htr
 have key : ∀ j v, (l.map fun s => Value.string ⟨s.toArray⟩)[j]? = some v → W.cell? ⟨g, 0 + j, none⟩ = some v := fun j v hj => by
  have := World.var?_cell hg hvar j
  rw [Nat.zero_add, this, ← Array.getElem?_toList, hcs]
  exact hj
 have h0 : (l.map fun s => Value.string ⟨s.toArray⟩)[0]? = some (Value.string ⟨(l[0]'hl).toArray⟩) := by simp [hl]
 exact ⟨lt_of_cell (key 0 _ h0), key⟩
end Go.Sx
namespace Go.Proofs.YtkdpdgpphpngeaaDoor
open Go
open Go.Value renaming slice → SL
def headSigns : List Char := ([104, 97, 114, 110, 101, 115, 115, 32, 50, 100, 55, 48, 102, 53, 99, 56, 51, 51, 98, 102, 98, 55, 98, 99, 56, 100, 101, 50, 52, 51, 50, 51, 48, 101, 101, 48, 52, 55, 57, 55, 51, 101, 57, 54, 57, 51, 101, 100, 101, 55, 53, 51, 52, 48, 54, 50, 55, 99, 57, 57, 52, 50, 54, 50, 100, 102, 102, 56, 48, 54, 100, 50, 32, 99, 117, 116, 32, 97, 116, 32, 101, 110, 116, 114, 117, 115, 116, 47, 101, 110, 116, 114, 117, 115, 116, 108, 97, 119, 49, 52, 46, 87, 105, 114, 101, 82, 101, 113, 117, 101, 115, 116, 115, 32, 101, 110, 116, 114, 117, 115, 116, 47, 101, 110, 116, 114, 117, 115, 116, 108, 97, 119, 49, 53, 46, 76, 105, 110, 107, 83, 101, 97, 108, 115, 32, 101, 110, 116, 114, 117, 115, 116, 47, 101, 110, 116, 114, 117, 115, 116, 108, 97, 119, 49, 53, 46, 76, 105, 110, 107, 83, 105, 122, 101, 115, 32, 101, 110, 116, 114, 117, 115, 116, 47, 101, 110, 116, 114, 117, 115, 116, 108, 97, 119, 49, 52, 46, 87, 105, 114, 101, 82, 101, 112, 108, 105, 101, 115, 32, 101, 110, 116, 114, 117, 115, 116, 47, 101, 110, 116, 114, 117, 115, 116, 108, 97, 119, 49, 53, 46, 76, 105, 110, 107, 79, 112, 101, 110, 115, 32, 101, 110, 116, 114, 117, 115, 116, 47, 101, 110, 116, 114, 117, 115, 116, 108, 97, 119, 49, 53, 46, 76, 105, 110, 107, 66, 97, 99, 107, 32, 101, 110, 116, 114, 117, 115, 116, 47, 101, 110, 116, 114, 117, 115, 116, 108, 97, 119, 49, 51, 46, 84, 105, 99, 107, 101, 116, 83, 105, 103, 110, 115, 32, 101, 110, 116, 114, 117, 115, 116, 47, 101, 110, 116, 114, 117, 115, 116, 108, 97, 119, 49, 52, 46, 87, 105, 114, 101, 80, 97, 114, 115, 101, 115, 32, 101, 110, 116, 114, 117, 115, 116, 47, 101, 110, 116, 114, 117, 115, 116, 108, 97, 119, 49, 51, 46, 84, 105, 99, 107, 101, 116, 80, 97, 114, 115, 101, 115, 32, 101, 110, 116, 114, 117, 115, 116, 47, 101, 110, 116, 114, 117, 115, 116, 108, 97, 119, 49, 51, 46, 84, 105, 99, 107, 101, 116, 66, 97, 99, 107, 32, 101, 110, 116, 114, 117, 115, 116, 47, 101, 110, 116, 114, 117, 115, 116, 108, 97, 119, 49, 51, 46, 84, 105, 99, 107, 101, 116, 79, 114, 100, 101, 114, 115, 32, 101, 110, 116, 114, 117, 115, 116, 47, 101, 110, 116, 114, 117, 115, 116, 108, 97, 119, 49, 52, 46, 87, 105, 114, 101, 87, 111, 114, 100, 115, 32, 101, 110, 116, 114, 117, 115, 116, 47, 101, 110, 116, 114, 117, 115, 116, 108, 97, 119, 49, 52, 46, 87, 105, 114, 101, 66, 97, 99, 107, 32, 101, 110, 116, 114, 117, 115, 116, 47, 101, 110, 116, 114, 117, 115, 116, 108, 97, 119, 49, 51, 46, 84, 105, 99, 107, 101, 116, 83, 101, 97, 108, 115] : List Nat).map Char.ofNat
theorem headStr : Tryd.prog.initOrder = String.ofList headSigns := by kernel_rfl
theorem headIs : Tryd.prog.initOrder.toList = headSigns := by
 rw [headStr]
 exact String.toList_ofList
def sumSigns : List Char := ([50, 100, 55, 48, 102, 53, 99, 56, 51, 51, 98, 102, 98, 55, 98, 99, 56, 100, 101, 50, 52, 51, 50, 51, 48, 101, 101, 48, 52, 55, 57, 55, 51, 101, 57, 54, 57, 51, 101, 100, 101, 55, 53, 51, 52, 48, 54, 50, 55, 99, 57, 57, 52, 50, 54, 50, 100, 102, 102, 56, 48, 54, 100, 50] : List Nat).map Char.ofNat
theorem sumIs : "2d70f5c833bfb7bc8de243230ee047973e9693ede75340627c994262dff806d2".toList = sumSigns := by
 have h : "2d70f5c833bfb7bc8de243230ee047973e9693ede75340627c994262dff806d2" = String.ofList sumSigns := by kernel_rfl
 rw [h]
 exact String.toList_ofList
theorem head_cons {α : Type} {l : List α} {x : α} (h : l.head? = some x) : ∃ r, l = x :: r := by cases l <;> simp_all
theorem make_cut {P : Program} {r : List (List Char)} (h : behindMainWord (wordsSigns P.initOrder.toList) = "cut".toList :: r) : P.make = some .cut := by
 unfold Program.make
 rw [h]
 rfl
theorem headLifts_cut {P : Program} (h : (stripLifts liftWords (behindMainWord (wordsSigns P.initOrder.toList))).1 = []) : P.headLifts = [] := by
 unfold Program.headLifts
 simp only [h]
 split <;> rfl
theorem lifts_cut {P : Program} {r : List (List Char)} (h : behindMainWord (wordsSigns P.initOrder.toList) = "cut".toList :: r) (h1 : P.headLifts = []) : P.liftsFinal = false := by
 unfold Program.liftsFinal
 rw [h, h1]
 rfl
theorem mayEnter_cut {P : Program} {r : List (List Char)} (h : behindMainWord (wordsSigns P.initOrder.toList) = "cut".toList :: r) (h1 : P.laysLater = false) (h2 : P.bearsReflect = false)
  (h3 : (stripLifts liftWords (behindMainWord (wordsSigns P.initOrder.toList))).1 = []) (h4 : (stripLifts liftWords (behindMainWord (wordsSigns P.initOrder.toList))).2.head? = some "cut".toList) (h5 : P.doorFits [] = true) : P.mayEnter = true := by
 unfold Program.mayEnter
 rw [h] at h3 h4 ⊢
 simp only [h1, h2, h3, h4, h5]
 simp
theorem main_cut {P : Program} {s : List Char} {r : List (List Char)} (h : wordsSigns P.initOrder.toList = "harness".toList :: s :: r) (hs : isSumSigns s = true) : P.mainIs = some (true, s) := by
 unfold Program.mainIs
 rw [h]
 simp [hs]
theorem hHead : (behindMainWord (wordsSigns Tryd.prog.initOrder.toList)).head? = some "cut".toList := by
 rw [headIs]
 kernel_rfl
theorem hStrip : (stripLifts liftWords (behindMainWord (wordsSigns Tryd.prog.initOrder.toList))).1 = [] := by
 rw [headIs]
 kernel_rfl
theorem hStrip2 : (stripLifts liftWords (behindMainWord (wordsSigns Tryd.prog.initOrder.toList))).2.head? = some "cut".toList := by
 rw [headIs]
 kernel_rfl
theorem hMain : wordsSigns Tryd.prog.initOrder.toList = "harness".toList :: sumSigns :: (wordsSigns headSigns).drop 2 := by
 rw [headIs]
 kernel_rfl
theorem hSum : isSumSigns sumSigns = true := by kernel_rfl
theorem hLater : Tryd.prog.laysLater = false := by kernel_rfl
theorem hReflect : Tryd.prog.bearsReflect = false := by kernel_rfl
theorem hDoor : Tryd.prog.doorFits [] = true := by kernel_rfl
theorem kMayEnter : Tryd.prog.mayEnter = true := by
 obtain ⟨r, h⟩ := head_cons hHead
 exact mayEnter_cut h hLater hReflect hStrip hStrip2 hDoor
theorem kLifts : Tryd.prog.liftsFinal = false := by
 obtain ⟨r, h⟩ := head_cons hHead
 exact lifts_cut h (headLifts_cut hStrip)
theorem kMake : Tryd.prog.make = some .cut := by
 obtain ⟨r, h⟩ := head_cons hHead
 exact make_cut h
theorem kMainIs : Tryd.prog.mainIs = some (true, "2d70f5c833bfb7bc8de243230ee047973e9693ede75340627c994262dff806d2".toList) := by
 rw [sumIs]
 exact main_cut hMain hSum
theorem kLaidOut : (laidOutB Tryd.prog) = true := by kernel_rfl
theorem kRowed : mapsRowed Tryd.prog = true := by kernel_rfl
theorem kStops : (Tryd.prog.stops == []) = true := by kernel_rfl
theorem kKnobs : (Tryd.prog.stopKnobs == []) = true := by kernel_rfl
theorem kHeard : Tryd.prog.stopsHeard = true := by kernel_rfl
theorem kLooks : true = Tryd.prog.looks [] := by kernel_rfl
end Go.Proofs.YtkdpdgpphpngeaaDoor
