import Derived.Test.YtkdpdgpphpngeaaDoorPkWR4
set_option linter.unusedVariables false
set_option linter.unusedSimpArgs false
set_option maxRecDepth 100000
namespace Go.Proofs.YtkdpdgpphpngeaaDoor
open Go Go.Sx
attribute [local irreducible] mid zr8 numK rnK valK constL initL putL RightB tktT mayN idxT selT blankB spanB reqR
theorem putReq1_c (sq : UInt64) (aiq : Option Addr) (niq ciq : Nat) (lq : List UInt64) (fs : UInt64) (mn : Int) (pv ep : UInt64) (kd : Int) (ai : Option Addr) (ni ci : Nat) (l : List UInt64) (sa : Option Addr) (ns sc : Nat) (ls : List SealR) (bl : UInt64) (tg : List UInt8) (eq : UInt64)  (w : World) (hlq : lq.length = niq) (hnmq : niq ≤ 2000000) (hncq : niq ≤ ciq) (hcmq : ciq ≤ maxLen) (hvq : RdV w aiq (cu64 lq)) (hl : l.length = ni) (hnm : ni ≤ 2000000) (hnc : ni ≤ ci) (hcm : ci ≤ maxLen) (hv : RdV w ai (cu64 l)) (hls : ls.length = ns) (hnn : ns ≤ 2000000) (hnd : ns ≤ sc) (hcn : sc ≤ maxLen) (hs : RdV w sa (ls.flatMap sealC)) (htg : tg.length = 16) (hbi : ni ≤ 300) (hbs : ns ≤ 300) (hR : reqR (1:Int) lq fs mn eq (blankB pv ep kd l ls bl tg) (decide (mayN pv ep kd l ls bl = 0)) = true)  : Calls Tryd.prog 21 #[.agg ([U64 sq, I64 1, .slice aiq niq ciq, U64 fs, I64 (mn), U64 pv, U64 ep, I64 (kd), .slice ai ni ci, .slice sa ns sc, U64 bl] ++ cu8 tg ++ [U64 eq]).toArray] w (Post w [] (fun v L => ∃ g sp cap, v = .tuple #[Slc g 0 (4*niq + 18) cap, .nilIface] ∧ L = [⟨g, cu8 ((((numK 8 sq 8 ++ numK 1 (1:UInt64) 1) ++ numK 8 eq 8) ++ numK 1 (UInt64.ofNat (niq - 1)) 1) ++ idxT lq niq) ++ sp, 5, (0, 0)⟩] ∧ sp.length = cap - (4*niq + 18) ∧ 4*niq + 18 ≤ cap ∧ cap ≤ maxLen)) := by
 have hmx : maxLen = 9223372036854775807 := rfl
 have hRI := reqR_one hR
 have hRp := RightI_pos hRI
 rw [hlq] at hRp
 refine enter (P := Tryd.prog) (f := 21) (fn := Tryd.f21) w [] 82 [] [.agg ([U64 sq, I64 1, .slice aiq niq ciq, U64 fs, I64 (mn), U64 pv, U64 ep, I64 (kd), .slice ai ni ci, .slice sa ns sc, U64 bl] ++ cu8 tg ++ [U64 eq]).toArray] Tryd.func21 rfl rfl (by simp) (B2 (by simp) (by simp) (by simp)) ?_
 show JC _ _ _ [(0, .agg ([U64 sq, I64 1, .slice aiq niq ciq, U64 fs, I64 (mn), U64 pv, U64 ep, I64 (kd), .slice ai ni ci, .slice sa ns sc, U64 bl] ++ cu8 tg ++ [U64 eq]).toArray)] _
 refine AI (AC (BG (CE (.agg ([U64 sq, I64 1, .slice aiq niq ciq, U64 fs, I64 (mn), U64 pv, U64 ep, I64 (kd), .slice ai ni ci, .slice sa ns sc, U64 bl] ++ cu8 tg ++ [U64 eq]).toArray) ([U64 sq, I64 1, .slice aiq niq ciq, U64 fs, I64 (mn), U64 pv, U64 ep, I64 (kd), .slice ai ni ci, .slice sa ns sc, U64 bl] ++ cu8 tg ++ [U64 eq]) rfl (by first | rfl | simp)) rfl ?_))
 rintro v1 L1 ⟨nb1, hnb1, rfl, rfl⟩
 show JL _ _ _ _ ((1, Ptr nb1 0) :: _) [⟨nb1, [U64 sq, I64 1, .slice aiq niq ciq, U64 fs, I64 (mn), U64 pv, U64 ep, I64 (kd), .slice ai ni ci, .slice sa ns sc, U64 bl] ++ cu8 tg ++ [U64 eq], 31, (0, 0)⟩]
 refine AA _ (AF rfl) rfl ?_
 refine AA _ (AF rfl) rfl ?_
 refine AK (AE (AI (AI (AC (AA (.agg ([U64 sq, I64 1, .slice aiq niq ciq, U64 fs, I64 (mn), U64 pv, U64 ep, I64 (kd), .slice ai ni ci, .slice sa ns sc, U64 bl] ++ cu8 tg ++ [U64 eq]).toArray) (AL rfl (B1 CS CJ (by simp [htg]) (AY 0 rfl (A1 _)))) rfl ?_)))))
 refine BS (A2 22 [.agg ([U64 sq, I64 1, .slice aiq niq ciq, U64 fs, I64 (mn), U64 pv, U64 ep, I64 (kd), .slice ai ni ci, .slice sa ns sc, U64 bl] ++ cu8 tg ++ [U64 eq]).toArray] (.bool (reqR (1:Int) lq fs (mn) eq (blankB pv ep (kd) l ls bl tg) (decide (mayN pv ep (kd) l ls bl = 0)))) (A5 _ Tryd.call22 rfl) (fun w1 hw1 => ED sq (1:Int) aiq niq ciq lq fs (mn) pv ep (kd) ai ni ci l sa ns sc ls bl tg eq w1 hlq (by omega) (by omega) (by omega) (BP hw1 rfl hvq) hl (by omega) (by omega) (by omega) (BP hw1 rfl hv) hls (by omega) (by omega) (by omega) (BP hw1 rfl hs) htg (by omega) (by omega))) rfl ?_
 show JL _ _ _ _ ((10, .bool (reqR (1:Int) lq fs (mn) eq (blankB pv ep (kd) l ls bl tg) (decide (mayN pv ep (kd) l ls bl = 0)))) :: _) [_]
 refine AA (.bool (!(reqR (1:Int) lq fs (mn) eq (blankB pv ep (kd) l ls bl tg) (decide (mayN pv ep (kd) l ls bl = 0))))) (C8 rfl) rfl ?_
 refine AK (AE (BT _ rfl (bnotT hR) ?_))
 refine BM (AE (AI (AC (AA (.agg #[.nilIface, .slice none 0 0]) (EN [] _ rfl (fun _ => by kernel_rfl)) rfl ?_))))
 refine BG (CE (.agg #[.nilIface, .slice none 0 0]) ([.nilIface, .slice none 0 0]) rfl (by first | rfl | simp)) rfl ?_
 rintro v1 L1 ⟨nb2, hnb2, rfl, rfl⟩
 show JL _ _ _ _ ((14, Ptr nb2 0) :: _) [_, ⟨nb2, [.nilIface, .slice none 0 0], 149, (0, 0)⟩]
 refine AA _ (AF rfl) rfl ?_
 refine AK (AE (AI (DC 82 3 [(0, Ptr nb2 0), (1, Ptr nb1 0), (2, U64 sq), (4, Ptr nb1 1), (5, I64 1), (6, U64 1)] B9 rfl (by decide +kernel) ?_)))
 refine CP ⟨[], [0, 1, 2, 4, 5, 6], [], [0, 1, 2, 4, 5, 6], [3]⟩ 3 _ rfl rfl (by decide +kernel) rfl ⟨CK rfl rfl rfl, ⟨_, rfl, AO rfl (AB 0 22 1 AS rfl AP rfl rfl)⟩, ⟨_, rfl, AO rfl (AL rfl (AV AR (AY 0 rfl (AH (AH (Seg.head))))))⟩, ⟨_, rfl, AO rfl (AB 1 3 1 AS rfl AT rfl rfl)⟩, ⟨_, rfl, AO rfl (AL rfl (AV AX (AY 0 rfl (AH (AH (AG (Seg.head)))))))⟩, ⟨_, rfl, AO rfl (DA _ _ rfl fun _ => EE (by rw [BO]; rfl) BQ rfl)⟩, trivial⟩ rfl (BJ rfl (C6 81 _ [false, true] [nb2] _ (A5 [Ptr nb2 0, U64 sq, I64 8] C1 rfl) rfl (fun w1 hw1 => numN_c nb2 8 .nilIface sq 8 w1 (hw1.ent _ (List.mem_of_getElem? (i := 1) rfl)) (by unfold Szd; omega) (fun h => absurd h (by omega)) (by omega)))) ?_
 rintro v1 L1 ⟨_, ⟨rfl, nb3, sp1, cp1, rfl, hc1, hc2, hc3⟩, rfl⟩
 refine ⟨[], ?_⟩
 show DP _ _ _ _ _ _ _ _ [_, ⟨nb2, [.nilIface, Slc nb3 0 8 cp1], 149, (0, 0)⟩, ⟨nb3, cu8 (numK 8 sq 8) ++ sp1, 5, (0, 0)⟩]
 refine CP ⟨[3], [0, 1, 2, 4, 5, 6], [0, 1, 2], [4, 5, 6], [7]⟩ 7 _ rfl rfl (by decide +kernel) rfl ⟨⟨_, rfl, AO rfl (AB 1 3 1 AS rfl AT rfl rfl)⟩, ⟨_, rfl, AO rfl (AL rfl (AV AX (AY 0 rfl (AH (AH (AG (Seg.head)))))))⟩, ⟨_, rfl, AO rfl (DA _ _ rfl fun _ => EE (by rw [BO]; rfl) BQ rfl)⟩, trivial⟩ rfl (BJ rfl (C6 81 _ [false, true, true] [nb2, nb3] _ (A5 [Ptr nb2 0, U64 1, I64 1] C1 rfl) rfl (fun w1 hw1 => FA nb2 nb3 8 cp1 9 .nilIface (numK 8 sq 8) sp1 (1:UInt64) 1 w1 (hw1.ent _ (List.mem_of_getElem? (i := 1) rfl)) (hw1.ent _ (List.mem_of_getElem? (i := 2) rfl)) (hw1.ne (i := 1) (j := 2) rfl rfl (by decide)) (show (numK 8 sq 8).length = 8 from (BE _ _ _)) hc1 hc2 hc3 (by omega) (by unfold Szd; omega) (fun _ => by decide) (by omega)))) ?_
 rintro v1 L1 ⟨_, ⟨rfl, nb4, sp2, cp2, rfl, hc4, hc5, hc6⟩, rfl⟩
 refine ⟨[], ?_⟩
 show DP _ _ _ _ _ _ _ _ [_, ⟨nb2, [.nilIface, Slc nb4 0 9 cp2], 149, (0, 0)⟩, ⟨nb4, cu8 ((numK 8 sq 8) ++ numK 1 (1:UInt64) 1) ++ sp2, 5, (0, 0)⟩]
 refine DK ⟨[3, 7], [0, 1, 2, 4, 5, 6], [0, 1, 2, 4, 5, 6], [], []⟩ rfl rfl (by decide +kernel) rfl trivial ?_
 refine CY (F' := [(1, Ptr nb1 0), (2, .slice none 0 0), (3, .nilIface), (4, Ptr nb2 0)]) (by kernel_rfl) ?_
 refine AE (AI (AI (AC (AA (Ptr nb1 1) (AB 1 3 1 AS rfl AT rfl rfl) rfl ?_))))
 refine AA (I64 1) (AL rfl (AV AX (AY 0 rfl (AH (AH (AG (Seg.head))))))) rfl ?_
 refine AA (.bool (decide ((1:Int) = (3:Int)))) (AQ rfl rfl fun _ => A4 _ _) rfl ?_
 refine AK (AE (BT _ rfl (by decide) ?_))
 refine BM (AE (AI (AC (AA _ (AM rfl) rfl ?_))))
 refine AA (Ptr nb1 27) (AB 27 22 1 AS rfl AP rfl rfl) rfl ?_
 refine AA (U64 eq) (AL rfl (AV AR (AY 0 rfl (Seg.right 27 0 (by simp [htg]) rfl (Seg.head))))) rfl ?_
 refine BG (C6 81 _ [false, true, true] [nb2, nb4] _ (A5 [Ptr nb2 0, U64 eq, I64 8] C1 rfl) rfl (fun w1 hw1 => FA nb2 nb4 9 cp2 17 .nilIface ((numK 8 sq 8) ++ numK 1 (1:UInt64) 1) sp2 eq 8 w1 (hw1.ent _ (List.mem_of_getElem? (i := 1) rfl)) (hw1.ent _ (List.mem_of_getElem? (i := 2) rfl)) (hw1.ne (i := 1) (j := 2) rfl rfl (by decide)) (show ((numK 8 sq 8) ++ numK 1 (1:UInt64) 1).length = 9 from (by rw [List.length_append, (show (numK 8 sq 8).length = 8 from (BE _ _ _)), BE] <;> omega)) hc4 hc5 hc6 (by omega) (by unfold Szd; omega) (fun h => absurd h (by omega)) (by omega))) rfl ?_
 rintro v1 L1 ⟨_, ⟨rfl, nb5, sp3, cp3, rfl, hc7, hc8, hc9⟩, rfl⟩
 show JL _ _ _ _ ((44, Ptr nb2 0) :: _) [_, ⟨nb2, [.nilIface, Slc nb5 0 17 cp3], 149, (0, 0)⟩, ⟨nb5, cu8 (((numK 8 sq 8) ++ numK 1 (1:UInt64) 1) ++ numK 8 eq 8) ++ sp3, 5, (0, 0)⟩]
 refine AK (AE (AI (AI (AC (AA (Ptr nb1 1) (AB 1 3 1 AS rfl AT rfl rfl) rfl ?_)))))
 refine AA (I64 1) (AL rfl (AV AX (AY 0 rfl (AH (AH (AG (Seg.head))))))) rfl ?_
 refine AK (AE (BY (AI (AC (AA (.bool (decide ((1:Int) = (1:Int)))) (AQ rfl rfl fun _ => A4 _ _) rfl ?_)))))
 refine AA _ (AF rfl) rfl ?_
 refine AK (AE (B5 _ rfl (by decide) ?_))
 refine AI (AC (AA _ (AM rfl) rfl ?_))
 refine AA (Ptr nb1 2) (AB 2 23 1 AS rfl BI rfl rfl) rfl ?_
 refine AA (.slice aiq niq ciq) (AL rfl (AV BL (AY 0 rfl (AH (AH (AG (AG (Seg.head)))))))) rfl ?_
 refine AA (I64 niq) (C9 A8 rfl) rfl ?_
 refine AA (I64 ((niq:Int) - 1)) (AQ rfl rfl fun _ => DL _ _ ((niq:Int) - 1) (by omega) (by omega)) rfl ?_
 refine AA (U64 (UInt64.ofNat (niq - 1))) (DA _ _ rfl fun _ => D9 (by rw [BO]; rfl) BQ (niq - 1) _ (by omega)) rfl ?_
 refine BG (C6 81 _ [false, true, true] [nb2, nb5] _ (A5 [Ptr nb2 0, U64 (UInt64.ofNat (niq - 1)), I64 1] C1 rfl) rfl (fun w1 hw1 => FA nb2 nb5 17 cp3 18 .nilIface (((numK 8 sq 8) ++ numK 1 (1:UInt64) 1) ++ numK 8 eq 8) sp3 (UInt64.ofNat (niq - 1)) 1 w1 (hw1.ent _ (List.mem_of_getElem? (i := 1) rfl)) (hw1.ent _ (List.mem_of_getElem? (i := 2) rfl)) (hw1.ne (i := 1) (j := 2) rfl rfl (by decide)) (show (((numK 8 sq 8) ++ numK 1 (1:UInt64) 1) ++ numK 8 eq 8).length = 17 from (by rw [List.length_append, (show ((numK 8 sq 8) ++ numK 1 (1:UInt64) 1).length = 9 from (by rw [List.length_append, (show (numK 8 sq 8).length = 8 from (BE _ _ _)), BE] <;> omega)), BE] <;> omega)) hc7 hc8 hc9 (by omega) (by unfold Szd; omega) (fun _ => shr8n (by omega)) (by omega))) rfl ?_
 rintro v1 L1 ⟨_, ⟨rfl, nb6, sp4, cp4, rfl, hc10, hc11, hc12⟩, rfl⟩
 show JL _ _ _ _ ((55, Ptr nb2 0) :: _) [_, ⟨nb2, [.nilIface, Slc nb6 0 18 cp4], 149, (0, 0)⟩, ⟨nb6, cu8 ((((numK 8 sq 8) ++ numK 1 (1:UInt64) 1) ++ numK 8 eq 8) ++ numK 1 (UInt64.ofNat (niq - 1)) 1) ++ sp4, 5, (0, 0)⟩]
 refine AK (AE (AI (AC (AA (Ptr nb1 2) (AB 2 23 1 AS rfl BI rfl rfl) rfl ?_))))
 refine AA (.slice aiq niq ciq) (AL rfl (AV BL (AY 0 rfl (AH (AH (AG (AG (Seg.head)))))))) rfl ?_
 refine AA (I64 niq) (C9 A8 rfl) rfl ?_
 refine AA _ (AM rfl) rfl ?_
 refine AK (AE (BY (BF [false, true, true] ?_)))
 show JC _ _ _ _ [_, _]
 refine EG (ι := Nat × List UInt8 × Nat × List Value × Nat) (fun ⟨i, oqi, gqi, spqi, cpqi⟩ => [(2, .slice none 0 0), (3, .nilIface), (4, Ptr nb2 0), (57, .slice aiq niq ciq), (58, I64 niq), (59, I64 i)]) (fun ⟨i, oqi, gqi, spqi, cpqi⟩ => [⟨nb2, [.nilIface, Slc gqi 0 (4*i + 18) cpqi], 149, (0, 0)⟩, ⟨gqi, cu8 oqi ++ spqi, 5, (0, 0)⟩]) (fun ⟨i, oqi, gqi, spqi, cpqi⟩ => i ≤ niq ∧ oqi = (((numK 8 sq 8 ++ numK 1 (1:UInt64) 1) ++ numK 8 eq 8) ++ numK 1 (UInt64.ofNat (niq - 1)) 1) ++ idxT lq i ∧ oqi.length = 4*i + 18 ∧ spqi.length = cpqi - (4*i + 18) ∧ 4*i + 18 ≤ cpqi ∧ cpqi ≤ maxLen) (fun ⟨i, oqi, gqi, spqi, cpqi⟩ => niq - i) (0, (((numK 8 sq 8) ++ numK 1 (1:UInt64) 1) ++ numK 8 eq 8) ++ numK 1 (UInt64.ofNat (niq - 1)) 1, nb6, sp4, cp4) ⟨by omega, by rw [idxT_zero, List.append_nil], (by have h := (show ((((numK 8 sq 8) ++ numK 1 (1:UInt64) 1) ++ numK 8 eq 8) ++ numK 1 (UInt64.ofNat (niq - 1)) 1).length = 18 from (by rw [List.length_append, (show (((numK 8 sq 8) ++ numK 1 (1:UInt64) 1) ++ numK 8 eq 8).length = 17 from (by rw [List.length_append, (show ((numK 8 sq 8) ++ numK 1 (1:UInt64) 1).length = 9 from (by rw [List.length_append, (show (numK 8 sq 8).length = 8 from (BE _ _ _)), BE] <;> omega)), BE] <;> omega)), BE] <;> omega)); omega), (by have h := hc10; omega), by omega, by omega⟩ (Sub.all rfl) (by first | rfl | (simp; done)) ?_
 rintro ⟨i, oqi, gqi, spqi, cpqi⟩ ⟨hi1, hi2, hi3, hi4, hi5, hi6⟩
 show JC _ _ _ [(2, .slice none 0 0), (3, .nilIface), (4, Ptr nb2 0), (57, .slice aiq niq ciq), (58, I64 niq), (59, I64 i)] [⟨nb2, [.nilIface, Slc gqi 0 (4*i + 18) cpqi], 149, (0, 0)⟩, ⟨gqi, cu8 oqi ++ spqi, 5, (0, 0)⟩]
 refine AI (AC (AA (.bool (decide (((i:Int)) < ((niq:Int))))) (AQ rfl rfl fun _ => CX _ _) rfl ?_))
 refine AK (AE (AI (BZ (decide (((i:Int)) < ((niq:Int)))) rfl (fun hb1 => ?_) (fun hb1 => ?_))))
 ·
  have hp1 : ((i:Int)) < ((niq:Int)) := of_decide_eq_true hb1
  refine BM (AE (AI (BY (AI (AC ?_)))))
  obtain ⟨bz1, oz1, hz1, hm1⟩ := RdV.pos hvq (by rw [EB, hlq]; omega)
  refine AA (Ptr bz1 (i + oz1)) (CU 22 1 (i + oz1) A8 AP rfl hz1 rfl (by omega) (by omega) (by omega)) rfl ?_
  refine AA (U64 (g64 lq i)) (AL rfl (AV AR (C3 (hm1.mem (by simp)) (Seg.get (E4 (i := i) (by rw [hlq]; omega))) (by omega)))) rfl ?_
  refine AA _ (AF rfl) rfl ?_
  refine AK (AE (AC (AA _ (AM rfl) rfl ?_)))
  refine AA _ (AM rfl) rfl ?_
  refine BG (C6 81 _ [true, true] [nb2, gqi] _ (A5 [Ptr nb2 0, U64 (g64 lq i), I64 4] C1 rfl) rfl (fun w1 hw1 => FA nb2 gqi (4*i + 18) cpqi (4*i + 22) .nilIface oqi spqi (g64 lq i) 4 w1 (hw1.ent _ (List.mem_of_getElem? (i := 0) rfl)) (hw1.ent _ (List.mem_of_getElem? (i := 1) rfl)) (hw1.ne (i := 0) (j := 1) rfl rfl (by decide)) hi3 hi4 hi5 hi6 (by omega) (by unfold Szd; omega) (fun _ => idx_fit hRI (by omega)) (by omega))) rfl ?_
  rintro v1 L1 ⟨_, ⟨rfl, nb7, sp5, cp5, rfl, hc13, hc14, hc15⟩, rfl⟩
  show JL _ _ _ _ ((65, Ptr nb2 0) :: _) [⟨nb2, [.nilIface, Slc nb7 0 (4*i + 22) cp5], 149, (0, 0)⟩, ⟨nb7, cu8 (oqi ++ numK 4 (g64 lq i) 4) ++ sp5, 5, (0, 0)⟩]
  refine AK (BR (AE (AC (AA (I64 ((i:Int) + 1)) (AQ rfl rfl fun _ => DV _ _ ((i:Int) + 1) (by omega) (by omega)) rfl ?_))))
  refine AA _ (AM rfl) rfl ?_
  refine AK (DU (EM (i + 1, oqi ++ numK 4 (g64 lq i) 4, nb7, sp5, cp5) ⟨by omega, by rw [hi2, idxT_succ, List.append_assoc], (by have h := (show (oqi ++ numK 4 (g64 lq i) 4).length = (4*i + 22) from (by rw [List.length_append, hi3, BE] <;> omega)); omega), (by have h := hc13; omega), by omega, by omega⟩ (by first | (simp; omega) | simp | (dsimp only; omega) | omega) (Sub.all rfl) (by first | rfl | rw [show (4*i + 22) = (4*(i + 1) + 18) by omega])))
 ·
  have hp1 : ¬ (((i:Int)) < ((niq:Int))) := of_decide_eq_false hb1
  refine EH (BX (BX (DH (BR (AE (AI (AC (AA _ (AM rfl) rfl ?_))))))))
  refine BG (BV 83 [Ptr nb2 0] _ (A5 _ Tryd.call83 rfl) (fun w1 hw1 => doneO_c nb2 0 gqi (4*i + 18) cpqi oqi w1 (RdA.of hw1 (AY 0 rfl (A1 _)) (by simp)) rfl hi3 (by omega) (RdB.of hw1 (AY 1 rfl (AH (A1 _))) (by simp)))) rfl ?_
  rintro v1 L1 ⟨_, ⟨nb8, sp6, cp6, rfl, rfl, hc16, hc17, hc18⟩, rfl⟩
  show JL _ _ _ _ ((79, .tuple #[Slc nb8 0 (4*i + 18) cp6, .nilIface]) :: _) [_, _, ⟨nb8, cu8 oqi ++ sp6, 5, (0, 0)⟩]
  refine AA _ (CC rfl rfl) rfl ?_
  refine AA _ (CC rfl rfl) rfl ?_
  refine AA _ (AF rfl) rfl ?_
  refine AA _ (AF rfl) rfl ?_
  refine AK (AE (BA (BF [false, false, true] ?_)))
  show JQ _ _ _ _ [_]
  refine A9 (.tuple #[Slc nb8 0 (4*i + 18) cp6, .nilIface]) (res2 Tryd.results21 (A7 rfl) (A7 rfl)) fun w1 hw1 => ?_
  have hi7 : niq = i := by omega
  subst hi7
  have hq : oqi = (((numK 8 sq 8 ++ numK 1 (1:UInt64) 1) ++ numK 8 eq 8) ++ numK 1 (UInt64.ofNat (niq - 1)) 1) ++ idxT lq niq := hi2
  rw [hq] at hw1
  exact ⟨_, _, rfl, ⟨nb8, sp6, cp6, rfl, rfl, hc16, hc17, hc18⟩, hw1.sub (by simp) (by simp)⟩
theorem putReq2_c (sq : UInt64) (aiq : Option Addr) (niq ciq : Nat) (lq : List UInt64) (fs : UInt64) (mn : Nat) (pv ep : UInt64) (kd : Int) (ai : Option Addr) (ni ci : Nat) (l : List UInt64) (sa : Option Addr) (ns sc : Nat) (ls : List SealR) (bl : UInt64) (tg : List UInt8) (eq : UInt64)  (w : World) (hlq : lq.length = niq) (hnmq : niq ≤ 2000000) (hncq : niq ≤ ciq) (hcmq : ciq ≤ maxLen) (hvq : RdV w aiq (cu64 lq)) (hl : l.length = ni) (hnm : ni ≤ 2000000) (hnc : ni ≤ ci) (hcm : ci ≤ maxLen) (hv : RdV w ai (cu64 l)) (hls : ls.length = ns) (hnn : ns ≤ 2000000) (hnd : ns ≤ sc) (hcn : sc ≤ maxLen) (hs : RdV w sa (ls.flatMap sealC)) (htg : tg.length = 16) (hbi : ni ≤ 300) (hbs : ns ≤ 300) (hR : reqR (2:Int) lq fs mn eq (blankB pv ep kd l ls bl tg) (decide (mayN pv ep kd l ls bl = 0)) = true)  : Calls Tryd.prog 21 #[.agg ([U64 sq, I64 2, .slice aiq niq ciq, U64 fs, I64 mn, U64 pv, U64 ep, I64 (kd), .slice ai ni ci, .slice sa ns sc, U64 bl] ++ cu8 tg ++ [U64 eq]).toArray] w (Post w [] (fun v L => ∃ g sp cap, v = .tuple #[Slc g 0 (22) cap, .nilIface] ∧ L = [⟨g, cu8 ((((numK 8 sq 8 ++ numK 1 (2:UInt64) 1) ++ numK 8 eq 8) ++ numK 4 fs 4) ++ numK 1 (UInt64.ofNat (mn - 1)) 1) ++ sp, 5, (0, 0)⟩] ∧ sp.length = cap - (22) ∧ 22 ≤ cap ∧ cap ≤ maxLen)) := by
 have hmx : maxLen = 9223372036854775807 := rfl
 have hSp := reqR_two hR
 have hSb := span_bd hSp
 refine enter (P := Tryd.prog) (f := 21) (fn := Tryd.f21) w [] 82 [] [.agg ([U64 sq, I64 2, .slice aiq niq ciq, U64 fs, I64 mn, U64 pv, U64 ep, I64 (kd), .slice ai ni ci, .slice sa ns sc, U64 bl] ++ cu8 tg ++ [U64 eq]).toArray] Tryd.func21 rfl rfl (by simp) (B2 (by simp) (by simp) (by simp)) ?_
 show JC _ _ _ [(0, .agg ([U64 sq, I64 2, .slice aiq niq ciq, U64 fs, I64 mn, U64 pv, U64 ep, I64 (kd), .slice ai ni ci, .slice sa ns sc, U64 bl] ++ cu8 tg ++ [U64 eq]).toArray)] _
 refine AI (AC (BG (CE (.agg ([U64 sq, I64 2, .slice aiq niq ciq, U64 fs, I64 mn, U64 pv, U64 ep, I64 (kd), .slice ai ni ci, .slice sa ns sc, U64 bl] ++ cu8 tg ++ [U64 eq]).toArray) ([U64 sq, I64 2, .slice aiq niq ciq, U64 fs, I64 mn, U64 pv, U64 ep, I64 (kd), .slice ai ni ci, .slice sa ns sc, U64 bl] ++ cu8 tg ++ [U64 eq]) rfl (by first | rfl | simp)) rfl ?_))
 rintro v1 L1 ⟨nb1, hnb1, rfl, rfl⟩
 show JL _ _ _ _ ((1, Ptr nb1 0) :: _) [⟨nb1, [U64 sq, I64 2, .slice aiq niq ciq, U64 fs, I64 mn, U64 pv, U64 ep, I64 (kd), .slice ai ni ci, .slice sa ns sc, U64 bl] ++ cu8 tg ++ [U64 eq], 31, (0, 0)⟩]
 refine AA _ (AF rfl) rfl ?_
 refine AA _ (AF rfl) rfl ?_
 refine AK (AE (AI (AI (AC (AA (.agg ([U64 sq, I64 2, .slice aiq niq ciq, U64 fs, I64 mn, U64 pv, U64 ep, I64 (kd), .slice ai ni ci, .slice sa ns sc, U64 bl] ++ cu8 tg ++ [U64 eq]).toArray) (AL rfl (B1 CS CJ (by simp [htg]) (AY 0 rfl (A1 _)))) rfl ?_)))))
 refine BS (A2 22 [.agg ([U64 sq, I64 2, .slice aiq niq ciq, U64 fs, I64 mn, U64 pv, U64 ep, I64 (kd), .slice ai ni ci, .slice sa ns sc, U64 bl] ++ cu8 tg ++ [U64 eq]).toArray] (.bool (reqR (2:Int) lq fs ((mn:Int)) eq (blankB pv ep (kd) l ls bl tg) (decide (mayN pv ep (kd) l ls bl = 0)))) (A5 _ Tryd.call22 rfl) (fun w1 hw1 => ED sq (2:Int) aiq niq ciq lq fs ((mn:Int)) pv ep (kd) ai ni ci l sa ns sc ls bl tg eq w1 hlq (by omega) (by omega) (by omega) (BP hw1 rfl hvq) hl (by omega) (by omega) (by omega) (BP hw1 rfl hv) hls (by omega) (by omega) (by omega) (BP hw1 rfl hs) htg (by omega) (by omega))) rfl ?_
 show JL _ _ _ _ ((10, .bool (reqR (2:Int) lq fs ((mn:Int)) eq (blankB pv ep (kd) l ls bl tg) (decide (mayN pv ep (kd) l ls bl = 0)))) :: _) [_]
 refine AA (.bool (!(reqR (2:Int) lq fs ((mn:Int)) eq (blankB pv ep (kd) l ls bl tg) (decide (mayN pv ep (kd) l ls bl = 0))))) (C8 rfl) rfl ?_
 refine AK (AE (BT _ rfl (bnotT hR) ?_))
 refine BM (AE (AI (AC (AA (.agg #[.nilIface, .slice none 0 0]) (EN [] _ rfl (fun _ => by kernel_rfl)) rfl ?_))))
 refine BG (CE (.agg #[.nilIface, .slice none 0 0]) ([.nilIface, .slice none 0 0]) rfl (by first | rfl | simp)) rfl ?_
 rintro v1 L1 ⟨nb2, hnb2, rfl, rfl⟩
 show JL _ _ _ _ ((14, Ptr nb2 0) :: _) [_, ⟨nb2, [.nilIface, .slice none 0 0], 149, (0, 0)⟩]
 refine AA _ (AF rfl) rfl ?_
 refine AK (AE (AI (DC 82 3 [(0, Ptr nb2 0), (1, Ptr nb1 0), (2, U64 sq), (4, Ptr nb1 1), (5, I64 2), (6, U64 2)] B9 rfl (by decide +kernel) ?_)))
 refine CP ⟨[], [0, 1, 2, 4, 5, 6], [], [0, 1, 2, 4, 5, 6], [3]⟩ 3 _ rfl rfl (by decide +kernel) rfl ⟨CK rfl rfl rfl, ⟨_, rfl, AO rfl (AB 0 22 1 AS rfl AP rfl rfl)⟩, ⟨_, rfl, AO rfl (AL rfl (AV AR (AY 0 rfl (AH (AH (Seg.head))))))⟩, ⟨_, rfl, AO rfl (AB 1 3 1 AS rfl AT rfl rfl)⟩, ⟨_, rfl, AO rfl (AL rfl (AV AX (AY 0 rfl (AH (AH (AG (Seg.head)))))))⟩, ⟨_, rfl, AO rfl (DA _ _ rfl fun _ => EE (by rw [BO]; rfl) BQ rfl)⟩, trivial⟩ rfl (BJ rfl (C6 81 _ [false, true] [nb2] _ (A5 [Ptr nb2 0, U64 sq, I64 8] C1 rfl) rfl (fun w1 hw1 => numN_c nb2 8 .nilIface sq 8 w1 (hw1.ent _ (List.mem_of_getElem? (i := 1) rfl)) (by unfold Szd; omega) (fun h => absurd h (by omega)) (by omega)))) ?_
 rintro v1 L1 ⟨_, ⟨rfl, nb3, sp1, cp1, rfl, hc1, hc2, hc3⟩, rfl⟩
 refine ⟨[], ?_⟩
 show DP _ _ _ _ _ _ _ _ [_, ⟨nb2, [.nilIface, Slc nb3 0 8 cp1], 149, (0, 0)⟩, ⟨nb3, cu8 (numK 8 sq 8) ++ sp1, 5, (0, 0)⟩]
 refine CP ⟨[3], [0, 1, 2, 4, 5, 6], [0, 1, 2], [4, 5, 6], [7]⟩ 7 _ rfl rfl (by decide +kernel) rfl ⟨⟨_, rfl, AO rfl (AB 1 3 1 AS rfl AT rfl rfl)⟩, ⟨_, rfl, AO rfl (AL rfl (AV AX (AY 0 rfl (AH (AH (AG (Seg.head)))))))⟩, ⟨_, rfl, AO rfl (DA _ _ rfl fun _ => EE (by rw [BO]; rfl) BQ rfl)⟩, trivial⟩ rfl (BJ rfl (C6 81 _ [false, true, true] [nb2, nb3] _ (A5 [Ptr nb2 0, U64 2, I64 1] C1 rfl) rfl (fun w1 hw1 => FA nb2 nb3 8 cp1 9 .nilIface (numK 8 sq 8) sp1 (2:UInt64) 1 w1 (hw1.ent _ (List.mem_of_getElem? (i := 1) rfl)) (hw1.ent _ (List.mem_of_getElem? (i := 2) rfl)) (hw1.ne (i := 1) (j := 2) rfl rfl (by decide)) (show (numK 8 sq 8).length = 8 from (BE _ _ _)) hc1 hc2 hc3 (by omega) (by unfold Szd; omega) (fun _ => by decide) (by omega)))) ?_
 rintro v1 L1 ⟨_, ⟨rfl, nb4, sp2, cp2, rfl, hc4, hc5, hc6⟩, rfl⟩
 refine ⟨[], ?_⟩
 show DP _ _ _ _ _ _ _ _ [_, ⟨nb2, [.nilIface, Slc nb4 0 9 cp2], 149, (0, 0)⟩, ⟨nb4, cu8 ((numK 8 sq 8) ++ numK 1 (2:UInt64) 1) ++ sp2, 5, (0, 0)⟩]
 refine DK ⟨[3, 7], [0, 1, 2, 4, 5, 6], [0, 1, 2, 4, 5, 6], [], []⟩ rfl rfl (by decide +kernel) rfl trivial ?_
 refine CY (F' := [(1, Ptr nb1 0), (2, .slice none 0 0), (3, .nilIface), (4, Ptr nb2 0)]) (by kernel_rfl) ?_
 refine AE (AI (AI (AC (AA (Ptr nb1 1) (AB 1 3 1 AS rfl AT rfl rfl) rfl ?_))))
 refine AA (I64 2) (AL rfl (AV AX (AY 0 rfl (AH (AH (AG (Seg.head))))))) rfl ?_
 refine AA (.bool (decide ((2:Int) = (3:Int)))) (AQ rfl rfl fun _ => A4 _ _) rfl ?_
 refine AK (AE (BT _ rfl (by decide) ?_))
 refine BM (AE (AI (AC (AA _ (AM rfl) rfl ?_))))
 refine AA (Ptr nb1 27) (AB 27 22 1 AS rfl AP rfl rfl) rfl ?_
 refine AA (U64 eq) (AL rfl (AV AR (AY 0 rfl (Seg.right 27 0 (by simp [htg]) rfl (Seg.head))))) rfl ?_
 refine BG (C6 81 _ [false, true, true] [nb2, nb4] _ (A5 [Ptr nb2 0, U64 eq, I64 8] C1 rfl) rfl (fun w1 hw1 => FA nb2 nb4 9 cp2 17 .nilIface ((numK 8 sq 8) ++ numK 1 (2:UInt64) 1) sp2 eq 8 w1 (hw1.ent _ (List.mem_of_getElem? (i := 1) rfl)) (hw1.ent _ (List.mem_of_getElem? (i := 2) rfl)) (hw1.ne (i := 1) (j := 2) rfl rfl (by decide)) (show ((numK 8 sq 8) ++ numK 1 (2:UInt64) 1).length = 9 from (by rw [List.length_append, (show (numK 8 sq 8).length = 8 from (BE _ _ _)), BE] <;> omega)) hc4 hc5 hc6 (by omega) (by unfold Szd; omega) (fun h => absurd h (by omega)) (by omega))) rfl ?_
 rintro v1 L1 ⟨_, ⟨rfl, nb5, sp3, cp3, rfl, hc7, hc8, hc9⟩, rfl⟩
 show JL _ _ _ _ ((44, Ptr nb2 0) :: _) [_, ⟨nb2, [.nilIface, Slc nb5 0 17 cp3], 149, (0, 0)⟩, ⟨nb5, cu8 (((numK 8 sq 8) ++ numK 1 (2:UInt64) 1) ++ numK 8 eq 8) ++ sp3, 5, (0, 0)⟩]
 refine AK (AE (AI (AI (AC (AA (Ptr nb1 1) (AB 1 3 1 AS rfl AT rfl rfl) rfl ?_)))))
 refine AA (I64 2) (AL rfl (AV AX (AY 0 rfl (AH (AH (AG (Seg.head))))))) rfl ?_
 refine AK (AE (BY (AI (AC (AA (.bool (decide ((2:Int) = (1:Int)))) (AQ rfl rfl fun _ => A4 _ _) rfl ?_)))))
 refine AA _ (AF rfl) rfl ?_
 refine AK (AE (BT _ rfl (by decide) ?_))
 refine AI (AC (AA (.bool (decide ((2:Int) = (2:Int)))) (AQ rfl rfl fun _ => A4 _ _) rfl ?_))
 refine AA _ (AF rfl) rfl ?_
 refine AK (AE (B5 _ rfl (by decide) ?_))
 refine DC 82 3 [(0, Ptr nb2 0), (1, Ptr nb1 3), (2, U64 fs), (4, Ptr nb1 4), (5, I64 mn), (6, I64 ((mn:Int) - 1)), (7, U64 (UInt64.ofNat (mn - 1)))] B9 rfl (by decide +kernel) ?_
 refine CP ⟨[], [0, 1, 2, 4, 5, 6, 7], [], [0, 1, 2, 4, 5, 6, 7], [3]⟩ 3 _ rfl rfl (by decide +kernel) rfl ⟨CK rfl rfl rfl, ⟨_, rfl, AO rfl (AB 3 22 1 AS rfl AP rfl rfl)⟩, ⟨_, rfl, AO rfl (AL rfl (AV AR (AY 0 rfl (AH (AH (AG (AG (AG (Seg.head)))))))))⟩, ⟨_, rfl, AO rfl (AB 4 3 1 AS rfl AT rfl rfl)⟩, ⟨_, rfl, AO rfl (AL rfl (AV AX (AY 0 rfl (AH (AH (AG (AG (AG (AG (Seg.head))))))))))⟩, ⟨_, rfl, AO rfl (AQ rfl rfl fun _ => DL _ _ ((mn:Int) - 1) (by omega) (by omega))⟩, ⟨_, rfl, AO rfl (DA _ _ rfl fun _ => D9 (by rw [BO]; rfl) BQ (mn - 1) _ (by omega))⟩, trivial⟩ rfl (BJ rfl (C6 81 _ [false, true, true] [nb2, nb5] _ (A5 [Ptr nb2 0, U64 fs, I64 4] C1 rfl) rfl (fun w1 hw1 => FA nb2 nb5 17 cp3 21 .nilIface (((numK 8 sq 8) ++ numK 1 (2:UInt64) 1) ++ numK 8 eq 8) sp3 fs 4 w1 (hw1.ent _ (List.mem_of_getElem? (i := 1) rfl)) (hw1.ent _ (List.mem_of_getElem? (i := 2) rfl)) (hw1.ne (i := 1) (j := 2) rfl rfl (by decide)) (show (((numK 8 sq 8) ++ numK 1 (2:UInt64) 1) ++ numK 8 eq 8).length = 17 from (by rw [List.length_append, (show ((numK 8 sq 8) ++ numK 1 (2:UInt64) 1).length = 9 from (by rw [List.length_append, (show (numK 8 sq 8).length = 8 from (BE _ _ _)), BE] <;> omega)), BE] <;> omega)) hc7 hc8 hc9 (by omega) (by unfold Szd; omega) (fun _ => span_fit hSp) (by omega)))) ?_
 rintro v1 L1 ⟨_, ⟨rfl, nb6, sp4, cp4, rfl, hc10, hc11, hc12⟩, rfl⟩
 refine ⟨[], ?_⟩
 show DP _ _ _ _ _ _ _ _ [_, ⟨nb2, [.nilIface, Slc nb6 0 21 cp4], 149, (0, 0)⟩, ⟨nb6, cu8 ((((numK 8 sq 8) ++ numK 1 (2:UInt64) 1) ++ numK 8 eq 8) ++ numK 4 fs 4) ++ sp4, 5, (0, 0)⟩]
 refine CP ⟨[3], [0, 1, 2, 4, 5, 6, 7], [0, 1, 2], [4, 5, 6, 7], [8]⟩ 8 _ rfl rfl (by decide +kernel) rfl ⟨⟨_, rfl, AO rfl (AB 4 3 1 AS rfl AT rfl rfl)⟩, ⟨_, rfl, AO rfl (AL rfl (AV AX (AY 0 rfl (AH (AH (AG (AG (AG (AG (Seg.head))))))))))⟩, ⟨_, rfl, AO rfl (AQ rfl rfl fun _ => DL _ _ ((mn:Int) - 1) (by omega) (by omega))⟩, ⟨_, rfl, AO rfl (DA _ _ rfl fun _ => D9 (by rw [BO]; rfl) BQ (mn - 1) _ (by omega))⟩, trivial⟩ rfl (BJ rfl (C6 81 _ [false, true, true] [nb2, nb6] _ (A5 [Ptr nb2 0, U64 (UInt64.ofNat (mn - 1)), I64 1] C1 rfl) rfl (fun w1 hw1 => FA nb2 nb6 21 cp4 22 .nilIface ((((numK 8 sq 8) ++ numK 1 (2:UInt64) 1) ++ numK 8 eq 8) ++ numK 4 fs 4) sp4 (UInt64.ofNat (mn - 1)) 1 w1 (hw1.ent _ (List.mem_of_getElem? (i := 1) rfl)) (hw1.ent _ (List.mem_of_getElem? (i := 2) rfl)) (hw1.ne (i := 1) (j := 2) rfl rfl (by decide)) (show ((((numK 8 sq 8) ++ numK 1 (2:UInt64) 1) ++ numK 8 eq 8) ++ numK 4 fs 4).length = 21 from (by rw [List.length_append, (show (((numK 8 sq 8) ++ numK 1 (2:UInt64) 1) ++ numK 8 eq 8).length = 17 from (by rw [List.length_append, (show ((numK 8 sq 8) ++ numK 1 (2:UInt64) 1).length = 9 from (by rw [List.length_append, (show (numK 8 sq 8).length = 8 from (BE _ _ _)), BE] <;> omega)), BE] <;> omega)), BE] <;> omega)) hc10 hc11 hc12 (by omega) (by unfold Szd; omega) (fun _ => shr8n (by omega)) (by omega)))) ?_
 rintro v1 L1 ⟨_, ⟨rfl, nb7, sp5, cp5, rfl, hc13, hc14, hc15⟩, rfl⟩
 refine ⟨[], ?_⟩
 show DP _ _ _ _ _ _ _ _ [_, ⟨nb2, [.nilIface, Slc nb7 0 22 cp5], 149, (0, 0)⟩, ⟨nb7, cu8 (((((numK 8 sq 8) ++ numK 1 (2:UInt64) 1) ++ numK 8 eq 8) ++ numK 4 fs 4) ++ numK 1 (UInt64.ofNat (mn - 1)) 1) ++ sp5, 5, (0, 0)⟩]
 refine DK ⟨[3, 8], [0, 1, 2, 4, 5, 6, 7], [0, 1, 2, 4, 5, 6, 7], [], []⟩ rfl rfl (by decide +kernel) rfl trivial ?_
 refine CY (F' := [(2, .slice none 0 0), (3, .nilIface), (4, Ptr nb2 0)]) (by kernel_rfl) ?_
 refine BR (AE (AI (AC (AA _ (AM rfl) rfl ?_))))
 refine BG (BV 83 [Ptr nb2 0] _ (A5 _ Tryd.call83 rfl) (fun w1 hw1 => doneO_c nb2 0 nb7 22 cp5 (((((numK 8 sq 8) ++ numK 1 (2:UInt64) 1) ++ numK 8 eq 8) ++ numK 4 fs 4) ++ numK 1 (UInt64.ofNat (mn - 1)) 1) w1 (RdA.of hw1 (AY 1 rfl (A1 _)) (by simp)) rfl (show (((((numK 8 sq 8) ++ numK 1 (2:UInt64) 1) ++ numK 8 eq 8) ++ numK 4 fs 4) ++ numK 1 (UInt64.ofNat (mn - 1)) 1).length = 22 from (by rw [List.length_append, (show ((((numK 8 sq 8) ++ numK 1 (2:UInt64) 1) ++ numK 8 eq 8) ++ numK 4 fs 4).length = 21 from (by rw [List.length_append, (show (((numK 8 sq 8) ++ numK 1 (2:UInt64) 1) ++ numK 8 eq 8).length = 17 from (by rw [List.length_append, (show ((numK 8 sq 8) ++ numK 1 (2:UInt64) 1).length = 9 from (by rw [List.length_append, (show (numK 8 sq 8).length = 8 from (BE _ _ _)), BE] <;> omega)), BE] <;> omega)), BE] <;> omega)), BE] <;> omega)) (by omega) (RdB.of hw1 (AY 2 rfl (AH (A1 _))) (by simp)))) rfl ?_
 rintro v1 L1 ⟨_, ⟨nb8, sp6, cp6, rfl, rfl, hc16, hc17, hc18⟩, rfl⟩
 show JL _ _ _ _ ((79, .tuple #[Slc nb8 0 22 cp6, .nilIface]) :: _) [_, _, _, ⟨nb8, cu8 (((((numK 8 sq 8) ++ numK 1 (2:UInt64) 1) ++ numK 8 eq 8) ++ numK 4 fs 4) ++ numK 1 (UInt64.ofNat (mn - 1)) 1) ++ sp6, 5, (0, 0)⟩]
 refine AA _ (CC rfl rfl) rfl ?_
 refine AA _ (CC rfl rfl) rfl ?_
 refine AA _ (AF rfl) rfl ?_
 refine AA _ (AF rfl) rfl ?_
 refine AK (AE (BA (BF [false, false, false, true] ?_)))
 show JQ _ _ _ _ [_]
 refine A9 (.tuple #[Slc nb8 0 22 cp6, .nilIface]) (res2 Tryd.results21 (A7 rfl) (A7 rfl)) fun w1 hw1 => ?_
 skip
 exact ⟨_, _, rfl, ⟨nb8, sp6, cp6, rfl, rfl, hc16, hc17, hc18⟩, hw1.sub (by simp) (by simp)⟩
theorem putReq3_c (sq : UInt64) (aiq : Option Addr) (niq ciq : Nat) (lq : List UInt64) (fs : UInt64) (mn : Int) (pv ep : UInt64) (k : Nat) (ai : Option Addr) (ni ci : Nat) (l : List UInt64) (sa : Option Addr) (ns sc : Nat) (ls : List SealR) (bl : UInt64) (tg : List UInt8) (eq : UInt64) (tot : Nat)  (w : World) (hlq : lq.length = niq) (hnmq : niq ≤ 2000000) (hncq : niq ≤ ciq) (hcmq : ciq ≤ maxLen) (hvq : RdV w aiq (cu64 lq)) (hl : l.length = ni) (hnm : ni ≤ 2000000) (hnc : ni ≤ ci) (hcm : ci ≤ maxLen) (hv : RdV w ai (cu64 l)) (hls : ls.length = ns) (hnn : ns ≤ 2000000) (hnd : ns ≤ sc) (hcn : sc ≤ maxLen) (hs : RdV w sa (ls.flatMap sealC)) (htg : tg.length = 16) (hbi : ni ≤ 300) (hbs : ns ≤ 300) (hR : reqR (3:Int) lq fs mn eq (blankB pv ep (k:Int) l ls bl tg) (decide (mayN pv ep (k:Int) l ls bl = 0)) = true) (hmay : mayN pv ep (k:Int) l ls bl = 0) (hk : k = 1 ∨ k = 2 ∨ k = 3) (hsm : ns ≤ 300) (htot : tktN k ni ns = tot) (htb : tot ≤ 30000)  : Calls Tryd.prog 21 #[.agg ([U64 sq, I64 3, .slice aiq niq ciq, U64 fs, I64 (mn), U64 pv, U64 ep, I64 k, .slice ai ni ci, .slice sa ns sc, U64 bl] ++ cu8 tg ++ [U64 eq]).toArray] w (Post w [] (fun v L => ∃ g sp cap, v = .tuple #[Slc g 0 (tot + 25) cap, .nilIface] ∧ L = [⟨g, cu8 ((numK 8 sq 8 ++ numK 1 (3:UInt64) 1) ++ ((tktT pv ep k l ls bl) ++ tg)) ++ sp, 5, (0, 0)⟩] ∧ sp.length = cap - (tot + 25) ∧ tot + 25 ≤ cap ∧ cap ≤ maxLen)) := by
 have hmx : maxLen = 9223372036854775807 := rfl
 refine enter (P := Tryd.prog) (f := 21) (fn := Tryd.f21) w [] 82 [] [.agg ([U64 sq, I64 3, .slice aiq niq ciq, U64 fs, I64 (mn), U64 pv, U64 ep, I64 k, .slice ai ni ci, .slice sa ns sc, U64 bl] ++ cu8 tg ++ [U64 eq]).toArray] Tryd.func21 rfl rfl (by simp) (B2 (by simp) (by simp) (by simp)) ?_
 show JC _ _ _ [(0, .agg ([U64 sq, I64 3, .slice aiq niq ciq, U64 fs, I64 (mn), U64 pv, U64 ep, I64 k, .slice ai ni ci, .slice sa ns sc, U64 bl] ++ cu8 tg ++ [U64 eq]).toArray)] _
 refine AI (AC (BG (CE (.agg ([U64 sq, I64 3, .slice aiq niq ciq, U64 fs, I64 (mn), U64 pv, U64 ep, I64 k, .slice ai ni ci, .slice sa ns sc, U64 bl] ++ cu8 tg ++ [U64 eq]).toArray) ([U64 sq, I64 3, .slice aiq niq ciq, U64 fs, I64 (mn), U64 pv, U64 ep, I64 k, .slice ai ni ci, .slice sa ns sc, U64 bl] ++ cu8 tg ++ [U64 eq]) rfl (by first | rfl | simp)) rfl ?_))
 rintro v1 L1 ⟨nb1, hnb1, rfl, rfl⟩
 show JL _ _ _ _ ((1, Ptr nb1 0) :: _) [⟨nb1, [U64 sq, I64 3, .slice aiq niq ciq, U64 fs, I64 (mn), U64 pv, U64 ep, I64 k, .slice ai ni ci, .slice sa ns sc, U64 bl] ++ cu8 tg ++ [U64 eq], 31, (0, 0)⟩]
 refine AA _ (AF rfl) rfl ?_
 refine AA _ (AF rfl) rfl ?_
 refine AK (AE (AI (AI (AC (AA (.agg ([U64 sq, I64 3, .slice aiq niq ciq, U64 fs, I64 (mn), U64 pv, U64 ep, I64 k, .slice ai ni ci, .slice sa ns sc, U64 bl] ++ cu8 tg ++ [U64 eq]).toArray) (AL rfl (B1 CS CJ (by simp [htg]) (AY 0 rfl (A1 _)))) rfl ?_)))))
 refine BS (A2 22 [.agg ([U64 sq, I64 3, .slice aiq niq ciq, U64 fs, I64 (mn), U64 pv, U64 ep, I64 k, .slice ai ni ci, .slice sa ns sc, U64 bl] ++ cu8 tg ++ [U64 eq]).toArray] (.bool (reqR (3:Int) lq fs (mn) eq (blankB pv ep ((k:Int)) l ls bl tg) (decide (mayN pv ep ((k:Int)) l ls bl = 0)))) (A5 _ Tryd.call22 rfl) (fun w1 hw1 => ED sq (3:Int) aiq niq ciq lq fs (mn) pv ep ((k:Int)) ai ni ci l sa ns sc ls bl tg eq w1 hlq (by omega) (by omega) (by omega) (BP hw1 rfl hvq) hl (by omega) (by omega) (by omega) (BP hw1 rfl hv) hls (by omega) (by omega) (by omega) (BP hw1 rfl hs) htg (by omega) (by omega))) rfl ?_
 show JL _ _ _ _ ((10, .bool (reqR (3:Int) lq fs (mn) eq (blankB pv ep ((k:Int)) l ls bl tg) (decide (mayN pv ep ((k:Int)) l ls bl = 0)))) :: _) [_]
 refine AA (.bool (!(reqR (3:Int) lq fs (mn) eq (blankB pv ep ((k:Int)) l ls bl tg) (decide (mayN pv ep ((k:Int)) l ls bl = 0))))) (C8 rfl) rfl ?_
 refine AK (AE (BT _ rfl (bnotT hR) ?_))
 refine BM (AE (AI (AC (AA (.agg #[.nilIface, .slice none 0 0]) (EN [] _ rfl (fun _ => by kernel_rfl)) rfl ?_))))
 refine BG (CE (.agg #[.nilIface, .slice none 0 0]) ([.nilIface, .slice none 0 0]) rfl (by first | rfl | simp)) rfl ?_
 rintro v1 L1 ⟨nb2, hnb2, rfl, rfl⟩
 show JL _ _ _ _ ((14, Ptr nb2 0) :: _) [_, ⟨nb2, [.nilIface, .slice none 0 0], 149, (0, 0)⟩]
 refine AA _ (AF rfl) rfl ?_
 refine AK (AE (AI (DC 82 3 [(0, Ptr nb2 0), (1, Ptr nb1 0), (2, U64 sq), (4, Ptr nb1 1), (5, I64 3), (6, U64 3)] B9 rfl (by decide +kernel) ?_)))
 refine CP ⟨[], [0, 1, 2, 4, 5, 6], [], [0, 1, 2, 4, 5, 6], [3]⟩ 3 _ rfl rfl (by decide +kernel) rfl ⟨CK rfl rfl rfl, ⟨_, rfl, AO rfl (AB 0 22 1 AS rfl AP rfl rfl)⟩, ⟨_, rfl, AO rfl (AL rfl (AV AR (AY 0 rfl (AH (AH (Seg.head))))))⟩, ⟨_, rfl, AO rfl (AB 1 3 1 AS rfl AT rfl rfl)⟩, ⟨_, rfl, AO rfl (AL rfl (AV AX (AY 0 rfl (AH (AH (AG (Seg.head)))))))⟩, ⟨_, rfl, AO rfl (DA _ _ rfl fun _ => EE (by rw [BO]; rfl) BQ rfl)⟩, trivial⟩ rfl (BJ rfl (C6 81 _ [false, true] [nb2] _ (A5 [Ptr nb2 0, U64 sq, I64 8] C1 rfl) rfl (fun w1 hw1 => numN_c nb2 8 .nilIface sq 8 w1 (hw1.ent _ (List.mem_of_getElem? (i := 1) rfl)) (by unfold Szd; omega) (fun h => absurd h (by omega)) (by omega)))) ?_
 rintro v1 L1 ⟨_, ⟨rfl, nb3, sp1, cp1, rfl, hc1, hc2, hc3⟩, rfl⟩
 refine ⟨[], ?_⟩
 show DP _ _ _ _ _ _ _ _ [_, ⟨nb2, [.nilIface, Slc nb3 0 8 cp1], 149, (0, 0)⟩, ⟨nb3, cu8 (numK 8 sq 8) ++ sp1, 5, (0, 0)⟩]
 refine CP ⟨[3], [0, 1, 2, 4, 5, 6], [0, 1, 2], [4, 5, 6], [7]⟩ 7 _ rfl rfl (by decide +kernel) rfl ⟨⟨_, rfl, AO rfl (AB 1 3 1 AS rfl AT rfl rfl)⟩, ⟨_, rfl, AO rfl (AL rfl (AV AX (AY 0 rfl (AH (AH (AG (Seg.head)))))))⟩, ⟨_, rfl, AO rfl (DA _ _ rfl fun _ => EE (by rw [BO]; rfl) BQ rfl)⟩, trivial⟩ rfl (BJ rfl (C6 81 _ [false, true, true] [nb2, nb3] _ (A5 [Ptr nb2 0, U64 3, I64 1] C1 rfl) rfl (fun w1 hw1 => FA nb2 nb3 8 cp1 9 .nilIface (numK 8 sq 8) sp1 (3:UInt64) 1 w1 (hw1.ent _ (List.mem_of_getElem? (i := 1) rfl)) (hw1.ent _ (List.mem_of_getElem? (i := 2) rfl)) (hw1.ne (i := 1) (j := 2) rfl rfl (by decide)) (show (numK 8 sq 8).length = 8 from (BE _ _ _)) hc1 hc2 hc3 (by omega) (by unfold Szd; omega) (fun _ => by decide) (by omega)))) ?_
 rintro v1 L1 ⟨_, ⟨rfl, nb4, sp2, cp2, rfl, hc4, hc5, hc6⟩, rfl⟩
 refine ⟨[], ?_⟩
 show DP _ _ _ _ _ _ _ _ [_, ⟨nb2, [.nilIface, Slc nb4 0 9 cp2], 149, (0, 0)⟩, ⟨nb4, cu8 ((numK 8 sq 8) ++ numK 1 (3:UInt64) 1) ++ sp2, 5, (0, 0)⟩]
 refine DK ⟨[3, 7], [0, 1, 2, 4, 5, 6], [0, 1, 2, 4, 5, 6], [], []⟩ rfl rfl (by decide +kernel) rfl trivial ?_
 refine CY (F' := [(1, Ptr nb1 0), (2, .slice none 0 0), (3, .nilIface), (4, Ptr nb2 0)]) (by kernel_rfl) ?_
 refine AE (AI (AI (AC (AA (Ptr nb1 1) (AB 1 3 1 AS rfl AT rfl rfl) rfl ?_))))
 refine AA (I64 3) (AL rfl (AV AX (AY 0 rfl (AH (AH (AG (Seg.head))))))) rfl ?_
 refine AA (.bool (decide ((3:Int) = (3:Int)))) (AQ rfl rfl fun _ => A4 _ _) rfl ?_
 refine AK (AE (B5 _ rfl (by decide) ?_))
 refine AI (AC (AA (Ptr nb1 5) (AB 5 29 22 AS rfl CN rfl rfl) rfl ?_))
 refine AA (.agg ([U64 pv, U64 ep, I64 k, .slice ai ni ci, .slice sa ns sc, U64 bl] ++ cu8 tg).toArray) (AL rfl (B1 D2 CN (by simp [htg]) (AY 0 rfl (CO (p := [U64 sq, I64 3, .slice aiq niq ciq, U64 fs, I64 (mn)]) (q := [U64 eq]) (vs := [U64 pv, U64 ep, I64 k, .slice ai ni ci, .slice sa ns sc, U64 bl] ++ cu8 tg) (by first | rfl | (simp only [List.append_assoc, List.nil_append, List.append_nil, List.cons_append]; done)) rfl)))) rfl ?_
 refine BG (BV 47 [.agg ([U64 pv, U64 ep, I64 k, .slice ai ni ci, .slice sa ns sc, U64 bl] ++ cu8 tg).toArray] _ (A5 _ Tryd.call47 rfl) (fun w1 hw1 => put13_c pv ep k ai ni ci l sa ns sc ls bl tg tot w1 hl (by omega) (by omega) (by omega) (BP hw1 rfl hv) hls (by omega) (by omega) (by omega) (BP hw1 rfl hs) htg hmay hk hsm htot (by omega))) rfl ?_
 rintro v1 L1 ⟨_, ⟨nb5, sp3, cp3, rfl, rfl, hc7, hc8, hc9⟩, rfl⟩
 show JL _ _ _ _ ((29, .tuple #[Slc nb5 0 (tot + 16) cp3, .nilIface]) :: _) [_, _, _, ⟨nb5, cu8 ((tktT pv ep k l ls bl) ++ tg) ++ sp3, 5, (0, 0)⟩]
 refine AA _ (AM rfl) rfl ?_
 refine AA _ (CC rfl rfl) rfl ?_
 refine AA _ (CC rfl rfl) rfl ?_
 refine AA _ (AF rfl) rfl ?_
 refine AA _ (AF rfl) rfl ?_
 refine AK (AE (AI (AI (AC (AA _ (AM rfl) rfl ?_)))))
 refine AA (.bool false) (D5 _ _ _ rfl rfl (fun _ => EK ..) fun _ => neq_if_nil_nil CT) rfl ?_
 refine AK (AE (BT _ rfl rfl ?_))
 refine BM (AE (AI (AC (AA _ (AM rfl) rfl ?_))))
 refine AA _ (AM rfl) rfl ?_
 refine BG (C6 82 _ [false, true, true, false] [nb2, nb4] _ (A5 [Ptr nb2 0, Slc nb5 0 (tot + 16) cp3] Tryd.call82 rfl) rfl (fun w1 hw1 => rawO_c nb2 nb4 9 cp2 (tot + 25) .nilIface ((numK 8 sq 8) ++ numK 1 (3:UInt64) 1) sp2 (some ⟨nb5, 0, none⟩) (tot + 16) cp3 ((tktT pv ep k l ls bl) ++ tg) w1 (hw1.ent _ (List.mem_of_getElem? (i := 1) rfl)) (hw1.ent _ (List.mem_of_getElem? (i := 2) rfl)) (hw1.ne (i := 1) (j := 2) rfl rfl (by decide)) (show ((numK 8 sq 8) ++ numK 1 (3:UInt64) 1).length = 9 from (by rw [List.length_append, (show (numK 8 sq 8).length = 8 from (BE _ _ _)), BE] <;> omega)) hc4 hc5 hc6 (by omega) (show ((tktT pv ep k l ls bl) ++ tg).length = (tot + 16) from (by rw [List.length_append, ((EV hl hls).trans htot), htg])) (by omega) (RdB.of hw1 (AY 3 rfl (AH (A1 _))) (by intro _; simp only [List.mem_cons, List.not_mem_nil, or_false, not_or]; exact ⟨hw1.ne (i := 3) (j := 1) rfl rfl (by decide), hw1.ne (i := 3) (j := 2) rfl rfl (by decide)⟩)) (by omega))) rfl ?_
 rintro v1 L1 ⟨_, ⟨rfl, nb6, sp4, cp4, rfl, hc10, hc11, hc12⟩, rfl⟩
 show JL _ _ _ _ ((37, Ptr nb2 0) :: _) [_, _, ⟨nb2, [.nilIface, Slc nb6 0 (tot + 25) cp4], 149, (0, 0)⟩, ⟨nb6, cu8 (((numK 8 sq 8) ++ numK 1 (3:UInt64) 1) ++ ((tktT pv ep k l ls bl) ++ tg)) ++ sp4, 5, (0, 0)⟩]
 refine BG (BV 83 [Ptr nb2 0] _ (A5 _ Tryd.call83 rfl) (fun w1 hw1 => doneO_c nb2 0 nb6 (tot + 25) cp4 (((numK 8 sq 8) ++ numK 1 (3:UInt64) 1) ++ ((tktT pv ep k l ls bl) ++ tg)) w1 (RdA.of hw1 (AY 2 rfl (A1 _)) (by simp)) rfl (show (((numK 8 sq 8) ++ numK 1 (3:UInt64) 1) ++ ((tktT pv ep k l ls bl) ++ tg)).length = (tot + 25) from (by rw [List.length_append, (show ((numK 8 sq 8) ++ numK 1 (3:UInt64) 1).length = 9 from (by rw [List.length_append, (show (numK 8 sq 8).length = 8 from (BE _ _ _)), BE] <;> omega)), (show ((tktT pv ep k l ls bl) ++ tg).length = (tot + 16) from (by rw [List.length_append, ((EV hl hls).trans htot), htg]))] <;> omega)) (by omega) (RdB.of hw1 (AY 3 rfl (AH (A1 _))) (by simp)))) rfl ?_
 rintro v1 L1 ⟨_, ⟨nb7, sp5, cp5, rfl, rfl, hc13, hc14, hc15⟩, rfl⟩
 show JL _ _ _ _ ((38, .tuple #[Slc nb7 0 (tot + 25) cp5, .nilIface]) :: _) [_, _, _, _, ⟨nb7, cu8 (((numK 8 sq 8) ++ numK 1 (3:UInt64) 1) ++ ((tktT pv ep k l ls bl) ++ tg)) ++ sp5, 5, (0, 0)⟩]
 refine AA _ (CC rfl rfl) rfl ?_
 refine AA _ (CC rfl rfl) rfl ?_
 refine AA _ (AF rfl) rfl ?_
 refine AA _ (AF rfl) rfl ?_
 refine AK (AE (BA (AU (BF [false, false, false, false, true] ?_))))
 show JQ _ _ _ _ [_]
 refine A9 (.tuple #[Slc nb7 0 (tot + 25) cp5, .nilIface]) (res2 Tryd.results21 (A7 rfl) (A7 rfl)) fun w1 hw1 => ?_
 skip
 exact ⟨_, _, rfl, ⟨nb7, sp5, cp5, rfl, rfl, hc13, hc14, hc15⟩, hw1.sub (by simp) (by simp)⟩
theorem putReq4_c (sq : UInt64) (aiq : Option Addr) (niq ciq : Nat) (lq : List UInt64) (fs : UInt64) (mn : Int) (pv ep : UInt64) (kd : Int) (ai : Option Addr) (ni ci : Nat) (l : List UInt64) (sa : Option Addr) (ns sc : Nat) (ls : List SealR) (bl : UInt64) (tg : List UInt8) (eq : UInt64)  (w : World) (hlq : lq.length = niq) (hnmq : niq ≤ 2000000) (hncq : niq ≤ ciq) (hcmq : ciq ≤ maxLen) (hvq : RdV w aiq (cu64 lq)) (hl : l.length = ni) (hnm : ni ≤ 2000000) (hnc : ni ≤ ci) (hcm : ci ≤ maxLen) (hv : RdV w ai (cu64 l)) (hls : ls.length = ns) (hnn : ns ≤ 2000000) (hnd : ns ≤ sc) (hcn : sc ≤ maxLen) (hs : RdV w sa (ls.flatMap sealC)) (htg : tg.length = 16) (hbi : ni ≤ 300) (hbs : ns ≤ 300) (hR : reqR (4:Int) lq fs mn eq (blankB pv ep kd l ls bl tg) (decide (mayN pv ep kd l ls bl = 0)) = true)  : Calls Tryd.prog 21 #[.agg ([U64 sq, I64 4, .slice aiq niq ciq, U64 fs, I64 (mn), U64 pv, U64 ep, I64 (kd), .slice ai ni ci, .slice sa ns sc, U64 bl] ++ cu8 tg ++ [U64 eq]).toArray] w (Post w [] (fun v L => ∃ g sp cap, v = .tuple #[Slc g 0 (17) cap, .nilIface] ∧ L = [⟨g, cu8 ((numK 8 sq 8 ++ numK 1 (4:UInt64) 1) ++ numK 8 eq 8) ++ sp, 5, (0, 0)⟩] ∧ sp.length = cap - (17) ∧ 17 ≤ cap ∧ cap ≤ maxLen)) := by
 have hmx : maxLen = 9223372036854775807 := rfl
 refine enter (P := Tryd.prog) (f := 21) (fn := Tryd.f21) w [] 82 [] [.agg ([U64 sq, I64 4, .slice aiq niq ciq, U64 fs, I64 (mn), U64 pv, U64 ep, I64 (kd), .slice ai ni ci, .slice sa ns sc, U64 bl] ++ cu8 tg ++ [U64 eq]).toArray] Tryd.func21 rfl rfl (by simp) (B2 (by simp) (by simp) (by simp)) ?_
 show JC _ _ _ [(0, .agg ([U64 sq, I64 4, .slice aiq niq ciq, U64 fs, I64 (mn), U64 pv, U64 ep, I64 (kd), .slice ai ni ci, .slice sa ns sc, U64 bl] ++ cu8 tg ++ [U64 eq]).toArray)] _
 refine AI (AC (BG (CE (.agg ([U64 sq, I64 4, .slice aiq niq ciq, U64 fs, I64 (mn), U64 pv, U64 ep, I64 (kd), .slice ai ni ci, .slice sa ns sc, U64 bl] ++ cu8 tg ++ [U64 eq]).toArray) ([U64 sq, I64 4, .slice aiq niq ciq, U64 fs, I64 (mn), U64 pv, U64 ep, I64 (kd), .slice ai ni ci, .slice sa ns sc, U64 bl] ++ cu8 tg ++ [U64 eq]) rfl (by first | rfl | simp)) rfl ?_))
 rintro v1 L1 ⟨nb1, hnb1, rfl, rfl⟩
 show JL _ _ _ _ ((1, Ptr nb1 0) :: _) [⟨nb1, [U64 sq, I64 4, .slice aiq niq ciq, U64 fs, I64 (mn), U64 pv, U64 ep, I64 (kd), .slice ai ni ci, .slice sa ns sc, U64 bl] ++ cu8 tg ++ [U64 eq], 31, (0, 0)⟩]
 refine AA _ (AF rfl) rfl ?_
 refine AA _ (AF rfl) rfl ?_
 refine AK (AE (AI (AI (AC (AA (.agg ([U64 sq, I64 4, .slice aiq niq ciq, U64 fs, I64 (mn), U64 pv, U64 ep, I64 (kd), .slice ai ni ci, .slice sa ns sc, U64 bl] ++ cu8 tg ++ [U64 eq]).toArray) (AL rfl (B1 CS CJ (by simp [htg]) (AY 0 rfl (A1 _)))) rfl ?_)))))
 refine BS (A2 22 [.agg ([U64 sq, I64 4, .slice aiq niq ciq, U64 fs, I64 (mn), U64 pv, U64 ep, I64 (kd), .slice ai ni ci, .slice sa ns sc, U64 bl] ++ cu8 tg ++ [U64 eq]).toArray] (.bool (reqR (4:Int) lq fs (mn) eq (blankB pv ep (kd) l ls bl tg) (decide (mayN pv ep (kd) l ls bl = 0)))) (A5 _ Tryd.call22 rfl) (fun w1 hw1 => ED sq (4:Int) aiq niq ciq lq fs (mn) pv ep (kd) ai ni ci l sa ns sc ls bl tg eq w1 hlq (by omega) (by omega) (by omega) (BP hw1 rfl hvq) hl (by omega) (by omega) (by omega) (BP hw1 rfl hv) hls (by omega) (by omega) (by omega) (BP hw1 rfl hs) htg (by omega) (by omega))) rfl ?_
 show JL _ _ _ _ ((10, .bool (reqR (4:Int) lq fs (mn) eq (blankB pv ep (kd) l ls bl tg) (decide (mayN pv ep (kd) l ls bl = 0)))) :: _) [_]
 refine AA (.bool (!(reqR (4:Int) lq fs (mn) eq (blankB pv ep (kd) l ls bl tg) (decide (mayN pv ep (kd) l ls bl = 0))))) (C8 rfl) rfl ?_
 refine AK (AE (BT _ rfl (bnotT hR) ?_))
 refine BM (AE (AI (AC (AA (.agg #[.nilIface, .slice none 0 0]) (EN [] _ rfl (fun _ => by kernel_rfl)) rfl ?_))))
 refine BG (CE (.agg #[.nilIface, .slice none 0 0]) ([.nilIface, .slice none 0 0]) rfl (by first | rfl | simp)) rfl ?_
 rintro v1 L1 ⟨nb2, hnb2, rfl, rfl⟩
 show JL _ _ _ _ ((14, Ptr nb2 0) :: _) [_, ⟨nb2, [.nilIface, .slice none 0 0], 149, (0, 0)⟩]
 refine AA _ (AF rfl) rfl ?_
 refine AK (AE (AI (DC 82 3 [(0, Ptr nb2 0), (1, Ptr nb1 0), (2, U64 sq), (4, Ptr nb1 1), (5, I64 4), (6, U64 4)] B9 rfl (by decide +kernel) ?_)))
 refine CP ⟨[], [0, 1, 2, 4, 5, 6], [], [0, 1, 2, 4, 5, 6], [3]⟩ 3 _ rfl rfl (by decide +kernel) rfl ⟨CK rfl rfl rfl, ⟨_, rfl, AO rfl (AB 0 22 1 AS rfl AP rfl rfl)⟩, ⟨_, rfl, AO rfl (AL rfl (AV AR (AY 0 rfl (AH (AH (Seg.head))))))⟩, ⟨_, rfl, AO rfl (AB 1 3 1 AS rfl AT rfl rfl)⟩, ⟨_, rfl, AO rfl (AL rfl (AV AX (AY 0 rfl (AH (AH (AG (Seg.head)))))))⟩, ⟨_, rfl, AO rfl (DA _ _ rfl fun _ => EE (by rw [BO]; rfl) BQ rfl)⟩, trivial⟩ rfl (BJ rfl (C6 81 _ [false, true] [nb2] _ (A5 [Ptr nb2 0, U64 sq, I64 8] C1 rfl) rfl (fun w1 hw1 => numN_c nb2 8 .nilIface sq 8 w1 (hw1.ent _ (List.mem_of_getElem? (i := 1) rfl)) (by unfold Szd; omega) (fun h => absurd h (by omega)) (by omega)))) ?_
 rintro v1 L1 ⟨_, ⟨rfl, nb3, sp1, cp1, rfl, hc1, hc2, hc3⟩, rfl⟩
 refine ⟨[], ?_⟩
 show DP _ _ _ _ _ _ _ _ [_, ⟨nb2, [.nilIface, Slc nb3 0 8 cp1], 149, (0, 0)⟩, ⟨nb3, cu8 (numK 8 sq 8) ++ sp1, 5, (0, 0)⟩]
 refine CP ⟨[3], [0, 1, 2, 4, 5, 6], [0, 1, 2], [4, 5, 6], [7]⟩ 7 _ rfl rfl (by decide +kernel) rfl ⟨⟨_, rfl, AO rfl (AB 1 3 1 AS rfl AT rfl rfl)⟩, ⟨_, rfl, AO rfl (AL rfl (AV AX (AY 0 rfl (AH (AH (AG (Seg.head)))))))⟩, ⟨_, rfl, AO rfl (DA _ _ rfl fun _ => EE (by rw [BO]; rfl) BQ rfl)⟩, trivial⟩ rfl (BJ rfl (C6 81 _ [false, true, true] [nb2, nb3] _ (A5 [Ptr nb2 0, U64 4, I64 1] C1 rfl) rfl (fun w1 hw1 => FA nb2 nb3 8 cp1 9 .nilIface (numK 8 sq 8) sp1 (4:UInt64) 1 w1 (hw1.ent _ (List.mem_of_getElem? (i := 1) rfl)) (hw1.ent _ (List.mem_of_getElem? (i := 2) rfl)) (hw1.ne (i := 1) (j := 2) rfl rfl (by decide)) (show (numK 8 sq 8).length = 8 from (BE _ _ _)) hc1 hc2 hc3 (by omega) (by unfold Szd; omega) (fun _ => by decide) (by omega)))) ?_
 rintro v1 L1 ⟨_, ⟨rfl, nb4, sp2, cp2, rfl, hc4, hc5, hc6⟩, rfl⟩
 refine ⟨[], ?_⟩
 show DP _ _ _ _ _ _ _ _ [_, ⟨nb2, [.nilIface, Slc nb4 0 9 cp2], 149, (0, 0)⟩, ⟨nb4, cu8 ((numK 8 sq 8) ++ numK 1 (4:UInt64) 1) ++ sp2, 5, (0, 0)⟩]
 refine DK ⟨[3, 7], [0, 1, 2, 4, 5, 6], [0, 1, 2, 4, 5, 6], [], []⟩ rfl rfl (by decide +kernel) rfl trivial ?_
 refine CY (F' := [(1, Ptr nb1 0), (2, .slice none 0 0), (3, .nilIface), (4, Ptr nb2 0)]) (by kernel_rfl) ?_
 refine AE (AI (AI (AC (AA (Ptr nb1 1) (AB 1 3 1 AS rfl AT rfl rfl) rfl ?_))))
 refine AA (I64 4) (AL rfl (AV AX (AY 0 rfl (AH (AH (AG (Seg.head))))))) rfl ?_
 refine AA (.bool (decide ((4:Int) = (3:Int)))) (AQ rfl rfl fun _ => A4 _ _) rfl ?_
 refine AK (AE (BT _ rfl (by decide) ?_))
 refine BM (AE (AI (AC (AA _ (AM rfl) rfl ?_))))
 refine AA (Ptr nb1 27) (AB 27 22 1 AS rfl AP rfl rfl) rfl ?_
 refine AA (U64 eq) (AL rfl (AV AR (AY 0 rfl (Seg.right 27 0 (by simp [htg]) rfl (Seg.head))))) rfl ?_
 refine BG (C6 81 _ [false, true, true] [nb2, nb4] _ (A5 [Ptr nb2 0, U64 eq, I64 8] C1 rfl) rfl (fun w1 hw1 => FA nb2 nb4 9 cp2 17 .nilIface ((numK 8 sq 8) ++ numK 1 (4:UInt64) 1) sp2 eq 8 w1 (hw1.ent _ (List.mem_of_getElem? (i := 1) rfl)) (hw1.ent _ (List.mem_of_getElem? (i := 2) rfl)) (hw1.ne (i := 1) (j := 2) rfl rfl (by decide)) (show ((numK 8 sq 8) ++ numK 1 (4:UInt64) 1).length = 9 from (by rw [List.length_append, (show (numK 8 sq 8).length = 8 from (BE _ _ _)), BE] <;> omega)) hc4 hc5 hc6 (by omega) (by unfold Szd; omega) (fun h => absurd h (by omega)) (by omega))) rfl ?_
 rintro v1 L1 ⟨_, ⟨rfl, nb5, sp3, cp3, rfl, hc7, hc8, hc9⟩, rfl⟩
 show JL _ _ _ _ ((44, Ptr nb2 0) :: _) [_, ⟨nb2, [.nilIface, Slc nb5 0 17 cp3], 149, (0, 0)⟩, ⟨nb5, cu8 (((numK 8 sq 8) ++ numK 1 (4:UInt64) 1) ++ numK 8 eq 8) ++ sp3, 5, (0, 0)⟩]
 refine AK (AE (AI (AI (AC (AA (Ptr nb1 1) (AB 1 3 1 AS rfl AT rfl rfl) rfl ?_)))))
 refine AA (I64 4) (AL rfl (AV AX (AY 0 rfl (AH (AH (AG (Seg.head))))))) rfl ?_
 refine AK (AE (BY (AI (AC (AA (.bool (decide ((4:Int) = (1:Int)))) (AQ rfl rfl fun _ => A4 _ _) rfl ?_)))))
 refine AA _ (AF rfl) rfl ?_
 refine AK (AE (BT _ rfl (by decide) ?_))
 refine AI (AC (AA (.bool (decide ((4:Int) = (2:Int)))) (AQ rfl rfl fun _ => A4 _ _) rfl ?_))
 refine AA _ (AF rfl) rfl ?_
 refine AK (AE (BT _ rfl (by decide) ?_))
 refine BM (BR (AE (AI (AC (AA _ (AM rfl) rfl ?_)))))
 refine BG (BV 83 [Ptr nb2 0] _ (A5 _ Tryd.call83 rfl) (fun w1 hw1 => doneO_c nb2 0 nb5 17 cp3 (((numK 8 sq 8) ++ numK 1 (4:UInt64) 1) ++ numK 8 eq 8) w1 (RdA.of hw1 (AY 1 rfl (A1 _)) (by simp)) rfl (show (((numK 8 sq 8) ++ numK 1 (4:UInt64) 1) ++ numK 8 eq 8).length = 17 from (by rw [List.length_append, (show ((numK 8 sq 8) ++ numK 1 (4:UInt64) 1).length = 9 from (by rw [List.length_append, (show (numK 8 sq 8).length = 8 from (BE _ _ _)), BE] <;> omega)), BE] <;> omega)) (by omega) (RdB.of hw1 (AY 2 rfl (AH (A1 _))) (by simp)))) rfl ?_
 rintro v1 L1 ⟨_, ⟨nb6, sp4, cp4, rfl, rfl, hc10, hc11, hc12⟩, rfl⟩
 show JL _ _ _ _ ((79, .tuple #[Slc nb6 0 17 cp4, .nilIface]) :: _) [_, _, _, ⟨nb6, cu8 (((numK 8 sq 8) ++ numK 1 (4:UInt64) 1) ++ numK 8 eq 8) ++ sp4, 5, (0, 0)⟩]
 refine AA _ (CC rfl rfl) rfl ?_
 refine AA _ (CC rfl rfl) rfl ?_
 refine AA _ (AF rfl) rfl ?_
 refine AA _ (AF rfl) rfl ?_
 refine AK (AE (BA (BF [false, false, false, true] ?_)))
 show JQ _ _ _ _ [_]
 refine A9 (.tuple #[Slc nb6 0 17 cp4, .nilIface]) (res2 Tryd.results21 (A7 rfl) (A7 rfl)) fun w1 hw1 => ?_
 skip
 exact ⟨_, _, rfl, ⟨nb6, sp4, cp4, rfl, rfl, hc10, hc11, hc12⟩, hw1.sub (by simp) (by simp)⟩
theorem putReq5_c (sq : UInt64) (aiq : Option Addr) (niq ciq : Nat) (lq : List UInt64) (fs : UInt64) (mn : Int) (pv ep : UInt64) (kd : Int) (ai : Option Addr) (ni ci : Nat) (l : List UInt64) (sa : Option Addr) (ns sc : Nat) (ls : List SealR) (bl : UInt64) (tg : List UInt8) (eq : UInt64)  (w : World) (hlq : lq.length = niq) (hnmq : niq ≤ 2000000) (hncq : niq ≤ ciq) (hcmq : ciq ≤ maxLen) (hvq : RdV w aiq (cu64 lq)) (hl : l.length = ni) (hnm : ni ≤ 2000000) (hnc : ni ≤ ci) (hcm : ci ≤ maxLen) (hv : RdV w ai (cu64 l)) (hls : ls.length = ns) (hnn : ns ≤ 2000000) (hnd : ns ≤ sc) (hcn : sc ≤ maxLen) (hs : RdV w sa (ls.flatMap sealC)) (htg : tg.length = 16) (hbi : ni ≤ 300) (hbs : ns ≤ 300) (hR : reqR (5:Int) lq fs mn eq (blankB pv ep kd l ls bl tg) (decide (mayN pv ep kd l ls bl = 0)) = true)  : Calls Tryd.prog 21 #[.agg ([U64 sq, I64 5, .slice aiq niq ciq, U64 fs, I64 (mn), U64 pv, U64 ep, I64 (kd), .slice ai ni ci, .slice sa ns sc, U64 bl] ++ cu8 tg ++ [U64 eq]).toArray] w (Post w [] (fun v L => ∃ g sp cap, v = .tuple #[Slc g 0 (17) cap, .nilIface] ∧ L = [⟨g, cu8 ((numK 8 sq 8 ++ numK 1 (5:UInt64) 1) ++ numK 8 eq 8) ++ sp, 5, (0, 0)⟩] ∧ sp.length = cap - (17) ∧ 17 ≤ cap ∧ cap ≤ maxLen)) := by
 have hmx : maxLen = 9223372036854775807 := rfl
 refine enter (P := Tryd.prog) (f := 21) (fn := Tryd.f21) w [] 82 [] [.agg ([U64 sq, I64 5, .slice aiq niq ciq, U64 fs, I64 (mn), U64 pv, U64 ep, I64 (kd), .slice ai ni ci, .slice sa ns sc, U64 bl] ++ cu8 tg ++ [U64 eq]).toArray] Tryd.func21 rfl rfl (by simp) (B2 (by simp) (by simp) (by simp)) ?_
 show JC _ _ _ [(0, .agg ([U64 sq, I64 5, .slice aiq niq ciq, U64 fs, I64 (mn), U64 pv, U64 ep, I64 (kd), .slice ai ni ci, .slice sa ns sc, U64 bl] ++ cu8 tg ++ [U64 eq]).toArray)] _
 refine AI (AC (BG (CE (.agg ([U64 sq, I64 5, .slice aiq niq ciq, U64 fs, I64 (mn), U64 pv, U64 ep, I64 (kd), .slice ai ni ci, .slice sa ns sc, U64 bl] ++ cu8 tg ++ [U64 eq]).toArray) ([U64 sq, I64 5, .slice aiq niq ciq, U64 fs, I64 (mn), U64 pv, U64 ep, I64 (kd), .slice ai ni ci, .slice sa ns sc, U64 bl] ++ cu8 tg ++ [U64 eq]) rfl (by first | rfl | simp)) rfl ?_))
 rintro v1 L1 ⟨nb1, hnb1, rfl, rfl⟩
 show JL _ _ _ _ ((1, Ptr nb1 0) :: _) [⟨nb1, [U64 sq, I64 5, .slice aiq niq ciq, U64 fs, I64 (mn), U64 pv, U64 ep, I64 (kd), .slice ai ni ci, .slice sa ns sc, U64 bl] ++ cu8 tg ++ [U64 eq], 31, (0, 0)⟩]
 refine AA _ (AF rfl) rfl ?_
 refine AA _ (AF rfl) rfl ?_
 refine AK (AE (AI (AI (AC (AA (.agg ([U64 sq, I64 5, .slice aiq niq ciq, U64 fs, I64 (mn), U64 pv, U64 ep, I64 (kd), .slice ai ni ci, .slice sa ns sc, U64 bl] ++ cu8 tg ++ [U64 eq]).toArray) (AL rfl (B1 CS CJ (by simp [htg]) (AY 0 rfl (A1 _)))) rfl ?_)))))
 refine BS (A2 22 [.agg ([U64 sq, I64 5, .slice aiq niq ciq, U64 fs, I64 (mn), U64 pv, U64 ep, I64 (kd), .slice ai ni ci, .slice sa ns sc, U64 bl] ++ cu8 tg ++ [U64 eq]).toArray] (.bool (reqR (5:Int) lq fs (mn) eq (blankB pv ep (kd) l ls bl tg) (decide (mayN pv ep (kd) l ls bl = 0)))) (A5 _ Tryd.call22 rfl) (fun w1 hw1 => ED sq (5:Int) aiq niq ciq lq fs (mn) pv ep (kd) ai ni ci l sa ns sc ls bl tg eq w1 hlq (by omega) (by omega) (by omega) (BP hw1 rfl hvq) hl (by omega) (by omega) (by omega) (BP hw1 rfl hv) hls (by omega) (by omega) (by omega) (BP hw1 rfl hs) htg (by omega) (by omega))) rfl ?_
 show JL _ _ _ _ ((10, .bool (reqR (5:Int) lq fs (mn) eq (blankB pv ep (kd) l ls bl tg) (decide (mayN pv ep (kd) l ls bl = 0)))) :: _) [_]
 refine AA (.bool (!(reqR (5:Int) lq fs (mn) eq (blankB pv ep (kd) l ls bl tg) (decide (mayN pv ep (kd) l ls bl = 0))))) (C8 rfl) rfl ?_
 refine AK (AE (BT _ rfl (bnotT hR) ?_))
 refine BM (AE (AI (AC (AA (.agg #[.nilIface, .slice none 0 0]) (EN [] _ rfl (fun _ => by kernel_rfl)) rfl ?_))))
 refine BG (CE (.agg #[.nilIface, .slice none 0 0]) ([.nilIface, .slice none 0 0]) rfl (by first | rfl | simp)) rfl ?_
 rintro v1 L1 ⟨nb2, hnb2, rfl, rfl⟩
 show JL _ _ _ _ ((14, Ptr nb2 0) :: _) [_, ⟨nb2, [.nilIface, .slice none 0 0], 149, (0, 0)⟩]
 refine AA _ (AF rfl) rfl ?_
 refine AK (AE (AI (DC 82 3 [(0, Ptr nb2 0), (1, Ptr nb1 0), (2, U64 sq), (4, Ptr nb1 1), (5, I64 5), (6, U64 5)] B9 rfl (by decide +kernel) ?_)))
 refine CP ⟨[], [0, 1, 2, 4, 5, 6], [], [0, 1, 2, 4, 5, 6], [3]⟩ 3 _ rfl rfl (by decide +kernel) rfl ⟨CK rfl rfl rfl, ⟨_, rfl, AO rfl (AB 0 22 1 AS rfl AP rfl rfl)⟩, ⟨_, rfl, AO rfl (AL rfl (AV AR (AY 0 rfl (AH (AH (Seg.head))))))⟩, ⟨_, rfl, AO rfl (AB 1 3 1 AS rfl AT rfl rfl)⟩, ⟨_, rfl, AO rfl (AL rfl (AV AX (AY 0 rfl (AH (AH (AG (Seg.head)))))))⟩, ⟨_, rfl, AO rfl (DA _ _ rfl fun _ => EE (by rw [BO]; rfl) BQ rfl)⟩, trivial⟩ rfl (BJ rfl (C6 81 _ [false, true] [nb2] _ (A5 [Ptr nb2 0, U64 sq, I64 8] C1 rfl) rfl (fun w1 hw1 => numN_c nb2 8 .nilIface sq 8 w1 (hw1.ent _ (List.mem_of_getElem? (i := 1) rfl)) (by unfold Szd; omega) (fun h => absurd h (by omega)) (by omega)))) ?_
 rintro v1 L1 ⟨_, ⟨rfl, nb3, sp1, cp1, rfl, hc1, hc2, hc3⟩, rfl⟩
 refine ⟨[], ?_⟩
 show DP _ _ _ _ _ _ _ _ [_, ⟨nb2, [.nilIface, Slc nb3 0 8 cp1], 149, (0, 0)⟩, ⟨nb3, cu8 (numK 8 sq 8) ++ sp1, 5, (0, 0)⟩]
 refine CP ⟨[3], [0, 1, 2, 4, 5, 6], [0, 1, 2], [4, 5, 6], [7]⟩ 7 _ rfl rfl (by decide +kernel) rfl ⟨⟨_, rfl, AO rfl (AB 1 3 1 AS rfl AT rfl rfl)⟩, ⟨_, rfl, AO rfl (AL rfl (AV AX (AY 0 rfl (AH (AH (AG (Seg.head)))))))⟩, ⟨_, rfl, AO rfl (DA _ _ rfl fun _ => EE (by rw [BO]; rfl) BQ rfl)⟩, trivial⟩ rfl (BJ rfl (C6 81 _ [false, true, true] [nb2, nb3] _ (A5 [Ptr nb2 0, U64 5, I64 1] C1 rfl) rfl (fun w1 hw1 => FA nb2 nb3 8 cp1 9 .nilIface (numK 8 sq 8) sp1 (5:UInt64) 1 w1 (hw1.ent _ (List.mem_of_getElem? (i := 1) rfl)) (hw1.ent _ (List.mem_of_getElem? (i := 2) rfl)) (hw1.ne (i := 1) (j := 2) rfl rfl (by decide)) (show (numK 8 sq 8).length = 8 from (BE _ _ _)) hc1 hc2 hc3 (by omega) (by unfold Szd; omega) (fun _ => by decide) (by omega)))) ?_
 rintro v1 L1 ⟨_, ⟨rfl, nb4, sp2, cp2, rfl, hc4, hc5, hc6⟩, rfl⟩
 refine ⟨[], ?_⟩
 show DP _ _ _ _ _ _ _ _ [_, ⟨nb2, [.nilIface, Slc nb4 0 9 cp2], 149, (0, 0)⟩, ⟨nb4, cu8 ((numK 8 sq 8) ++ numK 1 (5:UInt64) 1) ++ sp2, 5, (0, 0)⟩]
 refine DK ⟨[3, 7], [0, 1, 2, 4, 5, 6], [0, 1, 2, 4, 5, 6], [], []⟩ rfl rfl (by decide +kernel) rfl trivial ?_
 refine CY (F' := [(1, Ptr nb1 0), (2, .slice none 0 0), (3, .nilIface), (4, Ptr nb2 0)]) (by kernel_rfl) ?_
 refine AE (AI (AI (AC (AA (Ptr nb1 1) (AB 1 3 1 AS rfl AT rfl rfl) rfl ?_))))
 refine AA (I64 5) (AL rfl (AV AX (AY 0 rfl (AH (AH (AG (Seg.head))))))) rfl ?_
 refine AA (.bool (decide ((5:Int) = (3:Int)))) (AQ rfl rfl fun _ => A4 _ _) rfl ?_
 refine AK (AE (BT _ rfl (by decide) ?_))
 refine BM (AE (AI (AC (AA _ (AM rfl) rfl ?_))))
 refine AA (Ptr nb1 27) (AB 27 22 1 AS rfl AP rfl rfl) rfl ?_
 refine AA (U64 eq) (AL rfl (AV AR (AY 0 rfl (Seg.right 27 0 (by simp [htg]) rfl (Seg.head))))) rfl ?_
 refine BG (C6 81 _ [false, true, true] [nb2, nb4] _ (A5 [Ptr nb2 0, U64 eq, I64 8] C1 rfl) rfl (fun w1 hw1 => FA nb2 nb4 9 cp2 17 .nilIface ((numK 8 sq 8) ++ numK 1 (5:UInt64) 1) sp2 eq 8 w1 (hw1.ent _ (List.mem_of_getElem? (i := 1) rfl)) (hw1.ent _ (List.mem_of_getElem? (i := 2) rfl)) (hw1.ne (i := 1) (j := 2) rfl rfl (by decide)) (show ((numK 8 sq 8) ++ numK 1 (5:UInt64) 1).length = 9 from (by rw [List.length_append, (show (numK 8 sq 8).length = 8 from (BE _ _ _)), BE] <;> omega)) hc4 hc5 hc6 (by omega) (by unfold Szd; omega) (fun h => absurd h (by omega)) (by omega))) rfl ?_
 rintro v1 L1 ⟨_, ⟨rfl, nb5, sp3, cp3, rfl, hc7, hc8, hc9⟩, rfl⟩
 show JL _ _ _ _ ((44, Ptr nb2 0) :: _) [_, ⟨nb2, [.nilIface, Slc nb5 0 17 cp3], 149, (0, 0)⟩, ⟨nb5, cu8 (((numK 8 sq 8) ++ numK 1 (5:UInt64) 1) ++ numK 8 eq 8) ++ sp3, 5, (0, 0)⟩]
 refine AK (AE (AI (AI (AC (AA (Ptr nb1 1) (AB 1 3 1 AS rfl AT rfl rfl) rfl ?_)))))
 refine AA (I64 5) (AL rfl (AV AX (AY 0 rfl (AH (AH (AG (Seg.head))))))) rfl ?_
 refine AK (AE (BY (AI (AC (AA (.bool (decide ((5:Int) = (1:Int)))) (AQ rfl rfl fun _ => A4 _ _) rfl ?_)))))
 refine AA _ (AF rfl) rfl ?_
 refine AK (AE (BT _ rfl (by decide) ?_))
 refine AI (AC (AA (.bool (decide ((5:Int) = (2:Int)))) (AQ rfl rfl fun _ => A4 _ _) rfl ?_))
 refine AA _ (AF rfl) rfl ?_
 refine AK (AE (BT _ rfl (by decide) ?_))
 refine BM (BR (AE (AI (AC (AA _ (AM rfl) rfl ?_)))))
 refine BG (BV 83 [Ptr nb2 0] _ (A5 _ Tryd.call83 rfl) (fun w1 hw1 => doneO_c nb2 0 nb5 17 cp3 (((numK 8 sq 8) ++ numK 1 (5:UInt64) 1) ++ numK 8 eq 8) w1 (RdA.of hw1 (AY 1 rfl (A1 _)) (by simp)) rfl (show (((numK 8 sq 8) ++ numK 1 (5:UInt64) 1) ++ numK 8 eq 8).length = 17 from (by rw [List.length_append, (show ((numK 8 sq 8) ++ numK 1 (5:UInt64) 1).length = 9 from (by rw [List.length_append, (show (numK 8 sq 8).length = 8 from (BE _ _ _)), BE] <;> omega)), BE] <;> omega)) (by omega) (RdB.of hw1 (AY 2 rfl (AH (A1 _))) (by simp)))) rfl ?_
 rintro v1 L1 ⟨_, ⟨nb6, sp4, cp4, rfl, rfl, hc10, hc11, hc12⟩, rfl⟩
 show JL _ _ _ _ ((79, .tuple #[Slc nb6 0 17 cp4, .nilIface]) :: _) [_, _, _, ⟨nb6, cu8 (((numK 8 sq 8) ++ numK 1 (5:UInt64) 1) ++ numK 8 eq 8) ++ sp4, 5, (0, 0)⟩]
 refine AA _ (CC rfl rfl) rfl ?_
 refine AA _ (CC rfl rfl) rfl ?_
 refine AA _ (AF rfl) rfl ?_
 refine AA _ (AF rfl) rfl ?_
 refine AK (AE (BA (BF [false, false, false, true] ?_)))
 show JQ _ _ _ _ [_]
 refine A9 (.tuple #[Slc nb6 0 17 cp4, .nilIface]) (res2 Tryd.results21 (A7 rfl) (A7 rfl)) fun w1 hw1 => ?_
 skip
 exact ⟨_, _, rfl, ⟨nb6, sp4, cp4, rfl, rfl, hc10, hc11, hc12⟩, hw1.sub (by simp) (by simp)⟩
theorem putReqB_c (sq : UInt64) (qk : Int) (aiq : Option Addr) (niq ciq : Nat) (lq : List UInt64) (fs : UInt64) (mn : Int) (pv ep : UInt64) (kd : Int) (ai : Option Addr) (ni ci : Nat) (l : List UInt64) (sa : Option Addr) (ns sc : Nat) (ls : List SealR) (bl : UInt64) (tg : List UInt8) (eq : UInt64)  (w : World) (hlq : lq.length = niq) (hnmq : niq ≤ 2000000) (hncq : niq ≤ ciq) (hcmq : ciq ≤ maxLen) (hvq : RdV w aiq (cu64 lq)) (hl : l.length = ni) (hnm : ni ≤ 2000000) (hnc : ni ≤ ci) (hcm : ci ≤ maxLen) (hv : RdV w ai (cu64 l)) (hls : ls.length = ns) (hnn : ns ≤ 2000000) (hnd : ns ≤ sc) (hcn : sc ≤ maxLen) (hs : RdV w sa (ls.flatMap sealC)) (htg : tg.length = 16) (hbi : ni ≤ 300) (hbs : ns ≤ 300) (hR : reqR qk lq fs mn eq (blankB pv ep kd l ls bl tg) (decide (mayN pv ep kd l ls bl = 0)) = false)  : Calls Tryd.prog 21 #[.agg ([U64 sq, I64 (qk), .slice aiq niq ciq, U64 fs, I64 (mn), U64 pv, U64 ep, I64 (kd), .slice ai ni ci, .slice sa ns sc, U64 bl] ++ cu8 tg ++ [U64 eq]).toArray] w (Post w [] (fun v L => v = .tuple #[.slice none 0 0, .iface 50 (I64 2)] ∧ L = [])) := by
 have hmx : maxLen = 9223372036854775807 := rfl
 refine enter (P := Tryd.prog) (f := 21) (fn := Tryd.f21) w [] 82 [] [.agg ([U64 sq, I64 (qk), .slice aiq niq ciq, U64 fs, I64 (mn), U64 pv, U64 ep, I64 (kd), .slice ai ni ci, .slice sa ns sc, U64 bl] ++ cu8 tg ++ [U64 eq]).toArray] Tryd.func21 rfl rfl (by simp) (B2 (by simp) (by simp) (by simp)) ?_
 show JC _ _ _ [(0, .agg ([U64 sq, I64 (qk), .slice aiq niq ciq, U64 fs, I64 (mn), U64 pv, U64 ep, I64 (kd), .slice ai ni ci, .slice sa ns sc, U64 bl] ++ cu8 tg ++ [U64 eq]).toArray)] _
 refine AI (AC (BG (CE (.agg ([U64 sq, I64 (qk), .slice aiq niq ciq, U64 fs, I64 (mn), U64 pv, U64 ep, I64 (kd), .slice ai ni ci, .slice sa ns sc, U64 bl] ++ cu8 tg ++ [U64 eq]).toArray) ([U64 sq, I64 (qk), .slice aiq niq ciq, U64 fs, I64 (mn), U64 pv, U64 ep, I64 (kd), .slice ai ni ci, .slice sa ns sc, U64 bl] ++ cu8 tg ++ [U64 eq]) rfl (by first | rfl | simp)) rfl ?_))
 rintro v1 L1 ⟨nb1, hnb1, rfl, rfl⟩
 show JL _ _ _ _ ((1, Ptr nb1 0) :: _) [⟨nb1, [U64 sq, I64 (qk), .slice aiq niq ciq, U64 fs, I64 (mn), U64 pv, U64 ep, I64 (kd), .slice ai ni ci, .slice sa ns sc, U64 bl] ++ cu8 tg ++ [U64 eq], 31, (0, 0)⟩]
 refine AA _ (AF rfl) rfl ?_
 refine AA _ (AF rfl) rfl ?_
 refine AK (AE (AI (AI (AC (AA (.agg ([U64 sq, I64 (qk), .slice aiq niq ciq, U64 fs, I64 (mn), U64 pv, U64 ep, I64 (kd), .slice ai ni ci, .slice sa ns sc, U64 bl] ++ cu8 tg ++ [U64 eq]).toArray) (AL rfl (B1 CS CJ (by simp [htg]) (AY 0 rfl (A1 _)))) rfl ?_)))))
 refine BS (A2 22 [.agg ([U64 sq, I64 (qk), .slice aiq niq ciq, U64 fs, I64 (mn), U64 pv, U64 ep, I64 (kd), .slice ai ni ci, .slice sa ns sc, U64 bl] ++ cu8 tg ++ [U64 eq]).toArray] (.bool (reqR (qk) lq fs (mn) eq (blankB pv ep (kd) l ls bl tg) (decide (mayN pv ep (kd) l ls bl = 0)))) (A5 _ Tryd.call22 rfl) (fun w1 hw1 => ED sq (qk) aiq niq ciq lq fs (mn) pv ep (kd) ai ni ci l sa ns sc ls bl tg eq w1 hlq (by omega) (by omega) (by omega) (BP hw1 rfl hvq) hl (by omega) (by omega) (by omega) (BP hw1 rfl hv) hls (by omega) (by omega) (by omega) (BP hw1 rfl hs) htg (by omega) (by omega))) rfl ?_
 show JL _ _ _ _ ((10, .bool (reqR (qk) lq fs (mn) eq (blankB pv ep (kd) l ls bl tg) (decide (mayN pv ep (kd) l ls bl = 0)))) :: _) [_]
 refine AA (.bool (!(reqR (qk) lq fs (mn) eq (blankB pv ep (kd) l ls bl tg) (decide (mayN pv ep (kd) l ls bl = 0))))) (C8 rfl) rfl ?_
 refine AK (AE (B5 _ rfl (bnotF hR) ?_))
 refine AI (AC (AA (.iface 50 (I64 2)) (Ev_iface Tryd.underlying50 rfl rfl) rfl ?_))
 refine AA _ (AF rfl) rfl ?_
 refine AA _ (AF rfl) rfl ?_
 refine AK (AE (BA (AU (BF [false] ?_))))
 show JQ _ _ _ _ []
 refine A9 (.tuple #[.slice none 0 0, .iface 50 (I64 2)]) (res2 Tryd.results21 (A7 rfl) (A7 rfl)) fun w1 hw1 => ?_
 exact ⟨_, [], rfl, ⟨rfl, rfl⟩, hw1.sub (by simp) (by simp)⟩
theorem rputReq1_c (sq : UInt64) (aiq : Option Addr) (niq ciq : Nat) (lq : List UInt64) (fs : UInt64) (mn : Int) (pv ep : UInt64) (kd : Int) (ai : Option Addr) (ni ci : Nat) (l : List UInt64) (sa : Option Addr) (ns sc : Nat) (ls : List SealR) (bl : UInt64) (tg : List UInt8) (eq : UInt64)  (w : World) (hlq : lq.length = niq) (hnmq : niq ≤ 2000000) (hncq : niq ≤ ciq) (hcmq : ciq ≤ maxLen) (hvq : RdV w aiq (cu64 lq)) (hl : l.length = ni) (hnm : ni ≤ 2000000) (hnc : ni ≤ ci) (hcm : ci ≤ maxLen) (hv : RdV w ai (cu64 l)) (hls : ls.length = ns) (hnn : ns ≤ 2000000) (hnd : ns ≤ sc) (hcn : sc ≤ maxLen) (hs : RdV w sa (ls.flatMap sealC)) (htg : tg.length = 16) (hbi : ni ≤ 300) (hbs : ns ≤ 300) (hR : reqR (1:Int) lq fs mn eq (blankB pv ep kd l ls bl tg) (decide (mayN pv ep kd l ls bl = 0)) = true)  : Calls Tryd.prog 25 #[.agg ([U64 sq, I64 1, .slice aiq niq ciq, U64 fs, I64 (mn), U64 pv, U64 ep, I64 (kd), .slice ai ni ci, .slice sa ns sc, U64 bl] ++ cu8 tg ++ [U64 eq]).toArray] w (Post w [] (fun v L => ∃ g sp cap, v = Slc g 0 (4*niq + 18) cap ∧ L = [⟨g, cu8 ((((numK 8 sq 8 ++ numK 1 (1:UInt64) 1) ++ numK 8 eq 8) ++ numK 1 (UInt64.ofNat (niq - 1)) 1) ++ idxT lq niq) ++ sp, 5, (0, 0)⟩] ∧ sp.length = cap - (4*niq + 18) ∧ 4*niq + 18 ≤ cap ∧ cap ≤ maxLen)) := by
 have hmx : maxLen = 9223372036854775807 := rfl
 have hRI := reqR_one hR
 have hRp := RightI_pos hRI
 rw [hlq] at hRp
 refine enter (P := Tryd.prog) (f := 25) (fn := Tryd.f25) w [] 69 [] [.agg ([U64 sq, I64 1, .slice aiq niq ciq, U64 fs, I64 (mn), U64 pv, U64 ep, I64 (kd), .slice ai ni ci, .slice sa ns sc, U64 bl] ++ cu8 tg ++ [U64 eq]).toArray] Tryd.func25 rfl rfl (by simp) (B2 (by simp) (by simp) (by simp)) ?_
 show JC _ _ _ [(0, .agg ([U64 sq, I64 1, .slice aiq niq ciq, U64 fs, I64 (mn), U64 pv, U64 ep, I64 (kd), .slice ai ni ci, .slice sa ns sc, U64 bl] ++ cu8 tg ++ [U64 eq]).toArray)] _
 refine AI (AC (BG (CE (.agg ([U64 sq, I64 1, .slice aiq niq ciq, U64 fs, I64 (mn), U64 pv, U64 ep, I64 (kd), .slice ai ni ci, .slice sa ns sc, U64 bl] ++ cu8 tg ++ [U64 eq]).toArray) ([U64 sq, I64 1, .slice aiq niq ciq, U64 fs, I64 (mn), U64 pv, U64 ep, I64 (kd), .slice ai ni ci, .slice sa ns sc, U64 bl] ++ cu8 tg ++ [U64 eq]) rfl (by first | rfl | simp)) rfl ?_))
 rintro v1 L1 ⟨nb1, hnb1, rfl, rfl⟩
 show JL _ _ _ _ ((1, Ptr nb1 0) :: _) [⟨nb1, [U64 sq, I64 1, .slice aiq niq ciq, U64 fs, I64 (mn), U64 pv, U64 ep, I64 (kd), .slice ai ni ci, .slice sa ns sc, U64 bl] ++ cu8 tg ++ [U64 eq], 40, (0, 0)⟩]
 refine AA _ (AF rfl) rfl ?_
 refine AK (AE (AI (DC 69 4 [(0, Ptr nb1 0), (1, U64 sq), (3, Ptr nb1 1), (4, I64 1), (5, U8 1)] B9 rfl (by decide +kernel) ?_)))
 refine DP_two ⟨[], [0, 1, 3, 4, 5], [], [0, 1, 3, 4, 5], [2, 6]⟩ 2 6 _ _ rfl rfl (by decide +kernel) rfl ⟨⟨_, rfl, AO rfl (AB 0 22 1 AJ rfl AP rfl rfl)⟩, ⟨_, rfl, AO rfl (AL rfl (AV AR (AY 0 rfl (AH (AH (Seg.head))))))⟩, ⟨_, rfl, AO rfl (AB 1 3 1 AJ rfl AT rfl rfl)⟩, ⟨_, rfl, AO rfl (AL rfl (AV AX (AY 0 rfl (AH (AH (AG (Seg.head)))))))⟩, ⟨_, rfl, AO rfl (DA _ _ rfl fun _ => EE (by rw [BO]; rfl) BU rfl)⟩, trivial⟩ rfl rfl (BJ rfl (BV 88 [U64 sq, I64 8] _ (A5 _ CW rfl) (fun w1 hw1 => DE sq 8 w1 (by omega)))) (BJ rfl (B7 5 1 _ [(0, U8 1)] (cu8 ([(1:UInt8)])) AW B4 CD rfl rfl rfl (by kernel_rfl))) ?_ ?_
 ·
  rintro v1 L1 ⟨_, ⟨nb2, rfl, rfl⟩, rfl⟩
  refine ⟨[], ?_⟩
  show DP _ _ _ _ _ _ _ _ [_, ⟨nb2, cu8 (numK 8 sq 8), 5, (0, 0)⟩]
  refine CP ⟨[2], [0, 1, 3, 4, 5], [0, 1], [3, 4, 5], [6]⟩ 6 _ rfl rfl (by decide +kernel) rfl ⟨⟨_, rfl, AO rfl (AB 1 3 1 AJ rfl AT rfl rfl)⟩, ⟨_, rfl, AO rfl (AL rfl (AV AX (AY 0 rfl (AH (AH (AG (Seg.head)))))))⟩, ⟨_, rfl, AO rfl (DA _ _ rfl fun _ => EE (by rw [BO]; rfl) BU rfl)⟩, trivial⟩ rfl (BJ rfl (B7 5 1 _ [(0, U8 1)] (cu8 ([(1:UInt8)])) AW B4 CD rfl rfl rfl (by kernel_rfl))) ?_
  rintro v1 L1 ⟨nb4, hnb4, rfl, rfl⟩
  refine ⟨[], ?_⟩
  show DP _ _ _ _ _ _ _ _ [_, _, ⟨nb4, cu8 ([(1:UInt8)]), 5, (0, 0)⟩]
  refine CP ⟨[2, 6], [0, 1, 3, 4, 5], [0, 1, 3, 4, 5], [], [7]⟩ 7 _ rfl rfl (by decide +kernel) rfl trivial rfl (BJ rfl (B3 43 5 [false, true, false] (Slc nb2 0 8 8) 8 (numK 8 sq 8) ([(1:UInt8)]) (some ⟨nb4, 0, none⟩) 1 1 9 AW B0 rfl (.inr ⟨nb2, [], 8, rfl, (by simp [take?, cu8, cu32, cu64]), (by first | exact (show (numK 8 sq 8).length = 8 from BE _ _ _) | simp [(show (numK 8 sq 8).length = 8 from BE _ _ _)]), (by simp), (by omega), (by unfold maxLen; omega)⟩) rfl (by simp) (SrcAt.mem (AY 2 rfl (A1 _))) (by omega) (by unfold maxLen; omega) (by omega))) ?_
  rintro v1 L1 ⟨nb5, sp1, cp1, hg1, rfl, rfl, ha1, ha2, ha3, ha4⟩
  refine ⟨[(8, Slc nb5 0 9 cp1)], ?_⟩
  show DP _ _ _ _ _ _ _ _ [_, _, ⟨nb5, cu8 ((numK 8 sq 8) ++ ([(1:UInt8)])) ++ sp1, 5, (0, 0)⟩]
  refine DK ⟨[2, 6, 7], [0, 1, 3, 4, 5, 8], [0, 1, 3, 4, 5], [8], []⟩ rfl rfl (by decide +kernel) rfl ⟨⟨_, rfl, AO rfl (AF rfl)⟩, trivial⟩ ?_
  refine CY (F' := [(3, Slc nb5 0 9 cp1), (1, Ptr nb1 0), (2, .slice none 0 0)]) (by kernel_rfl) ?_
  refine AE (AI (AI (AC (AA (Ptr nb1 1) (AB 1 3 1 AJ rfl AT rfl rfl) rfl ?_))))
  refine AA (I64 1) (AL rfl (AV AX (AY 0 rfl (AH (AH (AG (Seg.head))))))) rfl ?_
  refine AA (.bool (decide ((1:Int) ≠ (3:Int)))) (AQ rfl rfl fun _ => DI _ _) rfl ?_
  refine AK (AE (B5 _ rfl (by decide) ?_))
  refine AC (AA _ (AM rfl) rfl ?_)
  refine AA (Ptr nb1 27) (AB 27 22 1 AJ rfl AP rfl rfl) rfl ?_
  refine AA (U64 eq) (AL rfl (AV AR (AY 0 rfl (Seg.right 27 0 (by simp [htg]) rfl (Seg.head))))) rfl ?_
  refine BG (BV 88 [U64 eq, I64 8] _ (A5 _ CW rfl) (fun w1 hw1 => DE eq 8 w1 (by omega))) rfl ?_
  rintro v1 L1 ⟨_, ⟨nb6, rfl, rfl⟩, rfl⟩
  show JL _ _ _ _ ((19, Slc nb6 0 8 8) :: _) [_, _, _, ⟨nb6, cu8 (numK 8 eq 8), 5, (0, 0)⟩]
  refine BG (B3 43 5 [false, false, true, false] (Slc nb5 0 9 cp1) 9 ((numK 8 sq 8) ++ ([(1:UInt8)])) (numK 8 eq 8) (some ⟨nb6, 0, none⟩) 8 8 17 AW B0 rfl (.inr ⟨nb5, sp1, cp1, rfl, rfl, (by first | exact ha1 | simp [ha1]), ha2, (by omega), (by omega)⟩) rfl (by first | exact (show (numK 8 eq 8).length = 8 from BE _ _ _) | simp [(show (numK 8 eq 8).length = 8 from BE _ _ _)]; try omega) (SrcAt.mem (AY 3 rfl (A1 _))) (by omega) (by unfold maxLen; omega) (by omega)) rfl ?_
  rintro v1 L1 ⟨nb7, sp2, cp2, hg2, rfl, rfl, ha5, ha6, ha7, ha8⟩
  show JL _ _ _ _ ((20, Slc nb7 0 17 cp2) :: _) [_, _, _, ⟨nb7, cu8 (((numK 8 sq 8) ++ ([(1:UInt8)])) ++ (numK 8 eq 8)) ++ sp2, 5, (0, 0)⟩]
  refine AA _ (AF rfl) rfl ?_
  refine AK (AE (AI (AI (AC (AA (Ptr nb1 1) (AB 1 3 1 AJ rfl AT rfl rfl) rfl ?_)))))
  refine AA (I64 1) (AL rfl (AV AX (AY 0 rfl (AH (AH (AG (Seg.head))))))) rfl ?_
  refine AK (AE (BY (AI (AC (AA (.bool (decide ((1:Int) = (1:Int)))) (AQ rfl rfl fun _ => A4 _ _) rfl ?_)))))
  refine AA _ (AF rfl) rfl ?_
  refine AK (AE (B5 _ rfl (by decide) ?_))
  refine AI (AC (AA _ (AM rfl) rfl ?_))
  refine AA (Ptr nb1 2) (AB 2 23 1 AJ rfl BI rfl rfl) rfl ?_
  refine AA (.slice aiq niq ciq) (AL rfl (AV BL (AY 0 rfl (AH (AH (AG (AG (Seg.head)))))))) rfl ?_
  refine AA (I64 niq) (C9 A8 rfl) rfl ?_
  refine AA (I64 ((niq:Int) - 1)) (AQ rfl rfl fun _ => DL _ _ ((niq:Int) - 1) (by omega) (by omega)) rfl ?_
  refine AA (U8 (UInt8.ofNat (niq - 1))) (DA _ _ rfl fun _ => EI (by rw [BO]; rfl) BU (niq - 1) _ (by omega)) rfl ?_
  refine BG (B7 5 1 _ [(0, U8 (UInt8.ofNat (niq - 1)))] (cu8 ([UInt8.ofNat (niq - 1)])) AW B4 CD rfl rfl rfl (by kernel_rfl)) rfl ?_
  rintro v1 L1 ⟨nb8, hnb8, rfl, rfl⟩
  show JL _ _ _ _ ((31, Slc nb8 0 1 1) :: _) [_, _, _, _, ⟨nb8, cu8 ([UInt8.ofNat (niq - 1)]), 5, (0, 0)⟩]
  refine BG (B3 43 5 [false, false, false, true, false] (Slc nb7 0 17 cp2) 17 (((numK 8 sq 8) ++ ([(1:UInt8)])) ++ (numK 8 eq 8)) ([UInt8.ofNat (niq - 1)]) (some ⟨nb8, 0, none⟩) 1 1 18 AW B0 rfl (.inr ⟨nb7, sp2, cp2, rfl, rfl, (by first | exact ha5 | simp [ha5]), ha6, (by omega), (by omega)⟩) rfl (by simp) (SrcAt.mem (AY 4 rfl (A1 _))) (by omega) (by unfold maxLen; omega) (by omega)) rfl ?_
  rintro v1 L1 ⟨nb9, sp3, cp3, hg3, rfl, rfl, ha9, ha10, ha11, ha12⟩
  show JL _ _ _ _ ((32, Slc nb9 0 18 cp3) :: _) [_, _, _, _, ⟨nb9, cu8 ((((numK 8 sq 8) ++ ([(1:UInt8)])) ++ (numK 8 eq 8)) ++ ([UInt8.ofNat (niq - 1)])) ++ sp3, 5, (0, 0)⟩]
  refine AA _ (AF rfl) rfl ?_
  refine AK (AE (AI (AC (AA _ (AF rfl) rfl ?_))))
  refine AK (AE (BY (BF [true, false, false, false, true] ?_)))
  show JC _ _ _ _ [_, _]
  refine EG (ι := Nat × List UInt8 × Nat × List Value × Nat) (fun ⟨i, oqi, gqi, spqi, cpqi⟩ => [(1, Ptr nb1 0), (2, .slice none 0 0), (4, I64 i), (3, Slc gqi 0 (4*i + 18) cpqi)]) (fun ⟨i, oqi, gqi, spqi, cpqi⟩ => [⟨nb1, [U64 sq, I64 1, .slice aiq niq ciq, U64 fs, I64 (mn), U64 pv, U64 ep, I64 (kd), .slice ai ni ci, .slice sa ns sc, U64 bl] ++ cu8 tg ++ [U64 eq], 40, (0, 0)⟩, ⟨gqi, cu8 oqi ++ spqi, 5, (0, 0)⟩]) (fun ⟨i, oqi, gqi, spqi, cpqi⟩ => i ≤ niq ∧ oqi = (((numK 8 sq 8 ++ [(1:UInt8)]) ++ numK 8 eq 8) ++ [UInt8.ofNat (niq - 1)]) ++ idxT lq i ∧ oqi.length = 4*i + 18 ∧ spqi.length = cpqi - (4*i + 18) ∧ 4*i + 18 ≤ cpqi ∧ cpqi ≤ maxLen) (fun ⟨i, oqi, gqi, spqi, cpqi⟩ => niq - i) (0, (((numK 8 sq 8) ++ ([(1:UInt8)])) ++ (numK 8 eq 8)) ++ ([UInt8.ofNat (niq - 1)]), nb9, sp3, cp3) ⟨by omega, by rw [idxT_zero, List.append_nil], (by have h := ha9; omega), (by have h := ha10; omega), by omega, by omega⟩ (Sub.cons rfl (Sub.cons rfl (Sub.cons rfl (Sub.cons (some_slc (by omega)) (Sub.nil))))) (by first | rfl | (simp; done)) ?_
  rintro ⟨i, oqi, gqi, spqi, cpqi⟩ ⟨hi1, hi2, hi3, hi4, hi5, hi6⟩
  show JC _ _ _ [(1, Ptr nb1 0), (2, .slice none 0 0), (4, I64 i), (3, Slc gqi 0 (4*i + 18) cpqi)] [⟨nb1, [U64 sq, I64 1, .slice aiq niq ciq, U64 fs, I64 (mn), U64 pv, U64 ep, I64 (kd), .slice ai ni ci, .slice sa ns sc, U64 bl] ++ cu8 tg ++ [U64 eq], 40, (0, 0)⟩, ⟨gqi, cu8 oqi ++ spqi, 5, (0, 0)⟩]
  refine AI (AI (AC (AA _ (AM rfl) rfl ?_)))
  refine AA (Ptr nb1 2) (AB 2 23 1 AJ rfl BI rfl rfl) rfl ?_
  refine AA (.slice aiq niq ciq) (AL rfl (AV BL (AY 0 rfl (AH (AH (AG (AG (Seg.head)))))))) rfl ?_
  refine AA (I64 niq) (C9 A8 rfl) rfl ?_
  refine AA (.bool (decide (((i:Int)) < ((niq:Int))))) (AQ rfl rfl fun _ => CX _ _) rfl ?_
  refine AK (AE (BZ (decide (((i:Int)) < ((niq:Int)))) rfl (fun hb1 => ?_) (fun hb1 => ?_)))
  ·
   have hp1 : ((i:Int)) < ((niq:Int)) := of_decide_eq_true hb1
   refine BM (AE (AI (BY (AC (AA _ (AM rfl) rfl ?_)))))
   refine AA (Ptr nb1 2) (AB 2 23 1 AJ rfl BI rfl rfl) rfl ?_
   refine AA (.slice aiq niq ciq) (AL rfl (AV BL (AY 0 rfl (AH (AH (AG (AG (Seg.head)))))))) rfl ?_
   refine AA _ (AM rfl) rfl ?_
   obtain ⟨bz1, oz1, hz1, hm1⟩ := RdV.pos hvq (by rw [EB, hlq]; omega)
   refine AA (Ptr bz1 (i + oz1)) (CU 22 1 (i + oz1) A8 AP rfl hz1 rfl (by omega) (by omega) (by omega)) rfl ?_
   refine AA (U64 (g64 lq i)) (AL rfl (AV AR (C3 (hm1.mem (by simp)) (Seg.get (E4 (i := i) (by rw [hlq]; omega))) (by omega)))) rfl ?_
   refine BG (BV 88 [U64 (g64 lq i), I64 4] _ (A5 _ CW rfl) (fun w1 hw1 => DE (g64 lq i) 4 w1 (by omega))) rfl ?_
   rintro v1 L1 ⟨_, ⟨nb10, rfl, rfl⟩, rfl⟩
   show JL _ _ _ _ ((46, Slc nb10 0 4 4) :: _) [_, _, ⟨nb10, cu8 (numK 4 (g64 lq i) 4), 5, (0, 0)⟩]
   refine BG (B3 43 5 [false, true, false] (Slc gqi 0 (4*i + 18) cpqi) (4*i + 18) oqi (numK 4 (g64 lq i) 4) (some ⟨nb10, 0, none⟩) 4 4 (4*i + 22) AW B0 rfl (.inr ⟨gqi, spqi, cpqi, rfl, rfl, (by first | exact hi3 | simp [hi3]), hi4, (by omega), (by omega)⟩) rfl (by first | exact (show (numK 4 (g64 lq i) 4).length = 4 from BE _ _ _) | simp [(show (numK 4 (g64 lq i) 4).length = 4 from BE _ _ _)]; try omega) (SrcAt.mem (AY 2 rfl (A1 _))) (by omega) (by unfold maxLen; omega) (by omega)) rfl ?_
   rintro v1 L1 ⟨nb11, sp4, cp4, hg4, rfl, rfl, ha13, ha14, ha15, ha16⟩
   show JL _ _ _ _ ((47, Slc nb11 0 (4*i + 22) cp4) :: _) [_, _, ⟨nb11, cu8 (oqi ++ (numK 4 (g64 lq i) 4)) ++ sp4, 5, (0, 0)⟩]
   refine AA _ (AF rfl) rfl ?_
   refine AK (BR (AE (AC (AA _ (AM rfl) rfl ?_))))
   refine AA (I64 ((i:Int) + 1)) (AQ rfl rfl fun _ => DV _ _ ((i:Int) + 1) (by omega) (by omega)) rfl ?_
   refine AA _ (AF rfl) rfl ?_
   refine AK (DU (BF [true, false, true] ?_))
   show K _ _ [_, _] _
   refine EM (i + 1, oqi ++ (numK 4 (g64 lq i) 4), nb11, sp4, cp4) ⟨by omega, by rw [hi2, idxT_succ, List.append_assoc], (by have h := ha13; omega), (by have h := ha14; omega), by omega, by omega⟩ (by first | (simp; omega) | simp | (dsimp only; omega) | omega) (Sub.cons rfl (Sub.cons rfl (Sub.cons rfl (Sub.cons (some_slc (by omega)) (Sub.nil))))) rfl
  ·
   have hp1 : ¬ (((i:Int)) < ((niq:Int))) := of_decide_eq_false hb1
   refine EH (BX (BX (DH (BR (AE (AI (AC (AA _ (AM rfl) rfl ?_))))))))
   refine AA _ (AF rfl) rfl ?_
   refine AK (AE (BA (BF [false, true] ?_)))
   show JQ _ _ _ _ [_]
   refine A9 (Slc gqi 0 (4*i + 18) cpqi) (res1 DT (A7 rfl)) fun w1 hw1 => ?_
   have hi7 : niq = i := by omega
   subst hi7
   have hq : oqi = (((numK 8 sq 8 ++ numK 1 (1:UInt64) 1) ++ numK 8 eq 8) ++ numK 1 (UInt64.ofNat (niq - 1)) 1) ++ idxT lq niq := by rw [hi2, EO, nkL1]
   rw [hq] at hw1
   exact ⟨_, _, rfl, ⟨gqi, spqi, cpqi, rfl, rfl, hi4, hi5, hi6⟩, hw1.sub (by simp) (by simp)⟩
 ·
  rintro v1 L1 ⟨nb3, hnb3, rfl, rfl⟩
  refine ⟨[], ?_⟩
  show DP _ _ _ _ _ _ _ _ [_, ⟨nb3, cu8 ([(1:UInt8)]), 5, (0, 0)⟩]
  refine CP ⟨[6], [0, 1, 3, 4, 5], [3, 4, 5], [0, 1], [2]⟩ 2 _ rfl rfl (by decide +kernel) rfl ⟨⟨_, rfl, AO rfl (AB 0 22 1 AJ rfl AP rfl rfl)⟩, ⟨_, rfl, AO rfl (AL rfl (AV AR (AY 0 rfl (AH (AH (Seg.head))))))⟩, trivial⟩ rfl (BJ rfl (BV 88 [U64 sq, I64 8] _ (A5 _ CW rfl) (fun w1 hw1 => DE sq 8 w1 (by omega)))) ?_
  rintro v1 L1 ⟨_, ⟨nb12, rfl, rfl⟩, rfl⟩
  refine ⟨[], ?_⟩
  show DP _ _ _ _ _ _ _ _ [_, _, ⟨nb12, cu8 (numK 8 sq 8), 5, (0, 0)⟩]
  refine CP ⟨[6, 2], [0, 1, 3, 4, 5], [0, 1, 3, 4, 5], [], [7]⟩ 7 _ rfl rfl (by decide +kernel) rfl trivial rfl (BJ rfl (B3 43 5 [false, false, true] (Slc nb12 0 8 8) 8 (numK 8 sq 8) ([(1:UInt8)]) (some ⟨nb3, 0, none⟩) 1 1 9 AW B0 rfl (.inr ⟨nb12, [], 8, rfl, (by simp [take?, cu8, cu32, cu64]), (by first | exact (show (numK 8 sq 8).length = 8 from BE _ _ _) | simp [(show (numK 8 sq 8).length = 8 from BE _ _ _)]), (by simp), (by omega), (by unfold maxLen; omega)⟩) rfl (by simp) (SrcAt.mem (AY 1 rfl (A1 _))) (by omega) (by unfold maxLen; omega) (by omega))) ?_
  rintro v1 L1 ⟨nb13, sp5, cp5, hg5, rfl, rfl, ha17, ha18, ha19, ha20⟩
  refine ⟨[(8, Slc nb13 0 9 cp5)], ?_⟩
  show DP _ _ _ _ _ _ _ _ [_, _, ⟨nb13, cu8 ((numK 8 sq 8) ++ ([(1:UInt8)])) ++ sp5, 5, (0, 0)⟩]
  refine DK ⟨[6, 2, 7], [0, 1, 3, 4, 5, 8], [0, 1, 3, 4, 5], [8], []⟩ rfl rfl (by decide +kernel) rfl ⟨⟨_, rfl, AO rfl (AF rfl)⟩, trivial⟩ ?_
  refine CY (F' := [(3, Slc nb13 0 9 cp5), (1, Ptr nb1 0), (2, .slice none 0 0)]) (by kernel_rfl) ?_
  refine AE (AI (AI (AC (AA (Ptr nb1 1) (AB 1 3 1 AJ rfl AT rfl rfl) rfl ?_))))
  refine AA (I64 1) (AL rfl (AV AX (AY 0 rfl (AH (AH (AG (Seg.head))))))) rfl ?_
  refine AA (.bool (decide ((1:Int) ≠ (3:Int)))) (AQ rfl rfl fun _ => DI _ _) rfl ?_
  refine AK (AE (B5 _ rfl (by decide) ?_))
  refine AC (AA _ (AM rfl) rfl ?_)
  refine AA (Ptr nb1 27) (AB 27 22 1 AJ rfl AP rfl rfl) rfl ?_
  refine AA (U64 eq) (AL rfl (AV AR (AY 0 rfl (Seg.right 27 0 (by simp [htg]) rfl (Seg.head))))) rfl ?_
  refine BG (BV 88 [U64 eq, I64 8] _ (A5 _ CW rfl) (fun w1 hw1 => DE eq 8 w1 (by omega))) rfl ?_
  rintro v1 L1 ⟨_, ⟨nb14, rfl, rfl⟩, rfl⟩
  show JL _ _ _ _ ((19, Slc nb14 0 8 8) :: _) [_, _, _, ⟨nb14, cu8 (numK 8 eq 8), 5, (0, 0)⟩]
  refine BG (B3 43 5 [false, false, true, false] (Slc nb13 0 9 cp5) 9 ((numK 8 sq 8) ++ ([(1:UInt8)])) (numK 8 eq 8) (some ⟨nb14, 0, none⟩) 8 8 17 AW B0 rfl (.inr ⟨nb13, sp5, cp5, rfl, rfl, (by first | exact ha17 | simp [ha17]), ha18, (by omega), (by omega)⟩) rfl (by first | exact (show (numK 8 eq 8).length = 8 from BE _ _ _) | simp [(show (numK 8 eq 8).length = 8 from BE _ _ _)]; try omega) (SrcAt.mem (AY 3 rfl (A1 _))) (by omega) (by unfold maxLen; omega) (by omega)) rfl ?_
  rintro v1 L1 ⟨nb15, sp6, cp6, hg6, rfl, rfl, ha21, ha22, ha23, ha24⟩
  show JL _ _ _ _ ((20, Slc nb15 0 17 cp6) :: _) [_, _, _, ⟨nb15, cu8 (((numK 8 sq 8) ++ ([(1:UInt8)])) ++ (numK 8 eq 8)) ++ sp6, 5, (0, 0)⟩]
  refine AA _ (AF rfl) rfl ?_
  refine AK (AE (AI (AI (AC (AA (Ptr nb1 1) (AB 1 3 1 AJ rfl AT rfl rfl) rfl ?_)))))
  refine AA (I64 1) (AL rfl (AV AX (AY 0 rfl (AH (AH (AG (Seg.head))))))) rfl ?_
  refine AK (AE (BY (AI (AC (AA (.bool (decide ((1:Int) = (1:Int)))) (AQ rfl rfl fun _ => A4 _ _) rfl ?_)))))
  refine AA _ (AF rfl) rfl ?_
  refine AK (AE (B5 _ rfl (by decide) ?_))
  refine AI (AC (AA _ (AM rfl) rfl ?_))
  refine AA (Ptr nb1 2) (AB 2 23 1 AJ rfl BI rfl rfl) rfl ?_
  refine AA (.slice aiq niq ciq) (AL rfl (AV BL (AY 0 rfl (AH (AH (AG (AG (Seg.head)))))))) rfl ?_
  refine AA (I64 niq) (C9 A8 rfl) rfl ?_
  refine AA (I64 ((niq:Int) - 1)) (AQ rfl rfl fun _ => DL _ _ ((niq:Int) - 1) (by omega) (by omega)) rfl ?_
  refine AA (U8 (UInt8.ofNat (niq - 1))) (DA _ _ rfl fun _ => EI (by rw [BO]; rfl) BU (niq - 1) _ (by omega)) rfl ?_
  refine BG (B7 5 1 _ [(0, U8 (UInt8.ofNat (niq - 1)))] (cu8 ([UInt8.ofNat (niq - 1)])) AW B4 CD rfl rfl rfl (by kernel_rfl)) rfl ?_
  rintro v1 L1 ⟨nb16, hnb16, rfl, rfl⟩
  show JL _ _ _ _ ((31, Slc nb16 0 1 1) :: _) [_, _, _, _, ⟨nb16, cu8 ([UInt8.ofNat (niq - 1)]), 5, (0, 0)⟩]
  refine BG (B3 43 5 [false, false, false, true, false] (Slc nb15 0 17 cp6) 17 (((numK 8 sq 8) ++ ([(1:UInt8)])) ++ (numK 8 eq 8)) ([UInt8.ofNat (niq - 1)]) (some ⟨nb16, 0, none⟩) 1 1 18 AW B0 rfl (.inr ⟨nb15, sp6, cp6, rfl, rfl, (by first | exact ha21 | simp [ha21]), ha22, (by omega), (by omega)⟩) rfl (by simp) (SrcAt.mem (AY 4 rfl (A1 _))) (by omega) (by unfold maxLen; omega) (by omega)) rfl ?_
  rintro v1 L1 ⟨nb17, sp7, cp7, hg7, rfl, rfl, ha25, ha26, ha27, ha28⟩
  show JL _ _ _ _ ((32, Slc nb17 0 18 cp7) :: _) [_, _, _, _, ⟨nb17, cu8 ((((numK 8 sq 8) ++ ([(1:UInt8)])) ++ (numK 8 eq 8)) ++ ([UInt8.ofNat (niq - 1)])) ++ sp7, 5, (0, 0)⟩]
  refine AA _ (AF rfl) rfl ?_
  refine AK (AE (AI (AC (AA _ (AF rfl) rfl ?_))))
  refine AK (AE (BY (BF [true, false, false, false, true] ?_)))
  show JC _ _ _ _ [_, _]
  refine EG (ι := Nat × List UInt8 × Nat × List Value × Nat) (fun ⟨i, oqi, gqi, spqi, cpqi⟩ => [(1, Ptr nb1 0), (2, .slice none 0 0), (4, I64 i), (3, Slc gqi 0 (4*i + 18) cpqi)]) (fun ⟨i, oqi, gqi, spqi, cpqi⟩ => [⟨nb1, [U64 sq, I64 1, .slice aiq niq ciq, U64 fs, I64 (mn), U64 pv, U64 ep, I64 (kd), .slice ai ni ci, .slice sa ns sc, U64 bl] ++ cu8 tg ++ [U64 eq], 40, (0, 0)⟩, ⟨gqi, cu8 oqi ++ spqi, 5, (0, 0)⟩]) (fun ⟨i, oqi, gqi, spqi, cpqi⟩ => i ≤ niq ∧ oqi = (((numK 8 sq 8 ++ [(1:UInt8)]) ++ numK 8 eq 8) ++ [UInt8.ofNat (niq - 1)]) ++ idxT lq i ∧ oqi.length = 4*i + 18 ∧ spqi.length = cpqi - (4*i + 18) ∧ 4*i + 18 ≤ cpqi ∧ cpqi ≤ maxLen) (fun ⟨i, oqi, gqi, spqi, cpqi⟩ => niq - i) (0, (((numK 8 sq 8) ++ ([(1:UInt8)])) ++ (numK 8 eq 8)) ++ ([UInt8.ofNat (niq - 1)]), nb17, sp7, cp7) ⟨by omega, by rw [idxT_zero, List.append_nil], (by have h := ha25; omega), (by have h := ha26; omega), by omega, by omega⟩ (Sub.cons rfl (Sub.cons rfl (Sub.cons rfl (Sub.cons (some_slc (by omega)) (Sub.nil))))) (by first | rfl | (simp; done)) ?_
  rintro ⟨i, oqi, gqi, spqi, cpqi⟩ ⟨hi1, hi2, hi3, hi4, hi5, hi6⟩
  show JC _ _ _ [(1, Ptr nb1 0), (2, .slice none 0 0), (4, I64 i), (3, Slc gqi 0 (4*i + 18) cpqi)] [⟨nb1, [U64 sq, I64 1, .slice aiq niq ciq, U64 fs, I64 (mn), U64 pv, U64 ep, I64 (kd), .slice ai ni ci, .slice sa ns sc, U64 bl] ++ cu8 tg ++ [U64 eq], 40, (0, 0)⟩, ⟨gqi, cu8 oqi ++ spqi, 5, (0, 0)⟩]
  refine AI (AI (AC (AA _ (AM rfl) rfl ?_)))
  refine AA (Ptr nb1 2) (AB 2 23 1 AJ rfl BI rfl rfl) rfl ?_
  refine AA (.slice aiq niq ciq) (AL rfl (AV BL (AY 0 rfl (AH (AH (AG (AG (Seg.head)))))))) rfl ?_
  refine AA (I64 niq) (C9 A8 rfl) rfl ?_
  refine AA (.bool (decide (((i:Int)) < ((niq:Int))))) (AQ rfl rfl fun _ => CX _ _) rfl ?_
  refine AK (AE (BZ (decide (((i:Int)) < ((niq:Int)))) rfl (fun hb2 => ?_) (fun hb2 => ?_)))
  ·
   have hp2 : ((i:Int)) < ((niq:Int)) := of_decide_eq_true hb2
   refine BM (AE (AI (BY (AC (AA _ (AM rfl) rfl ?_)))))
   refine AA (Ptr nb1 2) (AB 2 23 1 AJ rfl BI rfl rfl) rfl ?_
   refine AA (.slice aiq niq ciq) (AL rfl (AV BL (AY 0 rfl (AH (AH (AG (AG (Seg.head)))))))) rfl ?_
   refine AA _ (AM rfl) rfl ?_
   obtain ⟨bz2, oz2, hz2, hm2⟩ := RdV.pos hvq (by rw [EB, hlq]; omega)
   refine AA (Ptr bz2 (i + oz2)) (CU 22 1 (i + oz2) A8 AP rfl hz2 rfl (by omega) (by omega) (by omega)) rfl ?_
   refine AA (U64 (g64 lq i)) (AL rfl (AV AR (C3 (hm2.mem (by simp)) (Seg.get (E4 (i := i) (by rw [hlq]; omega))) (by omega)))) rfl ?_
   refine BG (BV 88 [U64 (g64 lq i), I64 4] _ (A5 _ CW rfl) (fun w1 hw1 => DE (g64 lq i) 4 w1 (by omega))) rfl ?_
   rintro v1 L1 ⟨_, ⟨nb18, rfl, rfl⟩, rfl⟩
   show JL _ _ _ _ ((46, Slc nb18 0 4 4) :: _) [_, _, ⟨nb18, cu8 (numK 4 (g64 lq i) 4), 5, (0, 0)⟩]
   refine BG (B3 43 5 [false, true, false] (Slc gqi 0 (4*i + 18) cpqi) (4*i + 18) oqi (numK 4 (g64 lq i) 4) (some ⟨nb18, 0, none⟩) 4 4 (4*i + 22) AW B0 rfl (.inr ⟨gqi, spqi, cpqi, rfl, rfl, (by first | exact hi3 | simp [hi3]), hi4, (by omega), (by omega)⟩) rfl (by first | exact (show (numK 4 (g64 lq i) 4).length = 4 from BE _ _ _) | simp [(show (numK 4 (g64 lq i) 4).length = 4 from BE _ _ _)]; try omega) (SrcAt.mem (AY 2 rfl (A1 _))) (by omega) (by unfold maxLen; omega) (by omega)) rfl ?_
   rintro v1 L1 ⟨nb19, sp8, cp8, hg8, rfl, rfl, ha29, ha30, ha31, ha32⟩
   show JL _ _ _ _ ((47, Slc nb19 0 (4*i + 22) cp8) :: _) [_, _, ⟨nb19, cu8 (oqi ++ (numK 4 (g64 lq i) 4)) ++ sp8, 5, (0, 0)⟩]
   refine AA _ (AF rfl) rfl ?_
   refine AK (BR (AE (AC (AA _ (AM rfl) rfl ?_))))
   refine AA (I64 ((i:Int) + 1)) (AQ rfl rfl fun _ => DV _ _ ((i:Int) + 1) (by omega) (by omega)) rfl ?_
   refine AA _ (AF rfl) rfl ?_
   refine AK (DU (BF [true, false, true] ?_))
   show K _ _ [_, _] _
   refine EM (i + 1, oqi ++ (numK 4 (g64 lq i) 4), nb19, sp8, cp8) ⟨by omega, by rw [hi2, idxT_succ, List.append_assoc], (by have h := ha29; omega), (by have h := ha30; omega), by omega, by omega⟩ (by first | (simp; omega) | simp | (dsimp only; omega) | omega) (Sub.cons rfl (Sub.cons rfl (Sub.cons rfl (Sub.cons (some_slc (by omega)) (Sub.nil))))) rfl
  ·
   have hp2 : ¬ (((i:Int)) < ((niq:Int))) := of_decide_eq_false hb2
   refine EH (BX (BX (DH (BR (AE (AI (AC (AA _ (AM rfl) rfl ?_))))))))
   refine AA _ (AF rfl) rfl ?_
   refine AK (AE (BA (BF [false, true] ?_)))
   show JQ _ _ _ _ [_]
   refine A9 (Slc gqi 0 (4*i + 18) cpqi) (res1 DT (A7 rfl)) fun w1 hw1 => ?_
   have hi7 : niq = i := by omega
   subst hi7
   have hq : oqi = (((numK 8 sq 8 ++ numK 1 (1:UInt64) 1) ++ numK 8 eq 8) ++ numK 1 (UInt64.ofNat (niq - 1)) 1) ++ idxT lq niq := by rw [hi2, EO, nkL1]
   rw [hq] at hw1
   exact ⟨_, _, rfl, ⟨gqi, spqi, cpqi, rfl, rfl, hi4, hi5, hi6⟩, hw1.sub (by simp) (by simp)⟩
theorem rputReq2_c (sq : UInt64) (aiq : Option Addr) (niq ciq : Nat) (lq : List UInt64) (fs : UInt64) (mn : Nat) (pv ep : UInt64) (kd : Int) (ai : Option Addr) (ni ci : Nat) (l : List UInt64) (sa : Option Addr) (ns sc : Nat) (ls : List SealR) (bl : UInt64) (tg : List UInt8) (eq : UInt64)  (w : World) (hlq : lq.length = niq) (hnmq : niq ≤ 2000000) (hncq : niq ≤ ciq) (hcmq : ciq ≤ maxLen) (hvq : RdV w aiq (cu64 lq)) (hl : l.length = ni) (hnm : ni ≤ 2000000) (hnc : ni ≤ ci) (hcm : ci ≤ maxLen) (hv : RdV w ai (cu64 l)) (hls : ls.length = ns) (hnn : ns ≤ 2000000) (hnd : ns ≤ sc) (hcn : sc ≤ maxLen) (hs : RdV w sa (ls.flatMap sealC)) (htg : tg.length = 16) (hbi : ni ≤ 300) (hbs : ns ≤ 300) (hR : reqR (2:Int) lq fs mn eq (blankB pv ep kd l ls bl tg) (decide (mayN pv ep kd l ls bl = 0)) = true)  : Calls Tryd.prog 25 #[.agg ([U64 sq, I64 2, .slice aiq niq ciq, U64 fs, I64 mn, U64 pv, U64 ep, I64 (kd), .slice ai ni ci, .slice sa ns sc, U64 bl] ++ cu8 tg ++ [U64 eq]).toArray] w (Post w [] (fun v L => ∃ g sp cap, v = Slc g 0 (22) cap ∧ L = [⟨g, cu8 ((((numK 8 sq 8 ++ numK 1 (2:UInt64) 1) ++ numK 8 eq 8) ++ numK 4 fs 4) ++ numK 1 (UInt64.ofNat (mn - 1)) 1) ++ sp, 5, (0, 0)⟩] ∧ sp.length = cap - (22) ∧ 22 ≤ cap ∧ cap ≤ maxLen)) := by
 have hmx : maxLen = 9223372036854775807 := rfl
 have hSp := reqR_two hR
 have hSb := span_bd hSp
 refine enter (P := Tryd.prog) (f := 25) (fn := Tryd.f25) w [] 69 [] [.agg ([U64 sq, I64 2, .slice aiq niq ciq, U64 fs, I64 mn, U64 pv, U64 ep, I64 (kd), .slice ai ni ci, .slice sa ns sc, U64 bl] ++ cu8 tg ++ [U64 eq]).toArray] Tryd.func25 rfl rfl (by simp) (B2 (by simp) (by simp) (by simp)) ?_
 show JC _ _ _ [(0, .agg ([U64 sq, I64 2, .slice aiq niq ciq, U64 fs, I64 mn, U64 pv, U64 ep, I64 (kd), .slice ai ni ci, .slice sa ns sc, U64 bl] ++ cu8 tg ++ [U64 eq]).toArray)] _
 refine AI (AC (BG (CE (.agg ([U64 sq, I64 2, .slice aiq niq ciq, U64 fs, I64 mn, U64 pv, U64 ep, I64 (kd), .slice ai ni ci, .slice sa ns sc, U64 bl] ++ cu8 tg ++ [U64 eq]).toArray) ([U64 sq, I64 2, .slice aiq niq ciq, U64 fs, I64 mn, U64 pv, U64 ep, I64 (kd), .slice ai ni ci, .slice sa ns sc, U64 bl] ++ cu8 tg ++ [U64 eq]) rfl (by first | rfl | simp)) rfl ?_))
 rintro v1 L1 ⟨nb1, hnb1, rfl, rfl⟩
 show JL _ _ _ _ ((1, Ptr nb1 0) :: _) [⟨nb1, [U64 sq, I64 2, .slice aiq niq ciq, U64 fs, I64 mn, U64 pv, U64 ep, I64 (kd), .slice ai ni ci, .slice sa ns sc, U64 bl] ++ cu8 tg ++ [U64 eq], 40, (0, 0)⟩]
 refine AA _ (AF rfl) rfl ?_
 refine AK (AE (AI (DC 69 4 [(0, Ptr nb1 0), (1, U64 sq), (3, Ptr nb1 1), (4, I64 2), (5, U8 2)] B9 rfl (by decide +kernel) ?_)))
 refine DP_two ⟨[], [0, 1, 3, 4, 5], [], [0, 1, 3, 4, 5], [2, 6]⟩ 2 6 _ _ rfl rfl (by decide +kernel) rfl ⟨⟨_, rfl, AO rfl (AB 0 22 1 AJ rfl AP rfl rfl)⟩, ⟨_, rfl, AO rfl (AL rfl (AV AR (AY 0 rfl (AH (AH (Seg.head))))))⟩, ⟨_, rfl, AO rfl (AB 1 3 1 AJ rfl AT rfl rfl)⟩, ⟨_, rfl, AO rfl (AL rfl (AV AX (AY 0 rfl (AH (AH (AG (Seg.head)))))))⟩, ⟨_, rfl, AO rfl (DA _ _ rfl fun _ => EE (by rw [BO]; rfl) BU rfl)⟩, trivial⟩ rfl rfl (BJ rfl (BV 88 [U64 sq, I64 8] _ (A5 _ CW rfl) (fun w1 hw1 => DE sq 8 w1 (by omega)))) (BJ rfl (B7 5 1 _ [(0, U8 2)] (cu8 ([(2:UInt8)])) AW B4 CD rfl rfl rfl (by kernel_rfl))) ?_ ?_
 ·
  rintro v1 L1 ⟨_, ⟨nb2, rfl, rfl⟩, rfl⟩
  refine ⟨[], ?_⟩
  show DP _ _ _ _ _ _ _ _ [_, ⟨nb2, cu8 (numK 8 sq 8), 5, (0, 0)⟩]
  refine CP ⟨[2], [0, 1, 3, 4, 5], [0, 1], [3, 4, 5], [6]⟩ 6 _ rfl rfl (by decide +kernel) rfl ⟨⟨_, rfl, AO rfl (AB 1 3 1 AJ rfl AT rfl rfl)⟩, ⟨_, rfl, AO rfl (AL rfl (AV AX (AY 0 rfl (AH (AH (AG (Seg.head)))))))⟩, ⟨_, rfl, AO rfl (DA _ _ rfl fun _ => EE (by rw [BO]; rfl) BU rfl)⟩, trivial⟩ rfl (BJ rfl (B7 5 1 _ [(0, U8 2)] (cu8 ([(2:UInt8)])) AW B4 CD rfl rfl rfl (by kernel_rfl))) ?_
  rintro v1 L1 ⟨nb4, hnb4, rfl, rfl⟩
  refine ⟨[], ?_⟩
  show DP _ _ _ _ _ _ _ _ [_, _, ⟨nb4, cu8 ([(2:UInt8)]), 5, (0, 0)⟩]
  refine CP ⟨[2, 6], [0, 1, 3, 4, 5], [0, 1, 3, 4, 5], [], [7]⟩ 7 _ rfl rfl (by decide +kernel) rfl trivial rfl (BJ rfl (B3 43 5 [false, true, false] (Slc nb2 0 8 8) 8 (numK 8 sq 8) ([(2:UInt8)]) (some ⟨nb4, 0, none⟩) 1 1 9 AW B0 rfl (.inr ⟨nb2, [], 8, rfl, (by simp [take?, cu8, cu32, cu64]), (by first | exact (show (numK 8 sq 8).length = 8 from BE _ _ _) | simp [(show (numK 8 sq 8).length = 8 from BE _ _ _)]), (by simp), (by omega), (by unfold maxLen; omega)⟩) rfl (by simp) (SrcAt.mem (AY 2 rfl (A1 _))) (by omega) (by unfold maxLen; omega) (by omega))) ?_
  rintro v1 L1 ⟨nb5, sp1, cp1, hg1, rfl, rfl, ha1, ha2, ha3, ha4⟩
  refine ⟨[(8, Slc nb5 0 9 cp1)], ?_⟩
  show DP _ _ _ _ _ _ _ _ [_, _, ⟨nb5, cu8 ((numK 8 sq 8) ++ ([(2:UInt8)])) ++ sp1, 5, (0, 0)⟩]
  refine DK ⟨[2, 6, 7], [0, 1, 3, 4, 5, 8], [0, 1, 3, 4, 5], [8], []⟩ rfl rfl (by decide +kernel) rfl ⟨⟨_, rfl, AO rfl (AF rfl)⟩, trivial⟩ ?_
  refine CY (F' := [(3, Slc nb5 0 9 cp1), (1, Ptr nb1 0), (2, .slice none 0 0)]) (by kernel_rfl) ?_
  refine AE (AI (AI (AC (AA (Ptr nb1 1) (AB 1 3 1 AJ rfl AT rfl rfl) rfl ?_))))
  refine AA (I64 2) (AL rfl (AV AX (AY 0 rfl (AH (AH (AG (Seg.head))))))) rfl ?_
  refine AA (.bool (decide ((2:Int) ≠ (3:Int)))) (AQ rfl rfl fun _ => DI _ _) rfl ?_
  refine AK (AE (B5 _ rfl (by decide) ?_))
  refine AC (AA _ (AM rfl) rfl ?_)
  refine AA (Ptr nb1 27) (AB 27 22 1 AJ rfl AP rfl rfl) rfl ?_
  refine AA (U64 eq) (AL rfl (AV AR (AY 0 rfl (Seg.right 27 0 (by simp [htg]) rfl (Seg.head))))) rfl ?_
  refine BG (BV 88 [U64 eq, I64 8] _ (A5 _ CW rfl) (fun w1 hw1 => DE eq 8 w1 (by omega))) rfl ?_
  rintro v1 L1 ⟨_, ⟨nb6, rfl, rfl⟩, rfl⟩
  show JL _ _ _ _ ((19, Slc nb6 0 8 8) :: _) [_, _, _, ⟨nb6, cu8 (numK 8 eq 8), 5, (0, 0)⟩]
  refine BG (B3 43 5 [false, false, true, false] (Slc nb5 0 9 cp1) 9 ((numK 8 sq 8) ++ ([(2:UInt8)])) (numK 8 eq 8) (some ⟨nb6, 0, none⟩) 8 8 17 AW B0 rfl (.inr ⟨nb5, sp1, cp1, rfl, rfl, (by first | exact ha1 | simp [ha1]), ha2, (by omega), (by omega)⟩) rfl (by first | exact (show (numK 8 eq 8).length = 8 from BE _ _ _) | simp [(show (numK 8 eq 8).length = 8 from BE _ _ _)]; try omega) (SrcAt.mem (AY 3 rfl (A1 _))) (by omega) (by unfold maxLen; omega) (by omega)) rfl ?_
  rintro v1 L1 ⟨nb7, sp2, cp2, hg2, rfl, rfl, ha5, ha6, ha7, ha8⟩
  show JL _ _ _ _ ((20, Slc nb7 0 17 cp2) :: _) [_, _, _, ⟨nb7, cu8 (((numK 8 sq 8) ++ ([(2:UInt8)])) ++ (numK 8 eq 8)) ++ sp2, 5, (0, 0)⟩]
  refine AA _ (AF rfl) rfl ?_
  refine AK (AE (AI (AI (AC (AA (Ptr nb1 1) (AB 1 3 1 AJ rfl AT rfl rfl) rfl ?_)))))
  refine AA (I64 2) (AL rfl (AV AX (AY 0 rfl (AH (AH (AG (Seg.head))))))) rfl ?_
  refine AK (AE (BY (AI (AC (AA (.bool (decide ((2:Int) = (1:Int)))) (AQ rfl rfl fun _ => A4 _ _) rfl ?_)))))
  refine AA _ (AF rfl) rfl ?_
  refine AK (AE (BT _ rfl (by decide) ?_))
  refine AI (AC (AA (.bool (decide ((2:Int) = (2:Int)))) (AQ rfl rfl fun _ => A4 _ _) rfl ?_))
  refine AA _ (AF rfl) rfl ?_
  refine AK (AE (B5 _ rfl (by decide) ?_))
  refine DC 69 5 [(0, Slc nb7 0 17 cp2), (1, Ptr nb1 3), (2, U64 fs), (5, Ptr nb1 4), (6, I64 mn), (7, I64 ((mn:Int) - 1)), (8, U8 (UInt8.ofNat (mn - 1)))] B9 rfl (by decide +kernel) ?_
  refine DP_two ⟨[], [0, 1, 2, 5, 6, 7, 8], [], [0, 1, 2, 5, 6, 7, 8], [3, 9]⟩ 3 9 _ _ rfl rfl (by decide +kernel) rfl ⟨CK rfl rfl rfl, ⟨_, rfl, AO rfl (AB 3 22 1 AJ rfl AP rfl rfl)⟩, ⟨_, rfl, AO rfl (AL rfl (AV AR (AY 0 rfl (AH (AH (AG (AG (AG (Seg.head)))))))))⟩, ⟨_, rfl, AO rfl (AB 4 3 1 AJ rfl AT rfl rfl)⟩, ⟨_, rfl, AO rfl (AL rfl (AV AX (AY 0 rfl (AH (AH (AG (AG (AG (AG (Seg.head))))))))))⟩, ⟨_, rfl, AO rfl (AQ rfl rfl fun _ => DL _ _ ((mn:Int) - 1) (by omega) (by omega))⟩, ⟨_, rfl, AO rfl (DA _ _ rfl fun _ => EI (by rw [BO]; rfl) BU (mn - 1) _ (by omega))⟩, trivial⟩ rfl rfl (BJ rfl (BV 88 [U64 fs, I64 4] _ (A5 _ CW rfl) (fun w1 hw1 => DE fs 4 w1 (by omega)))) (BJ rfl (B7 5 1 _ [(0, U8 (UInt8.ofNat (mn - 1)))] (cu8 ([UInt8.ofNat (mn - 1)])) AW B4 CD rfl rfl rfl (by kernel_rfl))) ?_ ?_
  ·
   rintro v1 L1 ⟨_, ⟨nb8, rfl, rfl⟩, rfl⟩
   refine ⟨[], ?_⟩
   show DP _ _ _ _ _ _ _ _ [_, _, _, _, ⟨nb8, cu8 (numK 4 fs 4), 5, (0, 0)⟩]
   refine DP_two ⟨[3], [0, 1, 2, 5, 6, 7, 8], [1, 2], [0, 5, 6, 7, 8], [4, 9]⟩ 4 9 _ _ rfl rfl (by decide +kernel) rfl ⟨CK rfl rfl rfl, ⟨_, rfl, AO rfl (AB 4 3 1 AJ rfl AT rfl rfl)⟩, ⟨_, rfl, AO rfl (AL rfl (AV AX (AY 0 rfl (AH (AH (AG (AG (AG (AG (Seg.head))))))))))⟩, ⟨_, rfl, AO rfl (AQ rfl rfl fun _ => DL _ _ ((mn:Int) - 1) (by omega) (by omega))⟩, ⟨_, rfl, AO rfl (DA _ _ rfl fun _ => EI (by rw [BO]; rfl) BU (mn - 1) _ (by omega))⟩, trivial⟩ rfl rfl (BJ rfl (B3 43 5 [false, false, false, true, false] (Slc nb7 0 17 cp2) 17 (((numK 8 sq 8) ++ ([(2:UInt8)])) ++ (numK 8 eq 8)) (numK 4 fs 4) (some ⟨nb8, 0, none⟩) 4 4 21 AW B0 rfl (.inr ⟨nb7, sp2, cp2, rfl, rfl, (by first | exact ha5 | simp [ha5]), ha6, (by omega), (by omega)⟩) rfl (by first | exact (show (numK 4 fs 4).length = 4 from BE _ _ _) | simp [(show (numK 4 fs 4).length = 4 from BE _ _ _)]; try omega) (SrcAt.mem (AY 4 rfl (A1 _))) (by omega) (by unfold maxLen; omega) (by omega))) (BJ rfl (B7 5 1 _ [(0, U8 (UInt8.ofNat (mn - 1)))] (cu8 ([UInt8.ofNat (mn - 1)])) AW B4 CD rfl rfl rfl (by kernel_rfl))) ?_ ?_
   ·
    rintro v1 L1 ⟨nb10, sp3, cp3, hg3, rfl, rfl, ha9, ha10, ha11, ha12⟩
    refine ⟨[], ?_⟩
    show DP _ _ _ _ _ _ _ _ [_, _, _, _, ⟨nb10, cu8 ((((numK 8 sq 8) ++ ([(2:UInt8)])) ++ (numK 8 eq 8)) ++ (numK 4 fs 4)) ++ sp3, 5, (0, 0)⟩]
    refine CP ⟨[3, 4], [0, 1, 2, 5, 6, 7, 8], [0, 1, 2], [5, 6, 7, 8], [9]⟩ 9 _ rfl rfl (by decide +kernel) rfl ⟨⟨_, rfl, AO rfl (AB 4 3 1 AJ rfl AT rfl rfl)⟩, ⟨_, rfl, AO rfl (AL rfl (AV AX (AY 0 rfl (AH (AH (AG (AG (AG (AG (Seg.head))))))))))⟩, ⟨_, rfl, AO rfl (AQ rfl rfl fun _ => DL _ _ ((mn:Int) - 1) (by omega) (by omega))⟩, ⟨_, rfl, AO rfl (DA _ _ rfl fun _ => EI (by rw [BO]; rfl) BU (mn - 1) _ (by omega))⟩, trivial⟩ rfl (BJ rfl (B7 5 1 _ [(0, U8 (UInt8.ofNat (mn - 1)))] (cu8 ([UInt8.ofNat (mn - 1)])) AW B4 CD rfl rfl rfl (by kernel_rfl))) ?_
    rintro v1 L1 ⟨nb12, hnb12, rfl, rfl⟩
    refine ⟨[], ?_⟩
    show DP _ _ _ _ _ _ _ _ [_, _, _, _, _, ⟨nb12, cu8 ([UInt8.ofNat (mn - 1)]), 5, (0, 0)⟩]
    refine CP ⟨[3, 4, 9], [0, 1, 2, 5, 6, 7, 8], [0, 1, 2, 5, 6, 7, 8], [], [10]⟩ 10 _ rfl rfl (by decide +kernel) rfl trivial rfl (BJ rfl (B3 43 5 [false, false, false, false, true, false] (Slc nb10 0 21 cp3) 21 ((((numK 8 sq 8) ++ ([(2:UInt8)])) ++ (numK 8 eq 8)) ++ (numK 4 fs 4)) ([UInt8.ofNat (mn - 1)]) (some ⟨nb12, 0, none⟩) 1 1 22 AW B0 rfl (.inr ⟨nb10, sp3, cp3, rfl, rfl, (by first | exact ha9 | simp [ha9]), ha10, (by omega), (by omega)⟩) rfl (by simp) (SrcAt.mem (AY 5 rfl (A1 _))) (by omega) (by unfold maxLen; omega) (by omega))) ?_
    rintro v1 L1 ⟨nb13, sp4, cp4, hg4, rfl, rfl, ha13, ha14, ha15, ha16⟩
    refine ⟨[(11, Slc nb13 0 22 cp4)], ?_⟩
    show DP _ _ _ _ _ _ _ _ [_, _, _, _, _, ⟨nb13, cu8 (((((numK 8 sq 8) ++ ([(2:UInt8)])) ++ (numK 8 eq 8)) ++ (numK 4 fs 4)) ++ ([UInt8.ofNat (mn - 1)])) ++ sp4, 5, (0, 0)⟩]
    refine DK ⟨[3, 4, 9, 10], [0, 1, 2, 5, 6, 7, 8, 11], [0, 1, 2, 5, 6, 7, 8], [11], []⟩ rfl rfl (by decide +kernel) rfl ⟨⟨_, rfl, AO rfl (AF rfl)⟩, trivial⟩ ?_
    refine CY (F' := [(3, Slc nb13 0 22 cp4), (2, .slice none 0 0)]) (by kernel_rfl) ?_
    refine BR (AE (AI (AC (AA _ (AM rfl) rfl ?_))))
    refine AA _ (AF rfl) rfl ?_
    refine AK (AE (BA (BF [false, false, false, false, false, true] ?_)))
    show JQ _ _ _ _ [_]
    refine A9 (Slc nb13 0 22 cp4) (res1 DT (A7 rfl)) fun w1 hw1 => ?_
    have hq : ((((numK 8 sq 8) ++ ([(2:UInt8)])) ++ (numK 8 eq 8)) ++ (numK 4 fs 4)) ++ ([UInt8.ofNat (mn - 1)]) = (((numK 8 sq 8 ++ numK 1 (2:UInt64) 1) ++ numK 8 eq 8) ++ numK 4 fs 4) ++ numK 1 (UInt64.ofNat (mn - 1)) 1 := by rw [EO, nkL2]
    rw [hq] at hw1
    exact ⟨_, _, rfl, ⟨nb13, sp4, cp4, rfl, rfl, ha14, ha15, ha16⟩, hw1.sub (by simp) (by simp)⟩
   ·
    rintro v1 L1 ⟨nb11, hnb11, rfl, rfl⟩
    refine ⟨[], ?_⟩
    show DP _ _ _ _ _ _ _ _ [_, _, _, _, _, ⟨nb11, cu8 ([UInt8.ofNat (mn - 1)]), 5, (0, 0)⟩]
    refine CP ⟨[3, 9], [0, 1, 2, 5, 6, 7, 8], [1, 2, 5, 6, 7, 8], [0], [4]⟩ 4 _ rfl rfl (by decide +kernel) rfl ⟨CK rfl rfl rfl, trivial⟩ rfl (BJ rfl (B3 43 5 [false, false, false, true, false, false] (Slc nb7 0 17 cp2) 17 (((numK 8 sq 8) ++ ([(2:UInt8)])) ++ (numK 8 eq 8)) (numK 4 fs 4) (some ⟨nb8, 0, none⟩) 4 4 21 AW B0 rfl (.inr ⟨nb7, sp2, cp2, rfl, rfl, (by first | exact ha5 | simp [ha5]), ha6, (by omega), (by omega)⟩) rfl (by first | exact (show (numK 4 fs 4).length = 4 from BE _ _ _) | simp [(show (numK 4 fs 4).length = 4 from BE _ _ _)]; try omega) (SrcAt.mem (AY 4 rfl (A1 _))) (by omega) (by unfold maxLen; omega) (by omega))) ?_
    rintro v1 L1 ⟨nb14, sp5, cp5, hg5, rfl, rfl, ha17, ha18, ha19, ha20⟩
    refine ⟨[], ?_⟩
    show DP _ _ _ _ _ _ _ _ [_, _, _, _, _, ⟨nb14, cu8 ((((numK 8 sq 8) ++ ([(2:UInt8)])) ++ (numK 8 eq 8)) ++ (numK 4 fs 4)) ++ sp5, 5, (0, 0)⟩]
    refine CP ⟨[3, 9, 4], [0, 1, 2, 5, 6, 7, 8], [0, 1, 2, 5, 6, 7, 8], [], [10]⟩ 10 _ rfl rfl (by decide +kernel) rfl trivial rfl (BJ rfl (B3 43 5 [false, false, false, false, false, true] (Slc nb14 0 21 cp5) 21 ((((numK 8 sq 8) ++ ([(2:UInt8)])) ++ (numK 8 eq 8)) ++ (numK 4 fs 4)) ([UInt8.ofNat (mn - 1)]) (some ⟨nb11, 0, none⟩) 1 1 22 AW B0 rfl (.inr ⟨nb14, sp5, cp5, rfl, rfl, (by first | exact ha17 | simp [ha17]), ha18, (by omega), (by omega)⟩) rfl (by simp) (SrcAt.mem (AY 4 rfl (A1 _))) (by omega) (by unfold maxLen; omega) (by omega))) ?_
    rintro v1 L1 ⟨nb15, sp6, cp6, hg6, rfl, rfl, ha21, ha22, ha23, ha24⟩
    refine ⟨[(11, Slc nb15 0 22 cp6)], ?_⟩
    show DP _ _ _ _ _ _ _ _ [_, _, _, _, _, ⟨nb15, cu8 (((((numK 8 sq 8) ++ ([(2:UInt8)])) ++ (numK 8 eq 8)) ++ (numK 4 fs 4)) ++ ([UInt8.ofNat (mn - 1)])) ++ sp6, 5, (0, 0)⟩]
    refine DK ⟨[3, 9, 4, 10], [0, 1, 2, 5, 6, 7, 8, 11], [0, 1, 2, 5, 6, 7, 8], [11], []⟩ rfl rfl (by decide +kernel) rfl ⟨⟨_, rfl, AO rfl (AF rfl)⟩, trivial⟩ ?_
    refine CY (F' := [(3, Slc nb15 0 22 cp6), (2, .slice none 0 0)]) (by kernel_rfl) ?_
    refine BR (AE (AI (AC (AA _ (AM rfl) rfl ?_))))
    refine AA _ (AF rfl) rfl ?_
    refine AK (AE (BA (BF [false, false, false, false, false, true] ?_)))
    show JQ _ _ _ _ [_]
    refine A9 (Slc nb15 0 22 cp6) (res1 DT (A7 rfl)) fun w1 hw1 => ?_
    have hq : ((((numK 8 sq 8) ++ ([(2:UInt8)])) ++ (numK 8 eq 8)) ++ (numK 4 fs 4)) ++ ([UInt8.ofNat (mn - 1)]) = (((numK 8 sq 8 ++ numK 1 (2:UInt64) 1) ++ numK 8 eq 8) ++ numK 4 fs 4) ++ numK 1 (UInt64.ofNat (mn - 1)) 1 := by rw [EO, nkL2]
    rw [hq] at hw1
    exact ⟨_, _, rfl, ⟨nb15, sp6, cp6, rfl, rfl, ha22, ha23, ha24⟩, hw1.sub (by simp) (by simp)⟩
  ·
   rintro v1 L1 ⟨nb9, hnb9, rfl, rfl⟩
   refine ⟨[], ?_⟩
   show DP _ _ _ _ _ _ _ _ [_, _, _, _, ⟨nb9, cu8 ([UInt8.ofNat (mn - 1)]), 5, (0, 0)⟩]
   refine CP ⟨[9], [0, 1, 2, 5, 6, 7, 8], [5, 6, 7, 8], [0, 1, 2], [3]⟩ 3 _ rfl rfl (by decide +kernel) rfl ⟨CK rfl rfl rfl, ⟨_, rfl, AO rfl (AB 3 22 1 AJ rfl AP rfl rfl)⟩, ⟨_, rfl, AO rfl (AL rfl (AV AR (AY 0 rfl (AH (AH (AG (AG (AG (Seg.head)))))))))⟩, trivial⟩ rfl (BJ rfl (BV 88 [U64 fs, I64 4] _ (A5 _ CW rfl) (fun w1 hw1 => DE fs 4 w1 (by omega)))) ?_
   rintro v1 L1 ⟨_, ⟨nb16, rfl, rfl⟩, rfl⟩
   refine ⟨[], ?_⟩
   show DP _ _ _ _ _ _ _ _ [_, _, _, _, _, ⟨nb16, cu8 (numK 4 fs 4), 5, (0, 0)⟩]
   refine CP ⟨[9, 3], [0, 1, 2, 5, 6, 7, 8], [1, 2, 5, 6, 7, 8], [0], [4]⟩ 4 _ rfl rfl (by decide +kernel) rfl ⟨CK rfl rfl rfl, trivial⟩ rfl (BJ rfl (B3 43 5 [false, false, false, true, false, false] (Slc nb7 0 17 cp2) 17 (((numK 8 sq 8) ++ ([(2:UInt8)])) ++ (numK 8 eq 8)) (numK 4 fs 4) (some ⟨nb16, 0, none⟩) 4 4 21 AW B0 rfl (.inr ⟨nb7, sp2, cp2, rfl, rfl, (by first | exact ha5 | simp [ha5]), ha6, (by omega), (by omega)⟩) rfl (by first | exact (show (numK 4 fs 4).length = 4 from BE _ _ _) | simp [(show (numK 4 fs 4).length = 4 from BE _ _ _)]; try omega) (SrcAt.mem (AY 5 rfl (A1 _))) (by omega) (by unfold maxLen; omega) (by omega))) ?_
   rintro v1 L1 ⟨nb17, sp7, cp7, hg7, rfl, rfl, ha25, ha26, ha27, ha28⟩
   refine ⟨[], ?_⟩
   show DP _ _ _ _ _ _ _ _ [_, _, _, _, _, ⟨nb17, cu8 ((((numK 8 sq 8) ++ ([(2:UInt8)])) ++ (numK 8 eq 8)) ++ (numK 4 fs 4)) ++ sp7, 5, (0, 0)⟩]
   refine CP ⟨[9, 3, 4], [0, 1, 2, 5, 6, 7, 8], [0, 1, 2, 5, 6, 7, 8], [], [10]⟩ 10 _ rfl rfl (by decide +kernel) rfl trivial rfl (BJ rfl (B3 43 5 [false, false, false, false, false, true] (Slc nb17 0 21 cp7) 21 ((((numK 8 sq 8) ++ ([(2:UInt8)])) ++ (numK 8 eq 8)) ++ (numK 4 fs 4)) ([UInt8.ofNat (mn - 1)]) (some ⟨nb9, 0, none⟩) 1 1 22 AW B0 rfl (.inr ⟨nb17, sp7, cp7, rfl, rfl, (by first | exact ha25 | simp [ha25]), ha26, (by omega), (by omega)⟩) rfl (by simp) (SrcAt.mem (AY 3 rfl (A1 _))) (by omega) (by unfold maxLen; omega) (by omega))) ?_
   rintro v1 L1 ⟨nb18, sp8, cp8, hg8, rfl, rfl, ha29, ha30, ha31, ha32⟩
   refine ⟨[(11, Slc nb18 0 22 cp8)], ?_⟩
   show DP _ _ _ _ _ _ _ _ [_, _, _, _, _, ⟨nb18, cu8 (((((numK 8 sq 8) ++ ([(2:UInt8)])) ++ (numK 8 eq 8)) ++ (numK 4 fs 4)) ++ ([UInt8.ofNat (mn - 1)])) ++ sp8, 5, (0, 0)⟩]
   refine DK ⟨[9, 3, 4, 10], [0, 1, 2, 5, 6, 7, 8, 11], [0, 1, 2, 5, 6, 7, 8], [11], []⟩ rfl rfl (by decide +kernel) rfl ⟨⟨_, rfl, AO rfl (AF rfl)⟩, trivial⟩ ?_
   refine CY (F' := [(3, Slc nb18 0 22 cp8), (2, .slice none 0 0)]) (by kernel_rfl) ?_
   refine BR (AE (AI (AC (AA _ (AM rfl) rfl ?_))))
   refine AA _ (AF rfl) rfl ?_
   refine AK (AE (BA (BF [false, false, false, false, false, true] ?_)))
   show JQ _ _ _ _ [_]
   refine A9 (Slc nb18 0 22 cp8) (res1 DT (A7 rfl)) fun w1 hw1 => ?_
   have hq : ((((numK 8 sq 8) ++ ([(2:UInt8)])) ++ (numK 8 eq 8)) ++ (numK 4 fs 4)) ++ ([UInt8.ofNat (mn - 1)]) = (((numK 8 sq 8 ++ numK 1 (2:UInt64) 1) ++ numK 8 eq 8) ++ numK 4 fs 4) ++ numK 1 (UInt64.ofNat (mn - 1)) 1 := by rw [EO, nkL2]
   rw [hq] at hw1
   exact ⟨_, _, rfl, ⟨nb18, sp8, cp8, rfl, rfl, ha30, ha31, ha32⟩, hw1.sub (by simp) (by simp)⟩
 ·
  rintro v1 L1 ⟨nb3, hnb3, rfl, rfl⟩
  refine ⟨[], ?_⟩
  show DP _ _ _ _ _ _ _ _ [_, ⟨nb3, cu8 ([(2:UInt8)]), 5, (0, 0)⟩]
  refine CP ⟨[6], [0, 1, 3, 4, 5], [3, 4, 5], [0, 1], [2]⟩ 2 _ rfl rfl (by decide +kernel) rfl ⟨⟨_, rfl, AO rfl (AB 0 22 1 AJ rfl AP rfl rfl)⟩, ⟨_, rfl, AO rfl (AL rfl (AV AR (AY 0 rfl (AH (AH (Seg.head))))))⟩, trivial⟩ rfl (BJ rfl (BV 88 [U64 sq, I64 8] _ (A5 _ CW rfl) (fun w1 hw1 => DE sq 8 w1 (by omega)))) ?_
  rintro v1 L1 ⟨_, ⟨nb19, rfl, rfl⟩, rfl⟩
  refine ⟨[], ?_⟩
  show DP _ _ _ _ _ _ _ _ [_, _, ⟨nb19, cu8 (numK 8 sq 8), 5, (0, 0)⟩]
  refine CP ⟨[6, 2], [0, 1, 3, 4, 5], [0, 1, 3, 4, 5], [], [7]⟩ 7 _ rfl rfl (by decide +kernel) rfl trivial rfl (BJ rfl (B3 43 5 [false, false, true] (Slc nb19 0 8 8) 8 (numK 8 sq 8) ([(2:UInt8)]) (some ⟨nb3, 0, none⟩) 1 1 9 AW B0 rfl (.inr ⟨nb19, [], 8, rfl, (by simp [take?, cu8, cu32, cu64]), (by first | exact (show (numK 8 sq 8).length = 8 from BE _ _ _) | simp [(show (numK 8 sq 8).length = 8 from BE _ _ _)]), (by simp), (by omega), (by unfold maxLen; omega)⟩) rfl (by simp) (SrcAt.mem (AY 1 rfl (A1 _))) (by omega) (by unfold maxLen; omega) (by omega))) ?_
  rintro v1 L1 ⟨nb20, sp9, cp9, hg9, rfl, rfl, ha33, ha34, ha35, ha36⟩
  refine ⟨[(8, Slc nb20 0 9 cp9)], ?_⟩
  show DP _ _ _ _ _ _ _ _ [_, _, ⟨nb20, cu8 ((numK 8 sq 8) ++ ([(2:UInt8)])) ++ sp9, 5, (0, 0)⟩]
  refine DK ⟨[6, 2, 7], [0, 1, 3, 4, 5, 8], [0, 1, 3, 4, 5], [8], []⟩ rfl rfl (by decide +kernel) rfl ⟨⟨_, rfl, AO rfl (AF rfl)⟩, trivial⟩ ?_
  refine CY (F' := [(3, Slc nb20 0 9 cp9), (1, Ptr nb1 0), (2, .slice none 0 0)]) (by kernel_rfl) ?_
  refine AE (AI (AI (AC (AA (Ptr nb1 1) (AB 1 3 1 AJ rfl AT rfl rfl) rfl ?_))))
  refine AA (I64 2) (AL rfl (AV AX (AY 0 rfl (AH (AH (AG (Seg.head))))))) rfl ?_
  refine AA (.bool (decide ((2:Int) ≠ (3:Int)))) (AQ rfl rfl fun _ => DI _ _) rfl ?_
  refine AK (AE (B5 _ rfl (by decide) ?_))
  refine AC (AA _ (AM rfl) rfl ?_)
  refine AA (Ptr nb1 27) (AB 27 22 1 AJ rfl AP rfl rfl) rfl ?_
  refine AA (U64 eq) (AL rfl (AV AR (AY 0 rfl (Seg.right 27 0 (by simp [htg]) rfl (Seg.head))))) rfl ?_
  refine BG (BV 88 [U64 eq, I64 8] _ (A5 _ CW rfl) (fun w1 hw1 => DE eq 8 w1 (by omega))) rfl ?_
  rintro v1 L1 ⟨_, ⟨nb21, rfl, rfl⟩, rfl⟩
  show JL _ _ _ _ ((19, Slc nb21 0 8 8) :: _) [_, _, _, ⟨nb21, cu8 (numK 8 eq 8), 5, (0, 0)⟩]
  refine BG (B3 43 5 [false, false, true, false] (Slc nb20 0 9 cp9) 9 ((numK 8 sq 8) ++ ([(2:UInt8)])) (numK 8 eq 8) (some ⟨nb21, 0, none⟩) 8 8 17 AW B0 rfl (.inr ⟨nb20, sp9, cp9, rfl, rfl, (by first | exact ha33 | simp [ha33]), ha34, (by omega), (by omega)⟩) rfl (by first | exact (show (numK 8 eq 8).length = 8 from BE _ _ _) | simp [(show (numK 8 eq 8).length = 8 from BE _ _ _)]; try omega) (SrcAt.mem (AY 3 rfl (A1 _))) (by omega) (by unfold maxLen; omega) (by omega)) rfl ?_
  rintro v1 L1 ⟨nb22, sp10, cp10, hg10, rfl, rfl, ha37, ha38, ha39, ha40⟩
  show JL _ _ _ _ ((20, Slc nb22 0 17 cp10) :: _) [_, _, _, ⟨nb22, cu8 (((numK 8 sq 8) ++ ([(2:UInt8)])) ++ (numK 8 eq 8)) ++ sp10, 5, (0, 0)⟩]
  refine AA _ (AF rfl) rfl ?_
  refine AK (AE (AI (AI (AC (AA (Ptr nb1 1) (AB 1 3 1 AJ rfl AT rfl rfl) rfl ?_)))))
  refine AA (I64 2) (AL rfl (AV AX (AY 0 rfl (AH (AH (AG (Seg.head))))))) rfl ?_
  refine AK (AE (BY (AI (AC (AA (.bool (decide ((2:Int) = (1:Int)))) (AQ rfl rfl fun _ => A4 _ _) rfl ?_)))))
  refine AA _ (AF rfl) rfl ?_
  refine AK (AE (BT _ rfl (by decide) ?_))
  refine AI (AC (AA (.bool (decide ((2:Int) = (2:Int)))) (AQ rfl rfl fun _ => A4 _ _) rfl ?_))
  refine AA _ (AF rfl) rfl ?_
  refine AK (AE (B5 _ rfl (by decide) ?_))
  refine DC 69 5 [(0, Slc nb22 0 17 cp10), (1, Ptr nb1 3), (2, U64 fs), (5, Ptr nb1 4), (6, I64 mn), (7, I64 ((mn:Int) - 1)), (8, U8 (UInt8.ofNat (mn - 1)))] B9 rfl (by decide +kernel) ?_
  refine DP_two ⟨[], [0, 1, 2, 5, 6, 7, 8], [], [0, 1, 2, 5, 6, 7, 8], [3, 9]⟩ 3 9 _ _ rfl rfl (by decide +kernel) rfl ⟨CK rfl rfl rfl, ⟨_, rfl, AO rfl (AB 3 22 1 AJ rfl AP rfl rfl)⟩, ⟨_, rfl, AO rfl (AL rfl (AV AR (AY 0 rfl (AH (AH (AG (AG (AG (Seg.head)))))))))⟩, ⟨_, rfl, AO rfl (AB 4 3 1 AJ rfl AT rfl rfl)⟩, ⟨_, rfl, AO rfl (AL rfl (AV AX (AY 0 rfl (AH (AH (AG (AG (AG (AG (Seg.head))))))))))⟩, ⟨_, rfl, AO rfl (AQ rfl rfl fun _ => DL _ _ ((mn:Int) - 1) (by omega) (by omega))⟩, ⟨_, rfl, AO rfl (DA _ _ rfl fun _ => EI (by rw [BO]; rfl) BU (mn - 1) _ (by omega))⟩, trivial⟩ rfl rfl (BJ rfl (BV 88 [U64 fs, I64 4] _ (A5 _ CW rfl) (fun w1 hw1 => DE fs 4 w1 (by omega)))) (BJ rfl (B7 5 1 _ [(0, U8 (UInt8.ofNat (mn - 1)))] (cu8 ([UInt8.ofNat (mn - 1)])) AW B4 CD rfl rfl rfl (by kernel_rfl))) ?_ ?_
  ·
   rintro v1 L1 ⟨_, ⟨nb23, rfl, rfl⟩, rfl⟩
   refine ⟨[], ?_⟩
   show DP _ _ _ _ _ _ _ _ [_, _, _, _, ⟨nb23, cu8 (numK 4 fs 4), 5, (0, 0)⟩]
   refine DP_two ⟨[3], [0, 1, 2, 5, 6, 7, 8], [1, 2], [0, 5, 6, 7, 8], [4, 9]⟩ 4 9 _ _ rfl rfl (by decide +kernel) rfl ⟨CK rfl rfl rfl, ⟨_, rfl, AO rfl (AB 4 3 1 AJ rfl AT rfl rfl)⟩, ⟨_, rfl, AO rfl (AL rfl (AV AX (AY 0 rfl (AH (AH (AG (AG (AG (AG (Seg.head))))))))))⟩, ⟨_, rfl, AO rfl (AQ rfl rfl fun _ => DL _ _ ((mn:Int) - 1) (by omega) (by omega))⟩, ⟨_, rfl, AO rfl (DA _ _ rfl fun _ => EI (by rw [BO]; rfl) BU (mn - 1) _ (by omega))⟩, trivial⟩ rfl rfl (BJ rfl (B3 43 5 [false, false, false, true, false] (Slc nb22 0 17 cp10) 17 (((numK 8 sq 8) ++ ([(2:UInt8)])) ++ (numK 8 eq 8)) (numK 4 fs 4) (some ⟨nb23, 0, none⟩) 4 4 21 AW B0 rfl (.inr ⟨nb22, sp10, cp10, rfl, rfl, (by first | exact ha37 | simp [ha37]), ha38, (by omega), (by omega)⟩) rfl (by first | exact (show (numK 4 fs 4).length = 4 from BE _ _ _) | simp [(show (numK 4 fs 4).length = 4 from BE _ _ _)]; try omega) (SrcAt.mem (AY 4 rfl (A1 _))) (by omega) (by unfold maxLen; omega) (by omega))) (BJ rfl (B7 5 1 _ [(0, U8 (UInt8.ofNat (mn - 1)))] (cu8 ([UInt8.ofNat (mn - 1)])) AW B4 CD rfl rfl rfl (by kernel_rfl))) ?_ ?_
   ·
    rintro v1 L1 ⟨nb25, sp11, cp11, hg11, rfl, rfl, ha41, ha42, ha43, ha44⟩
    refine ⟨[], ?_⟩
    show DP _ _ _ _ _ _ _ _ [_, _, _, _, ⟨nb25, cu8 ((((numK 8 sq 8) ++ ([(2:UInt8)])) ++ (numK 8 eq 8)) ++ (numK 4 fs 4)) ++ sp11, 5, (0, 0)⟩]
    refine CP ⟨[3, 4], [0, 1, 2, 5, 6, 7, 8], [0, 1, 2], [5, 6, 7, 8], [9]⟩ 9 _ rfl rfl (by decide +kernel) rfl ⟨⟨_, rfl, AO rfl (AB 4 3 1 AJ rfl AT rfl rfl)⟩, ⟨_, rfl, AO rfl (AL rfl (AV AX (AY 0 rfl (AH (AH (AG (AG (AG (AG (Seg.head))))))))))⟩, ⟨_, rfl, AO rfl (AQ rfl rfl fun _ => DL _ _ ((mn:Int) - 1) (by omega) (by omega))⟩, ⟨_, rfl, AO rfl (DA _ _ rfl fun _ => EI (by rw [BO]; rfl) BU (mn - 1) _ (by omega))⟩, trivial⟩ rfl (BJ rfl (B7 5 1 _ [(0, U8 (UInt8.ofNat (mn - 1)))] (cu8 ([UInt8.ofNat (mn - 1)])) AW B4 CD rfl rfl rfl (by kernel_rfl))) ?_
    rintro v1 L1 ⟨nb27, hnb27, rfl, rfl⟩
    refine ⟨[], ?_⟩
    show DP _ _ _ _ _ _ _ _ [_, _, _, _, _, ⟨nb27, cu8 ([UInt8.ofNat (mn - 1)]), 5, (0, 0)⟩]
    refine CP ⟨[3, 4, 9], [0, 1, 2, 5, 6, 7, 8], [0, 1, 2, 5, 6, 7, 8], [], [10]⟩ 10 _ rfl rfl (by decide +kernel) rfl trivial rfl (BJ rfl (B3 43 5 [false, false, false, false, true, false] (Slc nb25 0 21 cp11) 21 ((((numK 8 sq 8) ++ ([(2:UInt8)])) ++ (numK 8 eq 8)) ++ (numK 4 fs 4)) ([UInt8.ofNat (mn - 1)]) (some ⟨nb27, 0, none⟩) 1 1 22 AW B0 rfl (.inr ⟨nb25, sp11, cp11, rfl, rfl, (by first | exact ha41 | simp [ha41]), ha42, (by omega), (by omega)⟩) rfl (by simp) (SrcAt.mem (AY 5 rfl (A1 _))) (by omega) (by unfold maxLen; omega) (by omega))) ?_
    rintro v1 L1 ⟨nb28, sp12, cp12, hg12, rfl, rfl, ha45, ha46, ha47, ha48⟩
    refine ⟨[(11, Slc nb28 0 22 cp12)], ?_⟩
    show DP _ _ _ _ _ _ _ _ [_, _, _, _, _, ⟨nb28, cu8 (((((numK 8 sq 8) ++ ([(2:UInt8)])) ++ (numK 8 eq 8)) ++ (numK 4 fs 4)) ++ ([UInt8.ofNat (mn - 1)])) ++ sp12, 5, (0, 0)⟩]
    refine DK ⟨[3, 4, 9, 10], [0, 1, 2, 5, 6, 7, 8, 11], [0, 1, 2, 5, 6, 7, 8], [11], []⟩ rfl rfl (by decide +kernel) rfl ⟨⟨_, rfl, AO rfl (AF rfl)⟩, trivial⟩ ?_
    refine CY (F' := [(3, Slc nb28 0 22 cp12), (2, .slice none 0 0)]) (by kernel_rfl) ?_
    refine BR (AE (AI (AC (AA _ (AM rfl) rfl ?_))))
    refine AA _ (AF rfl) rfl ?_
    refine AK (AE (BA (BF [false, false, false, false, false, true] ?_)))
    show JQ _ _ _ _ [_]
    refine A9 (Slc nb28 0 22 cp12) (res1 DT (A7 rfl)) fun w1 hw1 => ?_
    have hq : ((((numK 8 sq 8) ++ ([(2:UInt8)])) ++ (numK 8 eq 8)) ++ (numK 4 fs 4)) ++ ([UInt8.ofNat (mn - 1)]) = (((numK 8 sq 8 ++ numK 1 (2:UInt64) 1) ++ numK 8 eq 8) ++ numK 4 fs 4) ++ numK 1 (UInt64.ofNat (mn - 1)) 1 := by rw [EO, nkL2]
    rw [hq] at hw1
    exact ⟨_, _, rfl, ⟨nb28, sp12, cp12, rfl, rfl, ha46, ha47, ha48⟩, hw1.sub (by simp) (by simp)⟩
   ·
    rintro v1 L1 ⟨nb26, hnb26, rfl, rfl⟩
    refine ⟨[], ?_⟩
    show DP _ _ _ _ _ _ _ _ [_, _, _, _, _, ⟨nb26, cu8 ([UInt8.ofNat (mn - 1)]), 5, (0, 0)⟩]
    refine CP ⟨[3, 9], [0, 1, 2, 5, 6, 7, 8], [1, 2, 5, 6, 7, 8], [0], [4]⟩ 4 _ rfl rfl (by decide +kernel) rfl ⟨CK rfl rfl rfl, trivial⟩ rfl (BJ rfl (B3 43 5 [false, false, false, true, false, false] (Slc nb22 0 17 cp10) 17 (((numK 8 sq 8) ++ ([(2:UInt8)])) ++ (numK 8 eq 8)) (numK 4 fs 4) (some ⟨nb23, 0, none⟩) 4 4 21 AW B0 rfl (.inr ⟨nb22, sp10, cp10, rfl, rfl, (by first | exact ha37 | simp [ha37]), ha38, (by omega), (by omega)⟩) rfl (by first | exact (show (numK 4 fs 4).length = 4 from BE _ _ _) | simp [(show (numK 4 fs 4).length = 4 from BE _ _ _)]; try omega) (SrcAt.mem (AY 4 rfl (A1 _))) (by omega) (by unfold maxLen; omega) (by omega))) ?_
    rintro v1 L1 ⟨nb29, sp13, cp13, hg13, rfl, rfl, ha49, ha50, ha51, ha52⟩
    refine ⟨[], ?_⟩
    show DP _ _ _ _ _ _ _ _ [_, _, _, _, _, ⟨nb29, cu8 ((((numK 8 sq 8) ++ ([(2:UInt8)])) ++ (numK 8 eq 8)) ++ (numK 4 fs 4)) ++ sp13, 5, (0, 0)⟩]
    refine CP ⟨[3, 9, 4], [0, 1, 2, 5, 6, 7, 8], [0, 1, 2, 5, 6, 7, 8], [], [10]⟩ 10 _ rfl rfl (by decide +kernel) rfl trivial rfl (BJ rfl (B3 43 5 [false, false, false, false, false, true] (Slc nb29 0 21 cp13) 21 ((((numK 8 sq 8) ++ ([(2:UInt8)])) ++ (numK 8 eq 8)) ++ (numK 4 fs 4)) ([UInt8.ofNat (mn - 1)]) (some ⟨nb26, 0, none⟩) 1 1 22 AW B0 rfl (.inr ⟨nb29, sp13, cp13, rfl, rfl, (by first | exact ha49 | simp [ha49]), ha50, (by omega), (by omega)⟩) rfl (by simp) (SrcAt.mem (AY 4 rfl (A1 _))) (by omega) (by unfold maxLen; omega) (by omega))) ?_
    rintro v1 L1 ⟨nb30, sp14, cp14, hg14, rfl, rfl, ha53, ha54, ha55, ha56⟩
    refine ⟨[(11, Slc nb30 0 22 cp14)], ?_⟩
    show DP _ _ _ _ _ _ _ _ [_, _, _, _, _, ⟨nb30, cu8 (((((numK 8 sq 8) ++ ([(2:UInt8)])) ++ (numK 8 eq 8)) ++ (numK 4 fs 4)) ++ ([UInt8.ofNat (mn - 1)])) ++ sp14, 5, (0, 0)⟩]
    refine DK ⟨[3, 9, 4, 10], [0, 1, 2, 5, 6, 7, 8, 11], [0, 1, 2, 5, 6, 7, 8], [11], []⟩ rfl rfl (by decide +kernel) rfl ⟨⟨_, rfl, AO rfl (AF rfl)⟩, trivial⟩ ?_
    refine CY (F' := [(3, Slc nb30 0 22 cp14), (2, .slice none 0 0)]) (by kernel_rfl) ?_
    refine BR (AE (AI (AC (AA _ (AM rfl) rfl ?_))))
    refine AA _ (AF rfl) rfl ?_
    refine AK (AE (BA (BF [false, false, false, false, false, true] ?_)))
    show JQ _ _ _ _ [_]
    refine A9 (Slc nb30 0 22 cp14) (res1 DT (A7 rfl)) fun w1 hw1 => ?_
    have hq : ((((numK 8 sq 8) ++ ([(2:UInt8)])) ++ (numK 8 eq 8)) ++ (numK 4 fs 4)) ++ ([UInt8.ofNat (mn - 1)]) = (((numK 8 sq 8 ++ numK 1 (2:UInt64) 1) ++ numK 8 eq 8) ++ numK 4 fs 4) ++ numK 1 (UInt64.ofNat (mn - 1)) 1 := by rw [EO, nkL2]
    rw [hq] at hw1
    exact ⟨_, _, rfl, ⟨nb30, sp14, cp14, rfl, rfl, ha54, ha55, ha56⟩, hw1.sub (by simp) (by simp)⟩
  ·
   rintro v1 L1 ⟨nb24, hnb24, rfl, rfl⟩
   refine ⟨[], ?_⟩
   show DP _ _ _ _ _ _ _ _ [_, _, _, _, ⟨nb24, cu8 ([UInt8.ofNat (mn - 1)]), 5, (0, 0)⟩]
   refine CP ⟨[9], [0, 1, 2, 5, 6, 7, 8], [5, 6, 7, 8], [0, 1, 2], [3]⟩ 3 _ rfl rfl (by decide +kernel) rfl ⟨CK rfl rfl rfl, ⟨_, rfl, AO rfl (AB 3 22 1 AJ rfl AP rfl rfl)⟩, ⟨_, rfl, AO rfl (AL rfl (AV AR (AY 0 rfl (AH (AH (AG (AG (AG (Seg.head)))))))))⟩, trivial⟩ rfl (BJ rfl (BV 88 [U64 fs, I64 4] _ (A5 _ CW rfl) (fun w1 hw1 => DE fs 4 w1 (by omega)))) ?_
   rintro v1 L1 ⟨_, ⟨nb31, rfl, rfl⟩, rfl⟩
   refine ⟨[], ?_⟩
   show DP _ _ _ _ _ _ _ _ [_, _, _, _, _, ⟨nb31, cu8 (numK 4 fs 4), 5, (0, 0)⟩]
   refine CP ⟨[9, 3], [0, 1, 2, 5, 6, 7, 8], [1, 2, 5, 6, 7, 8], [0], [4]⟩ 4 _ rfl rfl (by decide +kernel) rfl ⟨CK rfl rfl rfl, trivial⟩ rfl (BJ rfl (B3 43 5 [false, false, false, true, false, false] (Slc nb22 0 17 cp10) 17 (((numK 8 sq 8) ++ ([(2:UInt8)])) ++ (numK 8 eq 8)) (numK 4 fs 4) (some ⟨nb31, 0, none⟩) 4 4 21 AW B0 rfl (.inr ⟨nb22, sp10, cp10, rfl, rfl, (by first | exact ha37 | simp [ha37]), ha38, (by omega), (by omega)⟩) rfl (by first | exact (show (numK 4 fs 4).length = 4 from BE _ _ _) | simp [(show (numK 4 fs 4).length = 4 from BE _ _ _)]; try omega) (SrcAt.mem (AY 5 rfl (A1 _))) (by omega) (by unfold maxLen; omega) (by omega))) ?_
   rintro v1 L1 ⟨nb32, sp15, cp15, hg15, rfl, rfl, ha57, ha58, ha59, ha60⟩
   refine ⟨[], ?_⟩
   show DP _ _ _ _ _ _ _ _ [_, _, _, _, _, ⟨nb32, cu8 ((((numK 8 sq 8) ++ ([(2:UInt8)])) ++ (numK 8 eq 8)) ++ (numK 4 fs 4)) ++ sp15, 5, (0, 0)⟩]
   refine CP ⟨[9, 3, 4], [0, 1, 2, 5, 6, 7, 8], [0, 1, 2, 5, 6, 7, 8], [], [10]⟩ 10 _ rfl rfl (by decide +kernel) rfl trivial rfl (BJ rfl (B3 43 5 [false, false, false, false, false, true] (Slc nb32 0 21 cp15) 21 ((((numK 8 sq 8) ++ ([(2:UInt8)])) ++ (numK 8 eq 8)) ++ (numK 4 fs 4)) ([UInt8.ofNat (mn - 1)]) (some ⟨nb24, 0, none⟩) 1 1 22 AW B0 rfl (.inr ⟨nb32, sp15, cp15, rfl, rfl, (by first | exact ha57 | simp [ha57]), ha58, (by omega), (by omega)⟩) rfl (by simp) (SrcAt.mem (AY 3 rfl (A1 _))) (by omega) (by unfold maxLen; omega) (by omega))) ?_
   rintro v1 L1 ⟨nb33, sp16, cp16, hg16, rfl, rfl, ha61, ha62, ha63, ha64⟩
   refine ⟨[(11, Slc nb33 0 22 cp16)], ?_⟩
   show DP _ _ _ _ _ _ _ _ [_, _, _, _, _, ⟨nb33, cu8 (((((numK 8 sq 8) ++ ([(2:UInt8)])) ++ (numK 8 eq 8)) ++ (numK 4 fs 4)) ++ ([UInt8.ofNat (mn - 1)])) ++ sp16, 5, (0, 0)⟩]
   refine DK ⟨[9, 3, 4, 10], [0, 1, 2, 5, 6, 7, 8, 11], [0, 1, 2, 5, 6, 7, 8], [11], []⟩ rfl rfl (by decide +kernel) rfl ⟨⟨_, rfl, AO rfl (AF rfl)⟩, trivial⟩ ?_
   refine CY (F' := [(3, Slc nb33 0 22 cp16), (2, .slice none 0 0)]) (by kernel_rfl) ?_
   refine BR (AE (AI (AC (AA _ (AM rfl) rfl ?_))))
   refine AA _ (AF rfl) rfl ?_
   refine AK (AE (BA (BF [false, false, false, false, false, true] ?_)))
   show JQ _ _ _ _ [_]
   refine A9 (Slc nb33 0 22 cp16) (res1 DT (A7 rfl)) fun w1 hw1 => ?_
   have hq : ((((numK 8 sq 8) ++ ([(2:UInt8)])) ++ (numK 8 eq 8)) ++ (numK 4 fs 4)) ++ ([UInt8.ofNat (mn - 1)]) = (((numK 8 sq 8 ++ numK 1 (2:UInt64) 1) ++ numK 8 eq 8) ++ numK 4 fs 4) ++ numK 1 (UInt64.ofNat (mn - 1)) 1 := by rw [EO, nkL2]
   rw [hq] at hw1
   exact ⟨_, _, rfl, ⟨nb33, sp16, cp16, rfl, rfl, ha62, ha63, ha64⟩, hw1.sub (by simp) (by simp)⟩
theorem rputReq3_c (sq : UInt64) (aiq : Option Addr) (niq ciq : Nat) (lq : List UInt64) (fs : UInt64) (mn : Int) (pv ep : UInt64) (k : Nat) (ai : Option Addr) (ni ci : Nat) (l : List UInt64) (sa : Option Addr) (ns sc : Nat) (ls : List SealR) (bl : UInt64) (tg : List UInt8) (eq : UInt64) (tot : Nat)  (w : World) (hlq : lq.length = niq) (hnmq : niq ≤ 2000000) (hncq : niq ≤ ciq) (hcmq : ciq ≤ maxLen) (hvq : RdV w aiq (cu64 lq)) (hl : l.length = ni) (hnm : ni ≤ 2000000) (hnc : ni ≤ ci) (hcm : ci ≤ maxLen) (hv : RdV w ai (cu64 l)) (hls : ls.length = ns) (hnn : ns ≤ 2000000) (hnd : ns ≤ sc) (hcn : sc ≤ maxLen) (hs : RdV w sa (ls.flatMap sealC)) (htg : tg.length = 16) (hbi : ni ≤ 300) (hbs : ns ≤ 300) (hR : reqR (3:Int) lq fs mn eq (blankB pv ep (k:Int) l ls bl tg) (decide (mayN pv ep (k:Int) l ls bl = 0)) = true) (hmay : mayN pv ep (k:Int) l ls bl = 0) (hk : k = 1 ∨ k = 2 ∨ k = 3) (hsm : ns ≤ 300) (htot : tktN k ni ns = tot) (htb : tot ≤ 30000)  : Calls Tryd.prog 25 #[.agg ([U64 sq, I64 3, .slice aiq niq ciq, U64 fs, I64 (mn), U64 pv, U64 ep, I64 k, .slice ai ni ci, .slice sa ns sc, U64 bl] ++ cu8 tg ++ [U64 eq]).toArray] w (Post w [] (fun v L => ∃ g sp cap, v = Slc g 0 (tot + 25) cap ∧ L = [⟨g, cu8 ((numK 8 sq 8 ++ numK 1 (3:UInt64) 1) ++ ((tktT pv ep k l ls bl) ++ tg)) ++ sp, 5, (0, 0)⟩] ∧ sp.length = cap - (tot + 25) ∧ tot + 25 ≤ cap ∧ cap ≤ maxLen)) := by
 have hmx : maxLen = 9223372036854775807 := rfl
 refine enter (P := Tryd.prog) (f := 25) (fn := Tryd.f25) w [] 69 [] [.agg ([U64 sq, I64 3, .slice aiq niq ciq, U64 fs, I64 (mn), U64 pv, U64 ep, I64 k, .slice ai ni ci, .slice sa ns sc, U64 bl] ++ cu8 tg ++ [U64 eq]).toArray] Tryd.func25 rfl rfl (by simp) (B2 (by simp) (by simp) (by simp)) ?_
 show JC _ _ _ [(0, .agg ([U64 sq, I64 3, .slice aiq niq ciq, U64 fs, I64 (mn), U64 pv, U64 ep, I64 k, .slice ai ni ci, .slice sa ns sc, U64 bl] ++ cu8 tg ++ [U64 eq]).toArray)] _
 refine AI (AC (BG (CE (.agg ([U64 sq, I64 3, .slice aiq niq ciq, U64 fs, I64 (mn), U64 pv, U64 ep, I64 k, .slice ai ni ci, .slice sa ns sc, U64 bl] ++ cu8 tg ++ [U64 eq]).toArray) ([U64 sq, I64 3, .slice aiq niq ciq, U64 fs, I64 (mn), U64 pv, U64 ep, I64 k, .slice ai ni ci, .slice sa ns sc, U64 bl] ++ cu8 tg ++ [U64 eq]) rfl (by first | rfl | simp)) rfl ?_))
 rintro v1 L1 ⟨nb1, hnb1, rfl, rfl⟩
 show JL _ _ _ _ ((1, Ptr nb1 0) :: _) [⟨nb1, [U64 sq, I64 3, .slice aiq niq ciq, U64 fs, I64 (mn), U64 pv, U64 ep, I64 k, .slice ai ni ci, .slice sa ns sc, U64 bl] ++ cu8 tg ++ [U64 eq], 40, (0, 0)⟩]
 refine AA _ (AF rfl) rfl ?_
 refine AK (AE (AI (DC 69 4 [(0, Ptr nb1 0), (1, U64 sq), (3, Ptr nb1 1), (4, I64 3), (5, U8 3)] B9 rfl (by decide +kernel) ?_)))
 refine DP_two ⟨[], [0, 1, 3, 4, 5], [], [0, 1, 3, 4, 5], [2, 6]⟩ 2 6 _ _ rfl rfl (by decide +kernel) rfl ⟨⟨_, rfl, AO rfl (AB 0 22 1 AJ rfl AP rfl rfl)⟩, ⟨_, rfl, AO rfl (AL rfl (AV AR (AY 0 rfl (AH (AH (Seg.head))))))⟩, ⟨_, rfl, AO rfl (AB 1 3 1 AJ rfl AT rfl rfl)⟩, ⟨_, rfl, AO rfl (AL rfl (AV AX (AY 0 rfl (AH (AH (AG (Seg.head)))))))⟩, ⟨_, rfl, AO rfl (DA _ _ rfl fun _ => EE (by rw [BO]; rfl) BU rfl)⟩, trivial⟩ rfl rfl (BJ rfl (BV 88 [U64 sq, I64 8] _ (A5 _ CW rfl) (fun w1 hw1 => DE sq 8 w1 (by omega)))) (BJ rfl (B7 5 1 _ [(0, U8 3)] (cu8 ([(3:UInt8)])) AW B4 CD rfl rfl rfl (by kernel_rfl))) ?_ ?_
 ·
  rintro v1 L1 ⟨_, ⟨nb2, rfl, rfl⟩, rfl⟩
  refine ⟨[], ?_⟩
  show DP _ _ _ _ _ _ _ _ [_, ⟨nb2, cu8 (numK 8 sq 8), 5, (0, 0)⟩]
  refine CP ⟨[2], [0, 1, 3, 4, 5], [0, 1], [3, 4, 5], [6]⟩ 6 _ rfl rfl (by decide +kernel) rfl ⟨⟨_, rfl, AO rfl (AB 1 3 1 AJ rfl AT rfl rfl)⟩, ⟨_, rfl, AO rfl (AL rfl (AV AX (AY 0 rfl (AH (AH (AG (Seg.head)))))))⟩, ⟨_, rfl, AO rfl (DA _ _ rfl fun _ => EE (by rw [BO]; rfl) BU rfl)⟩, trivial⟩ rfl (BJ rfl (B7 5 1 _ [(0, U8 3)] (cu8 ([(3:UInt8)])) AW B4 CD rfl rfl rfl (by kernel_rfl))) ?_
  rintro v1 L1 ⟨nb4, hnb4, rfl, rfl⟩
  refine ⟨[], ?_⟩
  show DP _ _ _ _ _ _ _ _ [_, _, ⟨nb4, cu8 ([(3:UInt8)]), 5, (0, 0)⟩]
  refine CP ⟨[2, 6], [0, 1, 3, 4, 5], [0, 1, 3, 4, 5], [], [7]⟩ 7 _ rfl rfl (by decide +kernel) rfl trivial rfl (BJ rfl (B3 43 5 [false, true, false] (Slc nb2 0 8 8) 8 (numK 8 sq 8) ([(3:UInt8)]) (some ⟨nb4, 0, none⟩) 1 1 9 AW B0 rfl (.inr ⟨nb2, [], 8, rfl, (by simp [take?, cu8, cu32, cu64]), (by first | exact (show (numK 8 sq 8).length = 8 from BE _ _ _) | simp [(show (numK 8 sq 8).length = 8 from BE _ _ _)]), (by simp), (by omega), (by unfold maxLen; omega)⟩) rfl (by simp) (SrcAt.mem (AY 2 rfl (A1 _))) (by omega) (by unfold maxLen; omega) (by omega))) ?_
  rintro v1 L1 ⟨nb5, sp1, cp1, hg1, rfl, rfl, ha1, ha2, ha3, ha4⟩
  refine ⟨[(8, Slc nb5 0 9 cp1)], ?_⟩
  show DP _ _ _ _ _ _ _ _ [_, _, ⟨nb5, cu8 ((numK 8 sq 8) ++ ([(3:UInt8)])) ++ sp1, 5, (0, 0)⟩]
  refine DK ⟨[2, 6, 7], [0, 1, 3, 4, 5, 8], [0, 1, 3, 4, 5], [8], []⟩ rfl rfl (by decide +kernel) rfl ⟨⟨_, rfl, AO rfl (AF rfl)⟩, trivial⟩ ?_
  refine CY (F' := [(3, Slc nb5 0 9 cp1), (1, Ptr nb1 0), (2, .slice none 0 0)]) (by kernel_rfl) ?_
  refine AE (AI (AI (AC (AA (Ptr nb1 1) (AB 1 3 1 AJ rfl AT rfl rfl) rfl ?_))))
  refine AA (I64 3) (AL rfl (AV AX (AY 0 rfl (AH (AH (AG (Seg.head))))))) rfl ?_
  refine AA (.bool (decide ((3:Int) ≠ (3:Int)))) (AQ rfl rfl fun _ => DI _ _) rfl ?_
  refine AK (AE (BT _ rfl (by decide) ?_))
  refine BM (AE (AI (AI (AC (AA (Ptr nb1 1) (AB 1 3 1 AJ rfl AT rfl rfl) rfl ?_)))))
  refine AA (I64 3) (AL rfl (AV AX (AY 0 rfl (AH (AH (AG (Seg.head))))))) rfl ?_
  refine AK (AE (BY (AI (AC (AA (.bool (decide ((3:Int) = (1:Int)))) (AQ rfl rfl fun _ => A4 _ _) rfl ?_)))))
  refine AA _ (AF rfl) rfl ?_
  refine AK (AE (BT _ rfl (by decide) ?_))
  refine AI (AC (AA (.bool (decide ((3:Int) = (2:Int)))) (AQ rfl rfl fun _ => A4 _ _) rfl ?_))
  refine AA _ (AF rfl) rfl ?_
  refine AK (AE (BT _ rfl (by decide) ?_))
  refine AI (AC (AA (.bool (decide ((3:Int) = (3:Int)))) (AQ rfl rfl fun _ => A4 _ _) rfl ?_))
  refine AA _ (AF rfl) rfl ?_
  refine AK (AE (B5 _ rfl (by decide) ?_))
  refine AC (AA _ (AM rfl) rfl ?_)
  refine AA (Ptr nb1 5) (AB 5 38 22 AJ rfl CA rfl rfl) rfl ?_
  refine AA (.agg ([U64 pv, U64 ep, I64 k, .slice ai ni ci, .slice sa ns sc, U64 bl] ++ cu8 tg).toArray) (AL rfl (B1 DO CA (by simp [htg]) (AY 0 rfl (CO (p := [U64 sq, I64 3, .slice aiq niq ciq, U64 fs, I64 (mn)]) (q := [U64 eq]) (vs := [U64 pv, U64 ep, I64 k, .slice ai ni ci, .slice sa ns sc, U64 bl] ++ cu8 tg) (by first | rfl | (simp only [List.append_assoc, List.nil_append, List.append_nil, List.cons_append]; done)) rfl)))) rfl ?_
  refine BG (BV 52 [.agg ([U64 pv, U64 ep, I64 k, .slice ai ni ci, .slice sa ns sc, U64 bl] ++ cu8 tg).toArray] _ (A5 _ Tryd.call52 rfl) (fun w1 hw1 => rput13_c pv ep k ai ni ci l sa ns sc ls bl tg tot w1 hl (by omega) (by omega) (by omega) (BP hw1 rfl hv) hls (by omega) (by omega) (by omega) (BP hw1 rfl hs) htg hmay hk hsm htot (by omega))) rfl ?_
  rintro v1 L1 ⟨_, ⟨nb6, sp2, cp2, rfl, rfl, hc1, hc2, hc3⟩, rfl⟩
  show JL _ _ _ _ ((66, Slc nb6 0 (tot + 16) cp2) :: _) [_, _, _, ⟨nb6, cu8 ((tktT pv ep k l ls bl) ++ tg) ++ sp2, 5, (0, 0)⟩]
  refine BG (B3 43 5 [false, false, true, false] (Slc nb5 0 9 cp1) 9 ((numK 8 sq 8) ++ ([(3:UInt8)])) ((tktT pv ep k l ls bl) ++ tg) (some ⟨nb6, 0, none⟩) (tot + 16) cp2 (tot + 25) AW B0 rfl (.inr ⟨nb5, sp1, cp1, rfl, rfl, (by first | exact ha1 | simp [ha1]), ha2, (by omega), (by omega)⟩) rfl (by first | exact (show ((tktT pv ep k l ls bl) ++ tg).length = (tot + 16) from (by rw [List.length_append, ((EV hl hls).trans htot), htg])) | simp [(show ((tktT pv ep k l ls bl) ++ tg).length = (tot + 16) from (by rw [List.length_append, ((EV hl hls).trans htot), htg]))]; try omega) (SrcAt.mem (AY 3 rfl (AH (A1 _)))) (by omega) (by unfold maxLen; omega) (by omega)) rfl ?_
  rintro v1 L1 ⟨nb7, sp3, cp3, hg2, rfl, rfl, ha5, ha6, ha7, ha8⟩
  show JL _ _ _ _ ((67, Slc nb7 0 (tot + 25) cp3) :: _) [_, _, _, ⟨nb7, cu8 (((numK 8 sq 8) ++ ([(3:UInt8)])) ++ ((tktT pv ep k l ls bl) ++ tg)) ++ sp3, 5, (0, 0)⟩]
  refine AA _ (AF rfl) rfl ?_
  refine AK (BR (AE (AI (AC (AA _ (AM rfl) rfl ?_)))))
  refine AA _ (AF rfl) rfl ?_
  refine AK (AE (BA (BF [false, false, false, true] ?_)))
  show JQ _ _ _ _ [_]
  refine A9 (Slc nb7 0 (tot + 25) cp3) (res1 DT (A7 rfl)) fun w1 hw1 => ?_
  have hq : ((numK 8 sq 8) ++ ([(3:UInt8)])) ++ ((tktT pv ep k l ls bl) ++ tg) = (numK 8 sq 8 ++ numK 1 (3:UInt64) 1) ++ ((tktT pv ep k l ls bl) ++ tg) := by rw [nkL3]
  rw [hq] at hw1
  exact ⟨_, _, rfl, ⟨nb7, sp3, cp3, rfl, rfl, ha6, ha7, ha8⟩, hw1.sub (by simp) (by simp)⟩
 ·
  rintro v1 L1 ⟨nb3, hnb3, rfl, rfl⟩
  refine ⟨[], ?_⟩
  show DP _ _ _ _ _ _ _ _ [_, ⟨nb3, cu8 ([(3:UInt8)]), 5, (0, 0)⟩]
  refine CP ⟨[6], [0, 1, 3, 4, 5], [3, 4, 5], [0, 1], [2]⟩ 2 _ rfl rfl (by decide +kernel) rfl ⟨⟨_, rfl, AO rfl (AB 0 22 1 AJ rfl AP rfl rfl)⟩, ⟨_, rfl, AO rfl (AL rfl (AV AR (AY 0 rfl (AH (AH (Seg.head))))))⟩, trivial⟩ rfl (BJ rfl (BV 88 [U64 sq, I64 8] _ (A5 _ CW rfl) (fun w1 hw1 => DE sq 8 w1 (by omega)))) ?_
  rintro v1 L1 ⟨_, ⟨nb8, rfl, rfl⟩, rfl⟩
  refine ⟨[], ?_⟩
  show DP _ _ _ _ _ _ _ _ [_, _, ⟨nb8, cu8 (numK 8 sq 8), 5, (0, 0)⟩]
  refine CP ⟨[6, 2], [0, 1, 3, 4, 5], [0, 1, 3, 4, 5], [], [7]⟩ 7 _ rfl rfl (by decide +kernel) rfl trivial rfl (BJ rfl (B3 43 5 [false, false, true] (Slc nb8 0 8 8) 8 (numK 8 sq 8) ([(3:UInt8)]) (some ⟨nb3, 0, none⟩) 1 1 9 AW B0 rfl (.inr ⟨nb8, [], 8, rfl, (by simp [take?, cu8, cu32, cu64]), (by first | exact (show (numK 8 sq 8).length = 8 from BE _ _ _) | simp [(show (numK 8 sq 8).length = 8 from BE _ _ _)]), (by simp), (by omega), (by unfold maxLen; omega)⟩) rfl (by simp) (SrcAt.mem (AY 1 rfl (A1 _))) (by omega) (by unfold maxLen; omega) (by omega))) ?_
  rintro v1 L1 ⟨nb9, sp4, cp4, hg3, rfl, rfl, ha9, ha10, ha11, ha12⟩
  refine ⟨[(8, Slc nb9 0 9 cp4)], ?_⟩
  show DP _ _ _ _ _ _ _ _ [_, _, ⟨nb9, cu8 ((numK 8 sq 8) ++ ([(3:UInt8)])) ++ sp4, 5, (0, 0)⟩]
  refine DK ⟨[6, 2, 7], [0, 1, 3, 4, 5, 8], [0, 1, 3, 4, 5], [8], []⟩ rfl rfl (by decide +kernel) rfl ⟨⟨_, rfl, AO rfl (AF rfl)⟩, trivial⟩ ?_
  refine CY (F' := [(3, Slc nb9 0 9 cp4), (1, Ptr nb1 0), (2, .slice none 0 0)]) (by kernel_rfl) ?_
  refine AE (AI (AI (AC (AA (Ptr nb1 1) (AB 1 3 1 AJ rfl AT rfl rfl) rfl ?_))))
  refine AA (I64 3) (AL rfl (AV AX (AY 0 rfl (AH (AH (AG (Seg.head))))))) rfl ?_
  refine AA (.bool (decide ((3:Int) ≠ (3:Int)))) (AQ rfl rfl fun _ => DI _ _) rfl ?_
  refine AK (AE (BT _ rfl (by decide) ?_))
  refine BM (AE (AI (AI (AC (AA (Ptr nb1 1) (AB 1 3 1 AJ rfl AT rfl rfl) rfl ?_)))))
  refine AA (I64 3) (AL rfl (AV AX (AY 0 rfl (AH (AH (AG (Seg.head))))))) rfl ?_
  refine AK (AE (BY (AI (AC (AA (.bool (decide ((3:Int) = (1:Int)))) (AQ rfl rfl fun _ => A4 _ _) rfl ?_)))))
  refine AA _ (AF rfl) rfl ?_
  refine AK (AE (BT _ rfl (by decide) ?_))
  refine AI (AC (AA (.bool (decide ((3:Int) = (2:Int)))) (AQ rfl rfl fun _ => A4 _ _) rfl ?_))
  refine AA _ (AF rfl) rfl ?_
  refine AK (AE (BT _ rfl (by decide) ?_))
  refine AI (AC (AA (.bool (decide ((3:Int) = (3:Int)))) (AQ rfl rfl fun _ => A4 _ _) rfl ?_))
  refine AA _ (AF rfl) rfl ?_
  refine AK (AE (B5 _ rfl (by decide) ?_))
  refine AC (AA _ (AM rfl) rfl ?_)
  refine AA (Ptr nb1 5) (AB 5 38 22 AJ rfl CA rfl rfl) rfl ?_
  refine AA (.agg ([U64 pv, U64 ep, I64 k, .slice ai ni ci, .slice sa ns sc, U64 bl] ++ cu8 tg).toArray) (AL rfl (B1 DO CA (by simp [htg]) (AY 0 rfl (CO (p := [U64 sq, I64 3, .slice aiq niq ciq, U64 fs, I64 (mn)]) (q := [U64 eq]) (vs := [U64 pv, U64 ep, I64 k, .slice ai ni ci, .slice sa ns sc, U64 bl] ++ cu8 tg) (by first | rfl | (simp only [List.append_assoc, List.nil_append, List.append_nil, List.cons_append]; done)) rfl)))) rfl ?_
  refine BG (BV 52 [.agg ([U64 pv, U64 ep, I64 k, .slice ai ni ci, .slice sa ns sc, U64 bl] ++ cu8 tg).toArray] _ (A5 _ Tryd.call52 rfl) (fun w1 hw1 => rput13_c pv ep k ai ni ci l sa ns sc ls bl tg tot w1 hl (by omega) (by omega) (by omega) (BP hw1 rfl hv) hls (by omega) (by omega) (by omega) (BP hw1 rfl hs) htg hmay hk hsm htot (by omega))) rfl ?_
  rintro v1 L1 ⟨_, ⟨nb10, sp5, cp5, rfl, rfl, hc4, hc5, hc6⟩, rfl⟩
  show JL _ _ _ _ ((66, Slc nb10 0 (tot + 16) cp5) :: _) [_, _, _, ⟨nb10, cu8 ((tktT pv ep k l ls bl) ++ tg) ++ sp5, 5, (0, 0)⟩]
  refine BG (B3 43 5 [false, false, true, false] (Slc nb9 0 9 cp4) 9 ((numK 8 sq 8) ++ ([(3:UInt8)])) ((tktT pv ep k l ls bl) ++ tg) (some ⟨nb10, 0, none⟩) (tot + 16) cp5 (tot + 25) AW B0 rfl (.inr ⟨nb9, sp4, cp4, rfl, rfl, (by first | exact ha9 | simp [ha9]), ha10, (by omega), (by omega)⟩) rfl (by first | exact (show ((tktT pv ep k l ls bl) ++ tg).length = (tot + 16) from (by rw [List.length_append, ((EV hl hls).trans htot), htg])) | simp [(show ((tktT pv ep k l ls bl) ++ tg).length = (tot + 16) from (by rw [List.length_append, ((EV hl hls).trans htot), htg]))]; try omega) (SrcAt.mem (AY 3 rfl (AH (A1 _)))) (by omega) (by unfold maxLen; omega) (by omega)) rfl ?_
  rintro v1 L1 ⟨nb11, sp6, cp6, hg4, rfl, rfl, ha13, ha14, ha15, ha16⟩
  show JL _ _ _ _ ((67, Slc nb11 0 (tot + 25) cp6) :: _) [_, _, _, ⟨nb11, cu8 (((numK 8 sq 8) ++ ([(3:UInt8)])) ++ ((tktT pv ep k l ls bl) ++ tg)) ++ sp6, 5, (0, 0)⟩]
  refine AA _ (AF rfl) rfl ?_
  refine AK (BR (AE (AI (AC (AA _ (AM rfl) rfl ?_)))))
  refine AA _ (AF rfl) rfl ?_
  refine AK (AE (BA (BF [false, false, false, true] ?_)))
  show JQ _ _ _ _ [_]
  refine A9 (Slc nb11 0 (tot + 25) cp6) (res1 DT (A7 rfl)) fun w1 hw1 => ?_
  have hq : ((numK 8 sq 8) ++ ([(3:UInt8)])) ++ ((tktT pv ep k l ls bl) ++ tg) = (numK 8 sq 8 ++ numK 1 (3:UInt64) 1) ++ ((tktT pv ep k l ls bl) ++ tg) := by rw [nkL3]
  rw [hq] at hw1
  exact ⟨_, _, rfl, ⟨nb11, sp6, cp6, rfl, rfl, ha14, ha15, ha16⟩, hw1.sub (by simp) (by simp)⟩
theorem rputReq4_c (sq : UInt64) (aiq : Option Addr) (niq ciq : Nat) (lq : List UInt64) (fs : UInt64) (mn : Int) (pv ep : UInt64) (kd : Int) (ai : Option Addr) (ni ci : Nat) (l : List UInt64) (sa : Option Addr) (ns sc : Nat) (ls : List SealR) (bl : UInt64) (tg : List UInt8) (eq : UInt64)  (w : World) (hlq : lq.length = niq) (hnmq : niq ≤ 2000000) (hncq : niq ≤ ciq) (hcmq : ciq ≤ maxLen) (hvq : RdV w aiq (cu64 lq)) (hl : l.length = ni) (hnm : ni ≤ 2000000) (hnc : ni ≤ ci) (hcm : ci ≤ maxLen) (hv : RdV w ai (cu64 l)) (hls : ls.length = ns) (hnn : ns ≤ 2000000) (hnd : ns ≤ sc) (hcn : sc ≤ maxLen) (hs : RdV w sa (ls.flatMap sealC)) (htg : tg.length = 16) (hbi : ni ≤ 300) (hbs : ns ≤ 300) (hR : reqR (4:Int) lq fs mn eq (blankB pv ep kd l ls bl tg) (decide (mayN pv ep kd l ls bl = 0)) = true)  : Calls Tryd.prog 25 #[.agg ([U64 sq, I64 4, .slice aiq niq ciq, U64 fs, I64 (mn), U64 pv, U64 ep, I64 (kd), .slice ai ni ci, .slice sa ns sc, U64 bl] ++ cu8 tg ++ [U64 eq]).toArray] w (Post w [] (fun v L => ∃ g sp cap, v = Slc g 0 (17) cap ∧ L = [⟨g, cu8 ((numK 8 sq 8 ++ numK 1 (4:UInt64) 1) ++ numK 8 eq 8) ++ sp, 5, (0, 0)⟩] ∧ sp.length = cap - (17) ∧ 17 ≤ cap ∧ cap ≤ maxLen)) := by
 have hmx : maxLen = 9223372036854775807 := rfl
 refine enter (P := Tryd.prog) (f := 25) (fn := Tryd.f25) w [] 69 [] [.agg ([U64 sq, I64 4, .slice aiq niq ciq, U64 fs, I64 (mn), U64 pv, U64 ep, I64 (kd), .slice ai ni ci, .slice sa ns sc, U64 bl] ++ cu8 tg ++ [U64 eq]).toArray] Tryd.func25 rfl rfl (by simp) (B2 (by simp) (by simp) (by simp)) ?_
 show JC _ _ _ [(0, .agg ([U64 sq, I64 4, .slice aiq niq ciq, U64 fs, I64 (mn), U64 pv, U64 ep, I64 (kd), .slice ai ni ci, .slice sa ns sc, U64 bl] ++ cu8 tg ++ [U64 eq]).toArray)] _
 refine AI (AC (BG (CE (.agg ([U64 sq, I64 4, .slice aiq niq ciq, U64 fs, I64 (mn), U64 pv, U64 ep, I64 (kd), .slice ai ni ci, .slice sa ns sc, U64 bl] ++ cu8 tg ++ [U64 eq]).toArray) ([U64 sq, I64 4, .slice aiq niq ciq, U64 fs, I64 (mn), U64 pv, U64 ep, I64 (kd), .slice ai ni ci, .slice sa ns sc, U64 bl] ++ cu8 tg ++ [U64 eq]) rfl (by first | rfl | simp)) rfl ?_))
 rintro v1 L1 ⟨nb1, hnb1, rfl, rfl⟩
 show JL _ _ _ _ ((1, Ptr nb1 0) :: _) [⟨nb1, [U64 sq, I64 4, .slice aiq niq ciq, U64 fs, I64 (mn), U64 pv, U64 ep, I64 (kd), .slice ai ni ci, .slice sa ns sc, U64 bl] ++ cu8 tg ++ [U64 eq], 40, (0, 0)⟩]
 refine AA _ (AF rfl) rfl ?_
 refine AK (AE (AI (DC 69 4 [(0, Ptr nb1 0), (1, U64 sq), (3, Ptr nb1 1), (4, I64 4), (5, U8 4)] B9 rfl (by decide +kernel) ?_)))
 refine DP_two ⟨[], [0, 1, 3, 4, 5], [], [0, 1, 3, 4, 5], [2, 6]⟩ 2 6 _ _ rfl rfl (by decide +kernel) rfl ⟨⟨_, rfl, AO rfl (AB 0 22 1 AJ rfl AP rfl rfl)⟩, ⟨_, rfl, AO rfl (AL rfl (AV AR (AY 0 rfl (AH (AH (Seg.head))))))⟩, ⟨_, rfl, AO rfl (AB 1 3 1 AJ rfl AT rfl rfl)⟩, ⟨_, rfl, AO rfl (AL rfl (AV AX (AY 0 rfl (AH (AH (AG (Seg.head)))))))⟩, ⟨_, rfl, AO rfl (DA _ _ rfl fun _ => EE (by rw [BO]; rfl) BU rfl)⟩, trivial⟩ rfl rfl (BJ rfl (BV 88 [U64 sq, I64 8] _ (A5 _ CW rfl) (fun w1 hw1 => DE sq 8 w1 (by omega)))) (BJ rfl (B7 5 1 _ [(0, U8 4)] (cu8 ([(4:UInt8)])) AW B4 CD rfl rfl rfl (by kernel_rfl))) ?_ ?_
 ·
  rintro v1 L1 ⟨_, ⟨nb2, rfl, rfl⟩, rfl⟩
  refine ⟨[], ?_⟩
  show DP _ _ _ _ _ _ _ _ [_, ⟨nb2, cu8 (numK 8 sq 8), 5, (0, 0)⟩]
  refine CP ⟨[2], [0, 1, 3, 4, 5], [0, 1], [3, 4, 5], [6]⟩ 6 _ rfl rfl (by decide +kernel) rfl ⟨⟨_, rfl, AO rfl (AB 1 3 1 AJ rfl AT rfl rfl)⟩, ⟨_, rfl, AO rfl (AL rfl (AV AX (AY 0 rfl (AH (AH (AG (Seg.head)))))))⟩, ⟨_, rfl, AO rfl (DA _ _ rfl fun _ => EE (by rw [BO]; rfl) BU rfl)⟩, trivial⟩ rfl (BJ rfl (B7 5 1 _ [(0, U8 4)] (cu8 ([(4:UInt8)])) AW B4 CD rfl rfl rfl (by kernel_rfl))) ?_
  rintro v1 L1 ⟨nb4, hnb4, rfl, rfl⟩
  refine ⟨[], ?_⟩
  show DP _ _ _ _ _ _ _ _ [_, _, ⟨nb4, cu8 ([(4:UInt8)]), 5, (0, 0)⟩]
  refine CP ⟨[2, 6], [0, 1, 3, 4, 5], [0, 1, 3, 4, 5], [], [7]⟩ 7 _ rfl rfl (by decide +kernel) rfl trivial rfl (BJ rfl (B3 43 5 [false, true, false] (Slc nb2 0 8 8) 8 (numK 8 sq 8) ([(4:UInt8)]) (some ⟨nb4, 0, none⟩) 1 1 9 AW B0 rfl (.inr ⟨nb2, [], 8, rfl, (by simp [take?, cu8, cu32, cu64]), (by first | exact (show (numK 8 sq 8).length = 8 from BE _ _ _) | simp [(show (numK 8 sq 8).length = 8 from BE _ _ _)]), (by simp), (by omega), (by unfold maxLen; omega)⟩) rfl (by simp) (SrcAt.mem (AY 2 rfl (A1 _))) (by omega) (by unfold maxLen; omega) (by omega))) ?_
  rintro v1 L1 ⟨nb5, sp1, cp1, hg1, rfl, rfl, ha1, ha2, ha3, ha4⟩
  refine ⟨[(8, Slc nb5 0 9 cp1)], ?_⟩
  show DP _ _ _ _ _ _ _ _ [_, _, ⟨nb5, cu8 ((numK 8 sq 8) ++ ([(4:UInt8)])) ++ sp1, 5, (0, 0)⟩]
  refine DK ⟨[2, 6, 7], [0, 1, 3, 4, 5, 8], [0, 1, 3, 4, 5], [8], []⟩ rfl rfl (by decide +kernel) rfl ⟨⟨_, rfl, AO rfl (AF rfl)⟩, trivial⟩ ?_
  refine CY (F' := [(3, Slc nb5 0 9 cp1), (1, Ptr nb1 0), (2, .slice none 0 0)]) (by kernel_rfl) ?_
  refine AE (AI (AI (AC (AA (Ptr nb1 1) (AB 1 3 1 AJ rfl AT rfl rfl) rfl ?_))))
  refine AA (I64 4) (AL rfl (AV AX (AY 0 rfl (AH (AH (AG (Seg.head))))))) rfl ?_
  refine AA (.bool (decide ((4:Int) ≠ (3:Int)))) (AQ rfl rfl fun _ => DI _ _) rfl ?_
  refine AK (AE (B5 _ rfl (by decide) ?_))
  refine AC (AA _ (AM rfl) rfl ?_)
  refine AA (Ptr nb1 27) (AB 27 22 1 AJ rfl AP rfl rfl) rfl ?_
  refine AA (U64 eq) (AL rfl (AV AR (AY 0 rfl (Seg.right 27 0 (by simp [htg]) rfl (Seg.head))))) rfl ?_
  refine BG (BV 88 [U64 eq, I64 8] _ (A5 _ CW rfl) (fun w1 hw1 => DE eq 8 w1 (by omega))) rfl ?_
  rintro v1 L1 ⟨_, ⟨nb6, rfl, rfl⟩, rfl⟩
  show JL _ _ _ _ ((19, Slc nb6 0 8 8) :: _) [_, _, _, ⟨nb6, cu8 (numK 8 eq 8), 5, (0, 0)⟩]
  refine BG (B3 43 5 [false, false, true, false] (Slc nb5 0 9 cp1) 9 ((numK 8 sq 8) ++ ([(4:UInt8)])) (numK 8 eq 8) (some ⟨nb6, 0, none⟩) 8 8 17 AW B0 rfl (.inr ⟨nb5, sp1, cp1, rfl, rfl, (by first | exact ha1 | simp [ha1]), ha2, (by omega), (by omega)⟩) rfl (by first | exact (show (numK 8 eq 8).length = 8 from BE _ _ _) | simp [(show (numK 8 eq 8).length = 8 from BE _ _ _)]; try omega) (SrcAt.mem (AY 3 rfl (A1 _))) (by omega) (by unfold maxLen; omega) (by omega)) rfl ?_
  rintro v1 L1 ⟨nb7, sp2, cp2, hg2, rfl, rfl, ha5, ha6, ha7, ha8⟩
  show JL _ _ _ _ ((20, Slc nb7 0 17 cp2) :: _) [_, _, _, ⟨nb7, cu8 (((numK 8 sq 8) ++ ([(4:UInt8)])) ++ (numK 8 eq 8)) ++ sp2, 5, (0, 0)⟩]
  refine AA _ (AF rfl) rfl ?_
  refine AK (AE (AI (AI (AC (AA (Ptr nb1 1) (AB 1 3 1 AJ rfl AT rfl rfl) rfl ?_)))))
  refine AA (I64 4) (AL rfl (AV AX (AY 0 rfl (AH (AH (AG (Seg.head))))))) rfl ?_
  refine AK (AE (BY (AI (AC (AA (.bool (decide ((4:Int) = (1:Int)))) (AQ rfl rfl fun _ => A4 _ _) rfl ?_)))))
  refine AA _ (AF rfl) rfl ?_
  refine AK (AE (BT _ rfl (by decide) ?_))
  refine AI (AC (AA (.bool (decide ((4:Int) = (2:Int)))) (AQ rfl rfl fun _ => A4 _ _) rfl ?_))
  refine AA _ (AF rfl) rfl ?_
  refine AK (AE (BT _ rfl (by decide) ?_))
  refine AI (AC (AA (.bool (decide ((4:Int) = (3:Int)))) (AQ rfl rfl fun _ => A4 _ _) rfl ?_))
  refine AA _ (AF rfl) rfl ?_
  refine AK (AE (BT _ rfl (by decide) ?_))
  refine BM (BR (AE (AI (AC (AA _ (AM rfl) rfl ?_)))))
  refine AA _ (AF rfl) rfl ?_
  refine AK (AE (BA (BF [false, false, false, true] ?_)))
  show JQ _ _ _ _ [_]
  refine A9 (Slc nb7 0 17 cp2) (res1 DT (A7 rfl)) fun w1 hw1 => ?_
  have hq : ((numK 8 sq 8) ++ ([(4:UInt8)])) ++ (numK 8 eq 8) = (numK 8 sq 8 ++ numK 1 (4:UInt64) 1) ++ numK 8 eq 8 := by rw [nkL4]
  rw [hq] at hw1
  exact ⟨_, _, rfl, ⟨nb7, sp2, cp2, rfl, rfl, ha6, ha7, ha8⟩, hw1.sub (by simp) (by simp)⟩
 ·
  rintro v1 L1 ⟨nb3, hnb3, rfl, rfl⟩
  refine ⟨[], ?_⟩
  show DP _ _ _ _ _ _ _ _ [_, ⟨nb3, cu8 ([(4:UInt8)]), 5, (0, 0)⟩]
  refine CP ⟨[6], [0, 1, 3, 4, 5], [3, 4, 5], [0, 1], [2]⟩ 2 _ rfl rfl (by decide +kernel) rfl ⟨⟨_, rfl, AO rfl (AB 0 22 1 AJ rfl AP rfl rfl)⟩, ⟨_, rfl, AO rfl (AL rfl (AV AR (AY 0 rfl (AH (AH (Seg.head))))))⟩, trivial⟩ rfl (BJ rfl (BV 88 [U64 sq, I64 8] _ (A5 _ CW rfl) (fun w1 hw1 => DE sq 8 w1 (by omega)))) ?_
  rintro v1 L1 ⟨_, ⟨nb8, rfl, rfl⟩, rfl⟩
  refine ⟨[], ?_⟩
  show DP _ _ _ _ _ _ _ _ [_, _, ⟨nb8, cu8 (numK 8 sq 8), 5, (0, 0)⟩]
  refine CP ⟨[6, 2], [0, 1, 3, 4, 5], [0, 1, 3, 4, 5], [], [7]⟩ 7 _ rfl rfl (by decide +kernel) rfl trivial rfl (BJ rfl (B3 43 5 [false, false, true] (Slc nb8 0 8 8) 8 (numK 8 sq 8) ([(4:UInt8)]) (some ⟨nb3, 0, none⟩) 1 1 9 AW B0 rfl (.inr ⟨nb8, [], 8, rfl, (by simp [take?, cu8, cu32, cu64]), (by first | exact (show (numK 8 sq 8).length = 8 from BE _ _ _) | simp [(show (numK 8 sq 8).length = 8 from BE _ _ _)]), (by simp), (by omega), (by unfold maxLen; omega)⟩) rfl (by simp) (SrcAt.mem (AY 1 rfl (A1 _))) (by omega) (by unfold maxLen; omega) (by omega))) ?_
  rintro v1 L1 ⟨nb9, sp3, cp3, hg3, rfl, rfl, ha9, ha10, ha11, ha12⟩
  refine ⟨[(8, Slc nb9 0 9 cp3)], ?_⟩
  show DP _ _ _ _ _ _ _ _ [_, _, ⟨nb9, cu8 ((numK 8 sq 8) ++ ([(4:UInt8)])) ++ sp3, 5, (0, 0)⟩]
  refine DK ⟨[6, 2, 7], [0, 1, 3, 4, 5, 8], [0, 1, 3, 4, 5], [8], []⟩ rfl rfl (by decide +kernel) rfl ⟨⟨_, rfl, AO rfl (AF rfl)⟩, trivial⟩ ?_
  refine CY (F' := [(3, Slc nb9 0 9 cp3), (1, Ptr nb1 0), (2, .slice none 0 0)]) (by kernel_rfl) ?_
  refine AE (AI (AI (AC (AA (Ptr nb1 1) (AB 1 3 1 AJ rfl AT rfl rfl) rfl ?_))))
  refine AA (I64 4) (AL rfl (AV AX (AY 0 rfl (AH (AH (AG (Seg.head))))))) rfl ?_
  refine AA (.bool (decide ((4:Int) ≠ (3:Int)))) (AQ rfl rfl fun _ => DI _ _) rfl ?_
  refine AK (AE (B5 _ rfl (by decide) ?_))
  refine AC (AA _ (AM rfl) rfl ?_)
  refine AA (Ptr nb1 27) (AB 27 22 1 AJ rfl AP rfl rfl) rfl ?_
  refine AA (U64 eq) (AL rfl (AV AR (AY 0 rfl (Seg.right 27 0 (by simp [htg]) rfl (Seg.head))))) rfl ?_
  refine BG (BV 88 [U64 eq, I64 8] _ (A5 _ CW rfl) (fun w1 hw1 => DE eq 8 w1 (by omega))) rfl ?_
  rintro v1 L1 ⟨_, ⟨nb10, rfl, rfl⟩, rfl⟩
  show JL _ _ _ _ ((19, Slc nb10 0 8 8) :: _) [_, _, _, ⟨nb10, cu8 (numK 8 eq 8), 5, (0, 0)⟩]
  refine BG (B3 43 5 [false, false, true, false] (Slc nb9 0 9 cp3) 9 ((numK 8 sq 8) ++ ([(4:UInt8)])) (numK 8 eq 8) (some ⟨nb10, 0, none⟩) 8 8 17 AW B0 rfl (.inr ⟨nb9, sp3, cp3, rfl, rfl, (by first | exact ha9 | simp [ha9]), ha10, (by omega), (by omega)⟩) rfl (by first | exact (show (numK 8 eq 8).length = 8 from BE _ _ _) | simp [(show (numK 8 eq 8).length = 8 from BE _ _ _)]; try omega) (SrcAt.mem (AY 3 rfl (A1 _))) (by omega) (by unfold maxLen; omega) (by omega)) rfl ?_
  rintro v1 L1 ⟨nb11, sp4, cp4, hg4, rfl, rfl, ha13, ha14, ha15, ha16⟩
  show JL _ _ _ _ ((20, Slc nb11 0 17 cp4) :: _) [_, _, _, ⟨nb11, cu8 (((numK 8 sq 8) ++ ([(4:UInt8)])) ++ (numK 8 eq 8)) ++ sp4, 5, (0, 0)⟩]
  refine AA _ (AF rfl) rfl ?_
  refine AK (AE (AI (AI (AC (AA (Ptr nb1 1) (AB 1 3 1 AJ rfl AT rfl rfl) rfl ?_)))))
  refine AA (I64 4) (AL rfl (AV AX (AY 0 rfl (AH (AH (AG (Seg.head))))))) rfl ?_
  refine AK (AE (BY (AI (AC (AA (.bool (decide ((4:Int) = (1:Int)))) (AQ rfl rfl fun _ => A4 _ _) rfl ?_)))))
  refine AA _ (AF rfl) rfl ?_
  refine AK (AE (BT _ rfl (by decide) ?_))
  refine AI (AC (AA (.bool (decide ((4:Int) = (2:Int)))) (AQ rfl rfl fun _ => A4 _ _) rfl ?_))
  refine AA _ (AF rfl) rfl ?_
  refine AK (AE (BT _ rfl (by decide) ?_))
  refine AI (AC (AA (.bool (decide ((4:Int) = (3:Int)))) (AQ rfl rfl fun _ => A4 _ _) rfl ?_))
  refine AA _ (AF rfl) rfl ?_
  refine AK (AE (BT _ rfl (by decide) ?_))
  refine BM (BR (AE (AI (AC (AA _ (AM rfl) rfl ?_)))))
  refine AA _ (AF rfl) rfl ?_
  refine AK (AE (BA (BF [false, false, false, true] ?_)))
  show JQ _ _ _ _ [_]
  refine A9 (Slc nb11 0 17 cp4) (res1 DT (A7 rfl)) fun w1 hw1 => ?_
  have hq : ((numK 8 sq 8) ++ ([(4:UInt8)])) ++ (numK 8 eq 8) = (numK 8 sq 8 ++ numK 1 (4:UInt64) 1) ++ numK 8 eq 8 := by rw [nkL4]
  rw [hq] at hw1
  exact ⟨_, _, rfl, ⟨nb11, sp4, cp4, rfl, rfl, ha14, ha15, ha16⟩, hw1.sub (by simp) (by simp)⟩
theorem rputReq5_c (sq : UInt64) (aiq : Option Addr) (niq ciq : Nat) (lq : List UInt64) (fs : UInt64) (mn : Int) (pv ep : UInt64) (kd : Int) (ai : Option Addr) (ni ci : Nat) (l : List UInt64) (sa : Option Addr) (ns sc : Nat) (ls : List SealR) (bl : UInt64) (tg : List UInt8) (eq : UInt64)  (w : World) (hlq : lq.length = niq) (hnmq : niq ≤ 2000000) (hncq : niq ≤ ciq) (hcmq : ciq ≤ maxLen) (hvq : RdV w aiq (cu64 lq)) (hl : l.length = ni) (hnm : ni ≤ 2000000) (hnc : ni ≤ ci) (hcm : ci ≤ maxLen) (hv : RdV w ai (cu64 l)) (hls : ls.length = ns) (hnn : ns ≤ 2000000) (hnd : ns ≤ sc) (hcn : sc ≤ maxLen) (hs : RdV w sa (ls.flatMap sealC)) (htg : tg.length = 16) (hbi : ni ≤ 300) (hbs : ns ≤ 300) (hR : reqR (5:Int) lq fs mn eq (blankB pv ep kd l ls bl tg) (decide (mayN pv ep kd l ls bl = 0)) = true)  : Calls Tryd.prog 25 #[.agg ([U64 sq, I64 5, .slice aiq niq ciq, U64 fs, I64 (mn), U64 pv, U64 ep, I64 (kd), .slice ai ni ci, .slice sa ns sc, U64 bl] ++ cu8 tg ++ [U64 eq]).toArray] w (Post w [] (fun v L => ∃ g sp cap, v = Slc g 0 (17) cap ∧ L = [⟨g, cu8 ((numK 8 sq 8 ++ numK 1 (5:UInt64) 1) ++ numK 8 eq 8) ++ sp, 5, (0, 0)⟩] ∧ sp.length = cap - (17) ∧ 17 ≤ cap ∧ cap ≤ maxLen)) := by
 have hmx : maxLen = 9223372036854775807 := rfl
 refine enter (P := Tryd.prog) (f := 25) (fn := Tryd.f25) w [] 69 [] [.agg ([U64 sq, I64 5, .slice aiq niq ciq, U64 fs, I64 (mn), U64 pv, U64 ep, I64 (kd), .slice ai ni ci, .slice sa ns sc, U64 bl] ++ cu8 tg ++ [U64 eq]).toArray] Tryd.func25 rfl rfl (by simp) (B2 (by simp) (by simp) (by simp)) ?_
 show JC _ _ _ [(0, .agg ([U64 sq, I64 5, .slice aiq niq ciq, U64 fs, I64 (mn), U64 pv, U64 ep, I64 (kd), .slice ai ni ci, .slice sa ns sc, U64 bl] ++ cu8 tg ++ [U64 eq]).toArray)] _
 refine AI (AC (BG (CE (.agg ([U64 sq, I64 5, .slice aiq niq ciq, U64 fs, I64 (mn), U64 pv, U64 ep, I64 (kd), .slice ai ni ci, .slice sa ns sc, U64 bl] ++ cu8 tg ++ [U64 eq]).toArray) ([U64 sq, I64 5, .slice aiq niq ciq, U64 fs, I64 (mn), U64 pv, U64 ep, I64 (kd), .slice ai ni ci, .slice sa ns sc, U64 bl] ++ cu8 tg ++ [U64 eq]) rfl (by first | rfl | simp)) rfl ?_))
 rintro v1 L1 ⟨nb1, hnb1, rfl, rfl⟩
 show JL _ _ _ _ ((1, Ptr nb1 0) :: _) [⟨nb1, [U64 sq, I64 5, .slice aiq niq ciq, U64 fs, I64 (mn), U64 pv, U64 ep, I64 (kd), .slice ai ni ci, .slice sa ns sc, U64 bl] ++ cu8 tg ++ [U64 eq], 40, (0, 0)⟩]
 refine AA _ (AF rfl) rfl ?_
 refine AK (AE (AI (DC 69 4 [(0, Ptr nb1 0), (1, U64 sq), (3, Ptr nb1 1), (4, I64 5), (5, U8 5)] B9 rfl (by decide +kernel) ?_)))
 refine DP_two ⟨[], [0, 1, 3, 4, 5], [], [0, 1, 3, 4, 5], [2, 6]⟩ 2 6 _ _ rfl rfl (by decide +kernel) rfl ⟨⟨_, rfl, AO rfl (AB 0 22 1 AJ rfl AP rfl rfl)⟩, ⟨_, rfl, AO rfl (AL rfl (AV AR (AY 0 rfl (AH (AH (Seg.head))))))⟩, ⟨_, rfl, AO rfl (AB 1 3 1 AJ rfl AT rfl rfl)⟩, ⟨_, rfl, AO rfl (AL rfl (AV AX (AY 0 rfl (AH (AH (AG (Seg.head)))))))⟩, ⟨_, rfl, AO rfl (DA _ _ rfl fun _ => EE (by rw [BO]; rfl) BU rfl)⟩, trivial⟩ rfl rfl (BJ rfl (BV 88 [U64 sq, I64 8] _ (A5 _ CW rfl) (fun w1 hw1 => DE sq 8 w1 (by omega)))) (BJ rfl (B7 5 1 _ [(0, U8 5)] (cu8 ([(5:UInt8)])) AW B4 CD rfl rfl rfl (by kernel_rfl))) ?_ ?_
 ·
  rintro v1 L1 ⟨_, ⟨nb2, rfl, rfl⟩, rfl⟩
  refine ⟨[], ?_⟩
  show DP _ _ _ _ _ _ _ _ [_, ⟨nb2, cu8 (numK 8 sq 8), 5, (0, 0)⟩]
  refine CP ⟨[2], [0, 1, 3, 4, 5], [0, 1], [3, 4, 5], [6]⟩ 6 _ rfl rfl (by decide +kernel) rfl ⟨⟨_, rfl, AO rfl (AB 1 3 1 AJ rfl AT rfl rfl)⟩, ⟨_, rfl, AO rfl (AL rfl (AV AX (AY 0 rfl (AH (AH (AG (Seg.head)))))))⟩, ⟨_, rfl, AO rfl (DA _ _ rfl fun _ => EE (by rw [BO]; rfl) BU rfl)⟩, trivial⟩ rfl (BJ rfl (B7 5 1 _ [(0, U8 5)] (cu8 ([(5:UInt8)])) AW B4 CD rfl rfl rfl (by kernel_rfl))) ?_
  rintro v1 L1 ⟨nb4, hnb4, rfl, rfl⟩
  refine ⟨[], ?_⟩
  show DP _ _ _ _ _ _ _ _ [_, _, ⟨nb4, cu8 ([(5:UInt8)]), 5, (0, 0)⟩]
  refine CP ⟨[2, 6], [0, 1, 3, 4, 5], [0, 1, 3, 4, 5], [], [7]⟩ 7 _ rfl rfl (by decide +kernel) rfl trivial rfl (BJ rfl (B3 43 5 [false, true, false] (Slc nb2 0 8 8) 8 (numK 8 sq 8) ([(5:UInt8)]) (some ⟨nb4, 0, none⟩) 1 1 9 AW B0 rfl (.inr ⟨nb2, [], 8, rfl, (by simp [take?, cu8, cu32, cu64]), (by first | exact (show (numK 8 sq 8).length = 8 from BE _ _ _) | simp [(show (numK 8 sq 8).length = 8 from BE _ _ _)]), (by simp), (by omega), (by unfold maxLen; omega)⟩) rfl (by simp) (SrcAt.mem (AY 2 rfl (A1 _))) (by omega) (by unfold maxLen; omega) (by omega))) ?_
  rintro v1 L1 ⟨nb5, sp1, cp1, hg1, rfl, rfl, ha1, ha2, ha3, ha4⟩
  refine ⟨[(8, Slc nb5 0 9 cp1)], ?_⟩
  show DP _ _ _ _ _ _ _ _ [_, _, ⟨nb5, cu8 ((numK 8 sq 8) ++ ([(5:UInt8)])) ++ sp1, 5, (0, 0)⟩]
  refine DK ⟨[2, 6, 7], [0, 1, 3, 4, 5, 8], [0, 1, 3, 4, 5], [8], []⟩ rfl rfl (by decide +kernel) rfl ⟨⟨_, rfl, AO rfl (AF rfl)⟩, trivial⟩ ?_
  refine CY (F' := [(3, Slc nb5 0 9 cp1), (1, Ptr nb1 0), (2, .slice none 0 0)]) (by kernel_rfl) ?_
  refine AE (AI (AI (AC (AA (Ptr nb1 1) (AB 1 3 1 AJ rfl AT rfl rfl) rfl ?_))))
  refine AA (I64 5) (AL rfl (AV AX (AY 0 rfl (AH (AH (AG (Seg.head))))))) rfl ?_
  refine AA (.bool (decide ((5:Int) ≠ (3:Int)))) (AQ rfl rfl fun _ => DI _ _) rfl ?_
  refine AK (AE (B5 _ rfl (by decide) ?_))
  refine AC (AA _ (AM rfl) rfl ?_)
  refine AA (Ptr nb1 27) (AB 27 22 1 AJ rfl AP rfl rfl) rfl ?_
  refine AA (U64 eq) (AL rfl (AV AR (AY 0 rfl (Seg.right 27 0 (by simp [htg]) rfl (Seg.head))))) rfl ?_
  refine BG (BV 88 [U64 eq, I64 8] _ (A5 _ CW rfl) (fun w1 hw1 => DE eq 8 w1 (by omega))) rfl ?_
  rintro v1 L1 ⟨_, ⟨nb6, rfl, rfl⟩, rfl⟩
  show JL _ _ _ _ ((19, Slc nb6 0 8 8) :: _) [_, _, _, ⟨nb6, cu8 (numK 8 eq 8), 5, (0, 0)⟩]
  refine BG (B3 43 5 [false, false, true, false] (Slc nb5 0 9 cp1) 9 ((numK 8 sq 8) ++ ([(5:UInt8)])) (numK 8 eq 8) (some ⟨nb6, 0, none⟩) 8 8 17 AW B0 rfl (.inr ⟨nb5, sp1, cp1, rfl, rfl, (by first | exact ha1 | simp [ha1]), ha2, (by omega), (by omega)⟩) rfl (by first | exact (show (numK 8 eq 8).length = 8 from BE _ _ _) | simp [(show (numK 8 eq 8).length = 8 from BE _ _ _)]; try omega) (SrcAt.mem (AY 3 rfl (A1 _))) (by omega) (by unfold maxLen; omega) (by omega)) rfl ?_
  rintro v1 L1 ⟨nb7, sp2, cp2, hg2, rfl, rfl, ha5, ha6, ha7, ha8⟩
  show JL _ _ _ _ ((20, Slc nb7 0 17 cp2) :: _) [_, _, _, ⟨nb7, cu8 (((numK 8 sq 8) ++ ([(5:UInt8)])) ++ (numK 8 eq 8)) ++ sp2, 5, (0, 0)⟩]
  refine AA _ (AF rfl) rfl ?_
  refine AK (AE (AI (AI (AC (AA (Ptr nb1 1) (AB 1 3 1 AJ rfl AT rfl rfl) rfl ?_)))))
  refine AA (I64 5) (AL rfl (AV AX (AY 0 rfl (AH (AH (AG (Seg.head))))))) rfl ?_
  refine AK (AE (BY (AI (AC (AA (.bool (decide ((5:Int) = (1:Int)))) (AQ rfl rfl fun _ => A4 _ _) rfl ?_)))))
  refine AA _ (AF rfl) rfl ?_
  refine AK (AE (BT _ rfl (by decide) ?_))
  refine AI (AC (AA (.bool (decide ((5:Int) = (2:Int)))) (AQ rfl rfl fun _ => A4 _ _) rfl ?_))
  refine AA _ (AF rfl) rfl ?_
  refine AK (AE (BT _ rfl (by decide) ?_))
  refine AI (AC (AA (.bool (decide ((5:Int) = (3:Int)))) (AQ rfl rfl fun _ => A4 _ _) rfl ?_))
  refine AA _ (AF rfl) rfl ?_
  refine AK (AE (BT _ rfl (by decide) ?_))
  refine BM (BR (AE (AI (AC (AA _ (AM rfl) rfl ?_)))))
  refine AA _ (AF rfl) rfl ?_
  refine AK (AE (BA (BF [false, false, false, true] ?_)))
  show JQ _ _ _ _ [_]
  refine A9 (Slc nb7 0 17 cp2) (res1 DT (A7 rfl)) fun w1 hw1 => ?_
  have hq : ((numK 8 sq 8) ++ ([(5:UInt8)])) ++ (numK 8 eq 8) = (numK 8 sq 8 ++ numK 1 (5:UInt64) 1) ++ numK 8 eq 8 := by rw [nkL5]
  rw [hq] at hw1
  exact ⟨_, _, rfl, ⟨nb7, sp2, cp2, rfl, rfl, ha6, ha7, ha8⟩, hw1.sub (by simp) (by simp)⟩
 ·
  rintro v1 L1 ⟨nb3, hnb3, rfl, rfl⟩
  refine ⟨[], ?_⟩
  show DP _ _ _ _ _ _ _ _ [_, ⟨nb3, cu8 ([(5:UInt8)]), 5, (0, 0)⟩]
  refine CP ⟨[6], [0, 1, 3, 4, 5], [3, 4, 5], [0, 1], [2]⟩ 2 _ rfl rfl (by decide +kernel) rfl ⟨⟨_, rfl, AO rfl (AB 0 22 1 AJ rfl AP rfl rfl)⟩, ⟨_, rfl, AO rfl (AL rfl (AV AR (AY 0 rfl (AH (AH (Seg.head))))))⟩, trivial⟩ rfl (BJ rfl (BV 88 [U64 sq, I64 8] _ (A5 _ CW rfl) (fun w1 hw1 => DE sq 8 w1 (by omega)))) ?_
  rintro v1 L1 ⟨_, ⟨nb8, rfl, rfl⟩, rfl⟩
  refine ⟨[], ?_⟩
  show DP _ _ _ _ _ _ _ _ [_, _, ⟨nb8, cu8 (numK 8 sq 8), 5, (0, 0)⟩]
  refine CP ⟨[6, 2], [0, 1, 3, 4, 5], [0, 1, 3, 4, 5], [], [7]⟩ 7 _ rfl rfl (by decide +kernel) rfl trivial rfl (BJ rfl (B3 43 5 [false, false, true] (Slc nb8 0 8 8) 8 (numK 8 sq 8) ([(5:UInt8)]) (some ⟨nb3, 0, none⟩) 1 1 9 AW B0 rfl (.inr ⟨nb8, [], 8, rfl, (by simp [take?, cu8, cu32, cu64]), (by first | exact (show (numK 8 sq 8).length = 8 from BE _ _ _) | simp [(show (numK 8 sq 8).length = 8 from BE _ _ _)]), (by simp), (by omega), (by unfold maxLen; omega)⟩) rfl (by simp) (SrcAt.mem (AY 1 rfl (A1 _))) (by omega) (by unfold maxLen; omega) (by omega))) ?_
  rintro v1 L1 ⟨nb9, sp3, cp3, hg3, rfl, rfl, ha9, ha10, ha11, ha12⟩
  refine ⟨[(8, Slc nb9 0 9 cp3)], ?_⟩
  show DP _ _ _ _ _ _ _ _ [_, _, ⟨nb9, cu8 ((numK 8 sq 8) ++ ([(5:UInt8)])) ++ sp3, 5, (0, 0)⟩]
  refine DK ⟨[6, 2, 7], [0, 1, 3, 4, 5, 8], [0, 1, 3, 4, 5], [8], []⟩ rfl rfl (by decide +kernel) rfl ⟨⟨_, rfl, AO rfl (AF rfl)⟩, trivial⟩ ?_
  refine CY (F' := [(3, Slc nb9 0 9 cp3), (1, Ptr nb1 0), (2, .slice none 0 0)]) (by kernel_rfl) ?_
  refine AE (AI (AI (AC (AA (Ptr nb1 1) (AB 1 3 1 AJ rfl AT rfl rfl) rfl ?_))))
  refine AA (I64 5) (AL rfl (AV AX (AY 0 rfl (AH (AH (AG (Seg.head))))))) rfl ?_
  refine AA (.bool (decide ((5:Int) ≠ (3:Int)))) (AQ rfl rfl fun _ => DI _ _) rfl ?_
  refine AK (AE (B5 _ rfl (by decide) ?_))
  refine AC (AA _ (AM rfl) rfl ?_)
  refine AA (Ptr nb1 27) (AB 27 22 1 AJ rfl AP rfl rfl) rfl ?_
  refine AA (U64 eq) (AL rfl (AV AR (AY 0 rfl (Seg.right 27 0 (by simp [htg]) rfl (Seg.head))))) rfl ?_
  refine BG (BV 88 [U64 eq, I64 8] _ (A5 _ CW rfl) (fun w1 hw1 => DE eq 8 w1 (by omega))) rfl ?_
  rintro v1 L1 ⟨_, ⟨nb10, rfl, rfl⟩, rfl⟩
  show JL _ _ _ _ ((19, Slc nb10 0 8 8) :: _) [_, _, _, ⟨nb10, cu8 (numK 8 eq 8), 5, (0, 0)⟩]
  refine BG (B3 43 5 [false, false, true, false] (Slc nb9 0 9 cp3) 9 ((numK 8 sq 8) ++ ([(5:UInt8)])) (numK 8 eq 8) (some ⟨nb10, 0, none⟩) 8 8 17 AW B0 rfl (.inr ⟨nb9, sp3, cp3, rfl, rfl, (by first | exact ha9 | simp [ha9]), ha10, (by omega), (by omega)⟩) rfl (by first | exact (show (numK 8 eq 8).length = 8 from BE _ _ _) | simp [(show (numK 8 eq 8).length = 8 from BE _ _ _)]; try omega) (SrcAt.mem (AY 3 rfl (A1 _))) (by omega) (by unfold maxLen; omega) (by omega)) rfl ?_
  rintro v1 L1 ⟨nb11, sp4, cp4, hg4, rfl, rfl, ha13, ha14, ha15, ha16⟩
  show JL _ _ _ _ ((20, Slc nb11 0 17 cp4) :: _) [_, _, _, ⟨nb11, cu8 (((numK 8 sq 8) ++ ([(5:UInt8)])) ++ (numK 8 eq 8)) ++ sp4, 5, (0, 0)⟩]
  refine AA _ (AF rfl) rfl ?_
  refine AK (AE (AI (AI (AC (AA (Ptr nb1 1) (AB 1 3 1 AJ rfl AT rfl rfl) rfl ?_)))))
  refine AA (I64 5) (AL rfl (AV AX (AY 0 rfl (AH (AH (AG (Seg.head))))))) rfl ?_
  refine AK (AE (BY (AI (AC (AA (.bool (decide ((5:Int) = (1:Int)))) (AQ rfl rfl fun _ => A4 _ _) rfl ?_)))))
  refine AA _ (AF rfl) rfl ?_
  refine AK (AE (BT _ rfl (by decide) ?_))
  refine AI (AC (AA (.bool (decide ((5:Int) = (2:Int)))) (AQ rfl rfl fun _ => A4 _ _) rfl ?_))
  refine AA _ (AF rfl) rfl ?_
  refine AK (AE (BT _ rfl (by decide) ?_))
  refine AI (AC (AA (.bool (decide ((5:Int) = (3:Int)))) (AQ rfl rfl fun _ => A4 _ _) rfl ?_))
  refine AA _ (AF rfl) rfl ?_
  refine AK (AE (BT _ rfl (by decide) ?_))
  refine BM (BR (AE (AI (AC (AA _ (AM rfl) rfl ?_)))))
  refine AA _ (AF rfl) rfl ?_
  refine AK (AE (BA (BF [false, false, false, true] ?_)))
  show JQ _ _ _ _ [_]
  refine A9 (Slc nb11 0 17 cp4) (res1 DT (A7 rfl)) fun w1 hw1 => ?_
  have hq : ((numK 8 sq 8) ++ ([(5:UInt8)])) ++ (numK 8 eq 8) = (numK 8 sq 8 ++ numK 1 (5:UInt64) 1) ++ numK 8 eq 8 := by rw [nkL5]
  rw [hq] at hw1
  exact ⟨_, _, rfl, ⟨nb11, sp4, cp4, rfl, rfl, ha14, ha15, ha16⟩, hw1.sub (by simp) (by simp)⟩
def GLw (w : World) : Prop := RdA w 0 0 [.string (⟨⟨[]⟩⟩), .string (⟨⟨[114, 101, 97, 100]⟩⟩), .string (⟨⟨[115, 112, 97, 110]⟩⟩), .string (⟨⟨[99, 104, 97, 110, 103, 101]⟩⟩), .string (⟨⟨[99, 104, 97, 105, 110]⟩⟩), .string (⟨⟨[102, 111, 114, 103, 101, 116]⟩⟩)]
theorem GLw.at {C : Cx} {L : List Ent} {w : World} (hw : Hp C.w0 C.M L w) (h : GLw C.w0) (h1 : 0 ∉ C.M := by simp) : GLw w := RdA_at hw h (by simp) h1
theorem word1_c  (w : World) (hW : RdA w 0 0 [.string (⟨⟨[]⟩⟩), .string (⟨⟨[114, 101, 97, 100]⟩⟩), .string (⟨⟨[115, 112, 97, 110]⟩⟩), .string (⟨⟨[99, 104, 97, 110, 103, 101]⟩⟩), .string (⟨⟨[99, 104, 97, 105, 110]⟩⟩), .string (⟨⟨[102, 111, 114, 103, 101, 116]⟩⟩)])  : Calls Tryd.prog 74 #[I64 1] w (Post w [] (fun v L => v = .string (⟨⟨[114, 101, 97, 100]⟩⟩) ∧ L = [])) := by
 refine enter w [] 12 [] [I64 1] Tryd.func74 rfl rfl (by simp) (B2 (by simp) (by simp) (by simp)) ?_
 show JC _ _ _ [(0, I64 1)] _
 refine AI (AC (AA _ (AF rfl) rfl ?_))
 refine AK (AE (AI (AI (AC (AA _ (AM rfl) rfl ?_)))))
 refine AA (.bool (decide ((1:Int) < (1:Int)))) (AQ rfl rfl fun _ => CX _ _) rfl ?_
 refine AA _ (AM rfl) rfl ?_
 refine AN 2 5 false _ _ rfl rfl (by decide) (AM rfl) rfl ?_
 refine AN 2 5 false _ (.bool (decide ((5:Int) < (1:Int)))) rfl rfl (by decide) (AQ rfl rfl fun _ => C2 _ _) rfl ?_
 refine AA _ (A0 _ rfl (by decide) rfl) rfl ?_
 refine AK (AE (BT _ rfl (by decide) ?_))
 refine BM (AE (AI (AC (AA _ (AM rfl) rfl ?_))))
 refine AA (Ptr 0 1) (Ev_indexArr 6 9 1 1 Tryd.underlying217 Tryd.sizeOf9 rfl rfl (by omega) (by omega) (by omega)) rfl ?_
 refine AA (.string (⟨⟨[114, 101, 97, 100]⟩⟩)) (AL rfl (AV Tryd.isAgg9 (C3 (hW.mem (by simp)) (AG (Seg.head)) (by omega)))) rfl ?_
 refine AA _ (AF rfl) rfl ?_
 refine AK (AE (BA (A9 (.string (⟨⟨[114, 101, 97, 100]⟩⟩)) (res1 Tryd.results74 (A7 rfl)) fun w1 hw1 => ?_)))
 exact ⟨_, [], rfl, ⟨rfl, rfl⟩, hw1.sub (by simp) (by simp)⟩
theorem bld31_016 {w : World} {v0 : Value} {v1 : Value} {v6 : Value} (h0 : v0.cells = [v0].toArray) (h1 : v1.cells = [v1].toArray) (h6 : v6.cells = [v6].toArray) : (Instr.build 31 ([(0, v0), (1, v1), (6, v6)] : List (Nat × Value)).toArray).run Tryd.prog w = .ok (.agg ((((((([v0] : List Value) ++ ([v1] : List Value)) ++ ([.slice none 0 0] : List Value)) ++ ([U64 0] : List Value)) ++ ([I64 0] : List Value)) ++ ([U64 0, U64 0, I64 0, .slice none 0 0, .slice none 0 0, U64 0] ++ cu8 (zr8 16) : List Value)) ++ ([v6] : List Value)).toArray) w :=
 E1 (places := #[(0, 1), (1, 1), (2, 1), (3, 1), (4, 1), (5, 22), (27, 1)]) (Z := (([U64 0] : List Value) ++ (([I64 0] : List Value) ++ (([.slice none 0 0] : List Value) ++ (([U64 0] : List Value) ++ (([I64 0] : List Value) ++ (([U64 0, U64 0, I64 0, .slice none 0 0, .slice none 0 0, U64 0] ++ cu8 (zr8 16) : List Value) ++ (([U64 0] : List Value) ++ [])))))))) (fun _ => by kernel_rfl) AS (fun _ => by kernel_rfl) ((fill_start ([U64 0] : List Value) (([I64 0] : List Value) ++ (([.slice none 0 0] : List Value) ++ (([U64 0] : List Value) ++ (([I64 0] : List Value) ++ (([U64 0, U64 0, I64 0, .slice none 0 0, .slice none 0 0, U64 0] ++ cu8 (zr8 16) : List Value) ++ (([U64 0] : List Value) ++ [])))))) ([v0] : List Value) h0 (by simp [CL]) rfl).trans ((EL ([v0] : List Value) ([I64 0] : List Value) (([.slice none 0 0] : List Value) ++ (([U64 0] : List Value) ++ (([I64 0] : List Value) ++ (([U64 0, U64 0, I64 0, .slice none 0 0, .slice none 0 0, U64 0] ++ cu8 (zr8 16) : List Value) ++ (([U64 0] : List Value) ++ []))))) ([v1] : List Value) h1 (by simp [CL]) rfl).trans ((fill_skip (([v0] : List Value) ++ ([v1] : List Value)) ([.slice none 0 0] : List Value) (([U64 0] : List Value) ++ (([I64 0] : List Value) ++ (([U64 0, U64 0, I64 0, .slice none 0 0, .slice none 0 0, U64 0] ++ cu8 (zr8 16) : List Value) ++ (([U64 0] : List Value) ++ []))))).trans ((fill_skip ((([v0] : List Value) ++ ([v1] : List Value)) ++ ([.slice none 0 0] : List Value)) ([U64 0] : List Value) (([I64 0] : List Value) ++ (([U64 0, U64 0, I64 0, .slice none 0 0, .slice none 0 0, U64 0] ++ cu8 (zr8 16) : List Value) ++ (([U64 0] : List Value) ++ [])))).trans ((fill_skip (((([v0] : List Value) ++ ([v1] : List Value)) ++ ([.slice none 0 0] : List Value)) ++ ([U64 0] : List Value)) ([I64 0] : List Value) (([U64 0, U64 0, I64 0, .slice none 0 0, .slice none 0 0, U64 0] ++ cu8 (zr8 16) : List Value) ++ (([U64 0] : List Value) ++ []))).trans ((fill_skip ((((([v0] : List Value) ++ ([v1] : List Value)) ++ ([.slice none 0 0] : List Value)) ++ ([U64 0] : List Value)) ++ ([I64 0] : List Value)) ([U64 0, U64 0, I64 0, .slice none 0 0, .slice none 0 0, U64 0] ++ cu8 (zr8 16) : List Value) (([U64 0] : List Value) ++ [])).trans ((EL (((((([v0] : List Value) ++ ([v1] : List Value)) ++ ([.slice none 0 0] : List Value)) ++ ([U64 0] : List Value)) ++ ([I64 0] : List Value)) ++ ([U64 0, U64 0, I64 0, .slice none 0 0, .slice none 0 0, U64 0] ++ cu8 (zr8 16) : List Value)) ([U64 0] : List Value) [] ([v6] : List Value) h6 (by simp [CL]) rfl).trans (by simp [Instr.fill]))))))))
theorem E5  (w : World) (hW : GLw w)  : Calls Tryd.prog 17 #[] w (Post w [] (fun v L => v = .bool true ∧ L = [])) := by
 have hmx : maxLen = 9223372036854775807 := rfl
 refine enter w [] 37 [] [] Tryd.func17 rfl rfl (by simp) (B2 (by simp) (by simp) (by simp)) ?_
 show JC _ _ _ [] _
 refine AI (AC (AA _ (AF rfl) rfl ?_))
 refine AK (AE (AI (AC (AA (.agg ([U64 1, I64 5, .slice none 0 0, U64 0, I64 0, U64 0, U64 0, I64 0, .slice none 0 0, .slice none 0 0, U64 0] ++ cu8 (zr8 16) ++ [U64 3]).toArray) (EN [(0, U64 1), (1, I64 5), (6, U64 3)] _ rfl (fun _ => bld31_016 rfl rfl rfl)) rfl ?_))))
 refine BG (BV 21 [.agg ([U64 1, I64 5, .slice none 0 0, U64 0, I64 0, U64 0, U64 0, I64 0, .slice none 0 0, .slice none 0 0, U64 0] ++ cu8 (zr8 16) ++ [U64 3]).toArray] _ (A5 _ Tryd.call21 rfl) (fun w1 hw1 => putReq5_c (1:UInt64) none 0 0 ([] : List UInt64) (0:UInt64) (0:Int) (0:UInt64) (0:UInt64) (0:Int) none 0 0 ([] : List UInt64) none 0 0 ([] : List SealR) (0:UInt64) (zr8 16) (3:UInt64) w1 rfl (by omega) (by omega) (by omega) RdV.nil rfl (by omega) (by omega) (by omega) RdV.nil rfl (by omega) (by omega) (by omega) RdV.nil (CL 16) (by omega) (by omega) (by decide +kernel))) rfl ?_
 rintro v1 L1 ⟨_, ⟨nb1, sp1, cp1, rfl, rfl, hc1, hc2, hc3⟩, rfl⟩
 show JL _ _ _ _ ((5, .tuple #[Slc nb1 0 17 cp1, .nilIface]) :: _) [⟨nb1, cu8 ((numK 8 (1:UInt64) 8 ++ numK 1 (5:UInt64) 1) ++ numK 8 (3:UInt64) 8) ++ sp1, 5, (0, 0)⟩]
 refine AA _ (AM rfl) rfl ?_
 refine AA _ (CC rfl rfl) rfl ?_
 refine AA _ (CC rfl rfl) rfl ?_
 refine AA _ (AF rfl) rfl ?_
 refine AA _ (AF rfl) rfl ?_
 refine AK (AE (AI (AC (AA _ (AM rfl) rfl ?_))))
 refine AA (.bool true) (D5 _ _ _ rfl rfl (fun _ => EK ..) fun _ => D6 CT) rfl ?_
 refine AA _ (AM rfl) rfl ?_
 refine AN 2 10 true _ _ rfl rfl rfl (AM rfl) rfl ?_
 refine AN 2 10 true _ (I64 17) rfl rfl rfl (C9 AW rfl) rfl ?_
 refine AN 2 10 true _ (.bool (decide ((17:Int) = (17:Int)))) rfl rfl rfl (AQ rfl rfl fun _ => A4 _ _) rfl ?_
 refine AA _ (BD _ rfl rfl rfl) rfl ?_
 refine AA _ (AM rfl) rfl ?_
 refine AN 7 15 true _ _ rfl rfl (by decide) (AM rfl) rfl ?_
 refine AN 7 15 true _ (Ptr nb1 7) rfl rfl (by decide) (Ev_indexSl 5 1 7 AW B4 rfl rfl (by omega) (by omega) (by omega)) rfl ?_
 refine AN 7 15 true _ (U8 (g8 ((numK 8 (1:UInt64) 8 ++ numK 1 (5:UInt64) 1) ++ numK 8 (3:UInt64) 8) 7)) rfl rfl (by decide) (AL rfl (AV Tryd.isAgg5 (AY 0 rfl (AH (Seg.get (g8_get (i := 7) (by rw [(show ((numK 8 (1:UInt64) 8 ++ numK 1 (5:UInt64) 1) ++ numK 8 (3:UInt64) 8).length = 17 from (show ((numK 8 (1:UInt64) 8 ++ numK 1 (5:UInt64) 1) ++ numK 8 (3:UInt64) 8).length = 17 from (by simp [BE])))]; omega))))))) rfl ?_
 refine AN 7 15 true _ (.bool (decide ((g8 ((numK 8 (1:UInt64) 8 ++ numK 1 (5:UInt64) 1) ++ numK 8 (3:UInt64) 8) 7) = (1:UInt8)))) rfl rfl (by decide) (AQ rfl rfl fun _ => bin_eql_u8 (g8 ((numK 8 (1:UInt64) 8 ++ numK 1 (5:UInt64) 1) ++ numK 8 (3:UInt64) 8) 7) (1:UInt8)) rfl ?_
 refine AA _ (BD _ rfl (by decide) rfl) rfl ?_
 refine AA _ (AM rfl) rfl ?_
 refine AN 13 21 true _ _ rfl rfl (by decide +kernel) (AM rfl) rfl ?_
 refine AN 13 21 true _ (Ptr nb1 8) rfl rfl (by decide +kernel) (Ev_indexSl 5 1 8 AW B4 rfl rfl (by omega) (by omega) (by omega)) rfl ?_
 refine AN 13 21 true _ (U8 (g8 ((numK 8 (1:UInt64) 8 ++ numK 1 (5:UInt64) 1) ++ numK 8 (3:UInt64) 8) 8)) rfl rfl (by decide +kernel) (AL rfl (AV Tryd.isAgg5 (AY 0 rfl (AH (Seg.get (g8_get (i := 8) (by rw [(show ((numK 8 (1:UInt64) 8 ++ numK 1 (5:UInt64) 1) ++ numK 8 (3:UInt64) 8).length = 17 from (show ((numK 8 (1:UInt64) 8 ++ numK 1 (5:UInt64) 1) ++ numK 8 (3:UInt64) 8).length = 17 from (by simp [BE])))]; omega))))))) rfl ?_
 refine AN 13 21 true _ (.bool (decide ((g8 ((numK 8 (1:UInt64) 8 ++ numK 1 (5:UInt64) 1) ++ numK 8 (3:UInt64) 8) 8) = (5:UInt8)))) rfl rfl (by decide +kernel) (AQ rfl rfl fun _ => bin_eql_u8 (g8 ((numK 8 (1:UInt64) 8 ++ numK 1 (5:UInt64) 1) ++ numK 8 (3:UInt64) 8) 8) (5:UInt8)) rfl ?_
 refine AA _ (BD _ rfl (by decide +kernel) rfl) rfl ?_
 refine AA _ (AM rfl) rfl ?_
 refine AN 19 27 true _ _ rfl rfl (by decide +kernel) (AM rfl) rfl ?_
 refine AN 19 27 true _ (Ptr nb1 16) rfl rfl (by decide +kernel) (Ev_indexSl 5 1 16 AW B4 rfl rfl (by omega) (by omega) (by omega)) rfl ?_
 refine AN 19 27 true _ (U8 (g8 ((numK 8 (1:UInt64) 8 ++ numK 1 (5:UInt64) 1) ++ numK 8 (3:UInt64) 8) 16)) rfl rfl (by decide +kernel) (AL rfl (AV Tryd.isAgg5 (AY 0 rfl (AH (Seg.get (g8_get (i := 16) (by rw [(show ((numK 8 (1:UInt64) 8 ++ numK 1 (5:UInt64) 1) ++ numK 8 (3:UInt64) 8).length = 17 from (show ((numK 8 (1:UInt64) 8 ++ numK 1 (5:UInt64) 1) ++ numK 8 (3:UInt64) 8).length = 17 from (by simp [BE])))]; omega))))))) rfl ?_
 refine AN 19 27 true _ (.bool (decide ((g8 ((numK 8 (1:UInt64) 8 ++ numK 1 (5:UInt64) 1) ++ numK 8 (3:UInt64) 8) 16) = (3:UInt8)))) rfl rfl (by decide +kernel) (AQ rfl rfl fun _ => bin_eql_u8 (g8 ((numK 8 (1:UInt64) 8 ++ numK 1 (5:UInt64) 1) ++ numK 8 (3:UInt64) 8) 16) (3:UInt8)) rfl ?_
 refine AA _ (BD _ rfl (by decide +kernel) rfl) rfl ?_
 refine AA _ (AM rfl) rfl ?_
 refine DB 25 33 true _ rfl rfl (by decide +kernel) (A2 74 [I64 1] (.string (⟨⟨[114, 101, 97, 100]⟩⟩)) (A5 _ Tryd.call74 rfl) (fun w1 hw1 => word1_c w1 (GLw.at hw1 hW))) rfl ?_
 rintro v1 L1 ⟨rfl, rfl⟩
 show JL _ _ _ _ ((34, .string (⟨⟨[114, 101, 97, 100]⟩⟩)) :: _) [_]
 refine AN 25 33 true _ (.bool (decide (([114, 101, 97, 100] : List UInt8) = ([114, 101, 97, 100] : List UInt8)))) rfl rfl (by decide +kernel) (D5 _ _ _ rfl rfl (fun _ => eqGuard_str ..) fun _ => eql_str) rfl ?_
 refine AA _ (BD _ rfl (by decide +kernel) rfl) rfl ?_
 refine AA _ (AF rfl) rfl ?_
 refine AK (AE (BA (BF [false] ?_)))
 show JQ _ _ _ _ []
 refine A9 (.bool (decide (([114, 101, 97, 100] : List UInt8) = ([114, 101, 97, 100] : List UInt8)))) (res1 Tryd.results17 (A7 rfl)) fun w1 hw1 => ?_
 exact ⟨_, [], rfl, ⟨congrArg Value.bool (decide_eq_true rfl), rfl⟩, hw1.sub (by simp) (by simp)⟩
theorem bld40_0123456 {w : World} {v0 : Value} {v1 : Value} {v2 : Value} {v3 : Value} {v4 : Value} {c5 : List Value} {v6 : Value} (h0 : v0.cells = [v0].toArray) (h1 : v1.cells = [v1].toArray) (h2 : v2.cells = [v2].toArray) (h3 : v3.cells = [v3].toArray) (h4 : v4.cells = [v4].toArray) (h5 : c5.length = 22) (h6 : v6.cells = [v6].toArray) : (Instr.build 40 ([(0, v0), (1, v1), (2, v2), (3, v3), (4, v4), (5, .agg c5.toArray), (6, v6)] : List (Nat × Value)).toArray).run Tryd.prog w = .ok (.agg ((((((([v0] : List Value) ++ ([v1] : List Value)) ++ ([v2] : List Value)) ++ ([v3] : List Value)) ++ ([v4] : List Value)) ++ c5) ++ ([v6] : List Value)).toArray) w :=
 E1 (places := #[(0, 1), (1, 1), (2, 1), (3, 1), (4, 1), (5, 22), (27, 1)]) (Z := (([U64 0] : List Value) ++ (([I64 0] : List Value) ++ (([.slice none 0 0] : List Value) ++ (([U64 0] : List Value) ++ (([I64 0] : List Value) ++ (([U64 0, U64 0, I64 0, .slice none 0 0, .slice none 0 0, U64 0] ++ cu8 (zr8 16) : List Value) ++ (([U64 0] : List Value) ++ [])))))))) (fun _ => by kernel_rfl) AJ (fun _ => by kernel_rfl) ((fill_start ([U64 0] : List Value) (([I64 0] : List Value) ++ (([.slice none 0 0] : List Value) ++ (([U64 0] : List Value) ++ (([I64 0] : List Value) ++ (([U64 0, U64 0, I64 0, .slice none 0 0, .slice none 0 0, U64 0] ++ cu8 (zr8 16) : List Value) ++ (([U64 0] : List Value) ++ [])))))) ([v0] : List Value) h0 (by simp [CL]) rfl).trans ((EL ([v0] : List Value) ([I64 0] : List Value) (([.slice none 0 0] : List Value) ++ (([U64 0] : List Value) ++ (([I64 0] : List Value) ++ (([U64 0, U64 0, I64 0, .slice none 0 0, .slice none 0 0, U64 0] ++ cu8 (zr8 16) : List Value) ++ (([U64 0] : List Value) ++ []))))) ([v1] : List Value) h1 (by simp [CL]) rfl).trans ((EL (([v0] : List Value) ++ ([v1] : List Value)) ([.slice none 0 0] : List Value) (([U64 0] : List Value) ++ (([I64 0] : List Value) ++ (([U64 0, U64 0, I64 0, .slice none 0 0, .slice none 0 0, U64 0] ++ cu8 (zr8 16) : List Value) ++ (([U64 0] : List Value) ++ [])))) ([v2] : List Value) h2 (by simp [CL]) rfl).trans ((EL ((([v0] : List Value) ++ ([v1] : List Value)) ++ ([v2] : List Value)) ([U64 0] : List Value) (([I64 0] : List Value) ++ (([U64 0, U64 0, I64 0, .slice none 0 0, .slice none 0 0, U64 0] ++ cu8 (zr8 16) : List Value) ++ (([U64 0] : List Value) ++ []))) ([v3] : List Value) h3 (by simp [CL]) rfl).trans ((EL (((([v0] : List Value) ++ ([v1] : List Value)) ++ ([v2] : List Value)) ++ ([v3] : List Value)) ([I64 0] : List Value) (([U64 0, U64 0, I64 0, .slice none 0 0, .slice none 0 0, U64 0] ++ cu8 (zr8 16) : List Value) ++ (([U64 0] : List Value) ++ [])) ([v4] : List Value) h4 (by simp [CL]) rfl).trans ((EL ((((([v0] : List Value) ++ ([v1] : List Value)) ++ ([v2] : List Value)) ++ ([v3] : List Value)) ++ ([v4] : List Value)) ([U64 0, U64 0, I64 0, .slice none 0 0, .slice none 0 0, U64 0] ++ cu8 (zr8 16) : List Value) (([U64 0] : List Value) ++ []) c5 rfl (by simp [CL, h5]) (by simp [h5, CL])).trans ((EL (((((([v0] : List Value) ++ ([v1] : List Value)) ++ ([v2] : List Value)) ++ ([v3] : List Value)) ++ ([v4] : List Value)) ++ c5) ([U64 0] : List Value) [] ([v6] : List Value) h6 (by simp [CL, h5]) rfl).trans (by simp [Instr.fill]))))))))
theorem reqZ_c (sq : UInt64) (qk : Int) (aiq : Option Addr) (niq ciq : Nat) (lq : List UInt64) (fs : UInt64) (mn : Int) (pv ep : UInt64) (kd : Int) (ai : Option Addr) (ni ci : Nat) (l : List UInt64) (sa : Option Addr) (sc : Nat) (bl : UInt64) (tg : List UInt8) (eq : UInt64)  (w : World) (hlq : lq.length = niq) (hnmq : niq ≤ 2000000) (hncq : niq ≤ ciq) (hcmq : ciq ≤ maxLen) (hvq : RdV w aiq (cu64 lq)) (hl : l.length = ni) (hnm : ni ≤ 2000000) (hnc : ni ≤ ci) (hcm : ci ≤ maxLen) (hv : RdV w ai (cu64 l)) (hcs : sc ≤ maxLen) (hnS : sa = none → sc = 0) (htg : tg.length = 16)  : Calls Tryd.prog 19 #[.agg ([U64 sq, I64 (qk), .slice aiq niq ciq, U64 fs, I64 (mn), U64 pv, U64 ep, I64 (kd), .slice ai ni ci, .slice sa 0 sc, U64 bl] ++ cu8 tg ++ [U64 eq]).toArray] w (Post w [] (fun v L => v = .agg ([U64 sq, I64 qk, .slice aiq niq ciq, U64 fs, I64 mn, U64 pv, U64 ep, I64 kd, .slice ai ni ci, .slice none 0 0, U64 bl] ++ cu8 tg ++ [U64 eq]).toArray ∧ L = [])) := by
 have hmx : maxLen = 9223372036854775807 := rfl
 refine enter (P := Tryd.prog) (f := 19) (fn := Tryd.f19) w [] 19 [] [.agg ([U64 sq, I64 (qk), .slice aiq niq ciq, U64 fs, I64 (mn), U64 pv, U64 ep, I64 (kd), .slice ai ni ci, .slice sa 0 sc, U64 bl] ++ cu8 tg ++ [U64 eq]).toArray] Tryd.func19 rfl rfl (by simp) (B2 (by simp) (by simp) (by simp)) ?_
 show JC _ _ _ [(0, .agg ([U64 sq, I64 (qk), .slice aiq niq ciq, U64 fs, I64 (mn), U64 pv, U64 ep, I64 (kd), .slice ai ni ci, .slice sa 0 sc, U64 bl] ++ cu8 tg ++ [U64 eq]).toArray)] _
 refine AI (AC (BG (CE (.agg ([U64 sq, I64 (qk), .slice aiq niq ciq, U64 fs, I64 (mn), U64 pv, U64 ep, I64 (kd), .slice ai ni ci, .slice sa 0 sc, U64 bl] ++ cu8 tg ++ [U64 eq]).toArray) ([U64 sq, I64 (qk), .slice aiq niq ciq, U64 fs, I64 (mn), U64 pv, U64 ep, I64 (kd), .slice ai ni ci, .slice sa 0 sc, U64 bl] ++ cu8 tg ++ [U64 eq]) rfl (by first | rfl | simp)) rfl ?_))
 rintro v1 L1 ⟨nb1, hnb1, rfl, rfl⟩
 show JL _ _ _ _ ((1, Ptr nb1 0) :: _) [⟨nb1, [U64 sq, I64 (qk), .slice aiq niq ciq, U64 fs, I64 (mn), U64 pv, U64 ep, I64 (kd), .slice ai ni ci, .slice sa 0 sc, U64 bl] ++ cu8 tg ++ [U64 eq], 31, (0, 0)⟩]
 refine BG (DF _ ([U64 0, I64 0, .slice none 0 0, U64 0, I64 0, U64 0, U64 0, I64 0, .slice none 0 0, .slice none 0 0, U64 0] ++ cu8 (zr8 16) ++ [U64 0]) DZ (by kernel_rfl)) rfl ?_
 rintro v1 L1 ⟨nb2, hnb2, rfl, rfl⟩
 show JL _ _ _ _ ((2, Ptr nb2 0) :: _) [_, ⟨nb2, [U64 0, I64 0, .slice none 0 0, U64 0, I64 0, U64 0, U64 0, I64 0, .slice none 0 0, .slice none 0 0, U64 0] ++ cu8 (zr8 16) ++ [U64 0], 40, (0, 0)⟩]
 refine AK (AE (AI (DC 19 3 [(0, Ptr nb1 0), (1, U64 sq), (2, Ptr nb1 1), (3, I64 (qk)), (4, Ptr nb1 2), (5, .slice aiq niq ciq), (6, Ptr nb1 3), (7, U64 fs), (8, Ptr nb1 4), (9, I64 (mn)), (10, Ptr nb1 5), (11, .agg ([U64 pv, U64 ep, I64 (kd), .slice ai ni ci, .slice sa 0 sc, U64 bl] ++ cu8 tg).toArray), (13, Ptr nb1 27), (14, U64 eq)] B9 rfl (by decide +kernel) ?_)))
 refine CP ⟨[], [0, 1, 2, 3, 4, 5, 6, 7, 8, 9, 10, 11, 13, 14], [], [0, 1, 2, 3, 4, 5, 6, 7, 8, 9, 10, 11, 13, 14], [12]⟩ 12 _ rfl rfl (by decide +kernel) rfl ⟨⟨_, rfl, AO rfl (AB 0 22 1 AS rfl AP rfl rfl)⟩, ⟨_, rfl, AO rfl (AL rfl (AV AR (AY 0 rfl (AH (AH (Seg.head))))))⟩, ⟨_, rfl, AO rfl (AB 1 3 1 AS rfl AT rfl rfl)⟩, ⟨_, rfl, AO rfl (AL rfl (AV AX (AY 0 rfl (AH (AH (AG (Seg.head)))))))⟩, ⟨_, rfl, AO rfl (AB 2 23 1 AS rfl BI rfl rfl)⟩, ⟨_, rfl, AO rfl (AL rfl (AV BL (AY 0 rfl (AH (AH (AG (AG (Seg.head))))))))⟩, ⟨_, rfl, AO rfl (AB 3 22 1 AS rfl AP rfl rfl)⟩, ⟨_, rfl, AO rfl (AL rfl (AV AR (AY 0 rfl (AH (AH (AG (AG (AG (Seg.head)))))))))⟩, ⟨_, rfl, AO rfl (AB 4 3 1 AS rfl AT rfl rfl)⟩, ⟨_, rfl, AO rfl (AL rfl (AV AX (AY 0 rfl (AH (AH (AG (AG (AG (AG (Seg.head))))))))))⟩, ⟨_, rfl, AO rfl (AB 5 29 22 AS rfl CN rfl rfl)⟩, ⟨_, rfl, AO rfl (AL rfl (B1 D2 CN (by simp [htg]) (AY 0 rfl (CO (p := [U64 sq, I64 (qk), .slice aiq niq ciq, U64 fs, I64 (mn)]) (q := [U64 eq]) (vs := [U64 pv, U64 ep, I64 (kd), .slice ai ni ci, .slice sa 0 sc, U64 bl] ++ cu8 tg) (by first | rfl | (simp only [List.append_assoc, List.nil_append, List.append_nil, List.cons_append]; done)) rfl))))⟩, ⟨_, rfl, AO rfl (AB 27 22 1 AS rfl AP rfl rfl)⟩, ⟨_, rfl, AO rfl (AL rfl (AV AR (AY 0 rfl (Seg.right 27 0 (by simp [htg]) rfl (Seg.head)))))⟩, trivial⟩ rfl (BJ rfl (A2 44 [.agg ([U64 pv, U64 ep, I64 (kd), .slice ai ni ci, .slice sa 0 sc, U64 bl] ++ cu8 tg).toArray] (.agg ([U64 pv, U64 ep, I64 (kd), .slice ai ni ci, .slice none 0 0, U64 bl] ++ cu8 tg).toArray) (A5 _ Tryd.call44 rfl) (fun w1 hw1 => docTZ_c pv ep (kd) ai ni ci l sa sc bl tg w1 hl (by omega) (by omega) (by omega) (BP hw1 rfl hv) (by omega) hnS htg))) ?_
 rintro v1 L1 ⟨rfl, rfl⟩
 refine ⟨[(15, .agg ([U64 sq, I64 (qk), .slice aiq niq ciq, U64 fs, I64 (mn), U64 pv, U64 ep, I64 (kd), .slice ai ni ci, .slice none 0 0, U64 bl] ++ cu8 tg ++ [U64 eq]).toArray)], ?_⟩
 show DP _ _ _ _ _ _ _ _ [_, _]
 refine EU ⟨[12], [0, 1, 2, 3, 4, 5, 6, 7, 8, 9, 10, 11, 13, 14, 15], [10, 11], [0, 1, 2, 3, 4, 5, 6, 7, 8, 9, 13, 14, 15], [16]⟩ 16 rfl rfl (by decide +kernel) rfl ⟨⟨_, rfl, AO rfl (AB 0 22 1 AS rfl AP rfl rfl)⟩, ⟨_, rfl, AO rfl (AL rfl (AV AR (AY 0 rfl (AH (AH (Seg.head))))))⟩, ⟨_, rfl, AO rfl (AB 1 3 1 AS rfl AT rfl rfl)⟩, ⟨_, rfl, AO rfl (AL rfl (AV AX (AY 0 rfl (AH (AH (AG (Seg.head)))))))⟩, ⟨_, rfl, AO rfl (AB 2 23 1 AS rfl BI rfl rfl)⟩, ⟨_, rfl, AO rfl (AL rfl (AV BL (AY 0 rfl (AH (AH (AG (AG (Seg.head))))))))⟩, ⟨_, rfl, AO rfl (AB 3 22 1 AS rfl AP rfl rfl)⟩, ⟨_, rfl, AO rfl (AL rfl (AV AR (AY 0 rfl (AH (AH (AG (AG (AG (Seg.head)))))))))⟩, ⟨_, rfl, AO rfl (AB 4 3 1 AS rfl AT rfl rfl)⟩, ⟨_, rfl, AO rfl (AL rfl (AV AX (AY 0 rfl (AH (AH (AG (AG (AG (AG (Seg.head))))))))))⟩, ⟨_, rfl, AO rfl (AB 27 22 1 AS rfl AP rfl rfl)⟩, ⟨_, rfl, AO rfl (AL rfl (AV AR (AY 0 rfl (Seg.right 27 0 (by simp [htg]) rfl (Seg.head)))))⟩, ⟨_, rfl, AO rfl (EN [(0, U64 sq), (1, I64 (qk)), (2, .slice aiq niq ciq), (3, U64 fs), (4, I64 (mn)), (5, .agg ([U64 pv, U64 ep, I64 (kd), .slice ai ni ci, .slice none 0 0, U64 bl] ++ cu8 tg).toArray), (6, U64 eq)] _ rfl (fun _ => bld40_0123456 rfl rfl rfl rfl rfl (by simp [CL, htg]) rfl))⟩, trivial⟩ rfl (BJ rfl (C5 1 nb2 28 ([U64 0, I64 0, .slice none 0 0, U64 0, I64 0, U64 0, U64 0, I64 0, .slice none 0 0, .slice none 0 0, U64 0] ++ cu8 (zr8 16) ++ [U64 0]) 40 ([U64 sq, I64 (qk), .slice aiq niq ciq, U64 fs, I64 (mn), U64 pv, U64 ep, I64 (kd), .slice ai ni ci, .slice none 0 0, U64 bl] ++ cu8 tg ++ [U64 eq]) rfl rfl rfl CV (by simp [htg]) (D4 (D4 (by simp [Value.oneCell']) EZ) (by simp [Value.oneCell'])) (by simp [(CL 16)]) (DN (by simp [(CL 16), htg])))) ?_
 show DP _ _ _ _ _ _ _ _ [_, ⟨nb2, [U64 sq, I64 (qk), .slice aiq niq ciq, U64 fs, I64 (mn), U64 pv, U64 ep, I64 (kd), .slice ai ni ci, .slice none 0 0, U64 bl] ++ cu8 tg ++ [U64 eq], 40, (0, 0)⟩]
 refine DK ⟨[12, 16], [0, 1, 2, 3, 4, 5, 6, 7, 8, 9, 10, 11, 13, 14, 15], [0, 1, 2, 3, 4, 5, 6, 7, 8, 9, 10, 11, 13, 14, 15], [], []⟩ rfl rfl (by decide +kernel) rfl trivial ?_
 refine CY (F' := [(2, Ptr nb2 0)]) (by kernel_rfl) ?_
 refine AE (BA (BF [false, true] ?_))
 show JQ _ _ _ _ [_]
 refine A9 (.agg ([U64 sq, I64 (qk), .slice aiq niq ciq, U64 fs, I64 (mn), U64 pv, U64 ep, I64 (kd), .slice ai ni ci, .slice none 0 0, U64 bl] ++ cu8 tg ++ [U64 eq]).toArray) (res1 Tryd.results19 (RV_cell rfl (B1 DW CV (by simp [htg]) (AY 0 rfl (A1 _))))) fun w1 hw1 => ?_
 exact ⟨_, [], rfl, ⟨rfl, rfl⟩, hw1.sub (by simp) (by simp)⟩
theorem reqP_c (sq : UInt64) (qk : Int) (aiq : Option Addr) (niq ciq : Nat) (lq : List UInt64) (fs : UInt64) (mn : Int) (pv ep : UInt64) (kd : Int) (ai : Option Addr) (ni ci : Nat) (l : List UInt64) (sa : Option Addr) (ns sc : Nat) (ls : List SealR) (bl : UInt64) (tg : List UInt8) (eq : UInt64)  (w : World) (hlq : lq.length = niq) (hnmq : niq ≤ 2000000) (hncq : niq ≤ ciq) (hcmq : ciq ≤ maxLen) (hvq : RdV w aiq (cu64 lq)) (hl : l.length = ni) (hnm : ni ≤ 2000000) (hnc : ni ≤ ci) (hcm : ci ≤ maxLen) (hv : RdV w ai (cu64 l)) (hls : ls.length = ns) (hnn : ns ≤ 2000000) (hnd : ns ≤ sc) (hcn : sc ≤ maxLen) (hs : RdV w sa (ls.flatMap sealC)) (hp0 : 0 < ns) (htg : tg.length = 16)  : Calls Tryd.prog 19 #[.agg ([U64 sq, I64 (qk), .slice aiq niq ciq, U64 fs, I64 (mn), U64 pv, U64 ep, I64 (kd), .slice ai ni ci, .slice sa ns sc, U64 bl] ++ cu8 tg ++ [U64 eq]).toArray] w (Post w [] (fun v L => ∃ g sp cap, v = .agg ([U64 sq, I64 qk, .slice aiq niq ciq, U64 fs, I64 mn, U64 pv, U64 ep, I64 kd, .slice ai ni ci, Slc g 0 ns cap, U64 bl] ++ cu8 tg ++ [U64 eq]).toArray ∧ L = [⟨g, ls.flatMap sealC ++ sp, 164, (0, 0)⟩] ∧ sp.length = cap * 49 - ns * 49 ∧ ns ≤ cap ∧ cap ≤ maxLen)) := by
 have hmx : maxLen = 9223372036854775807 := rfl
 refine enter (P := Tryd.prog) (f := 19) (fn := Tryd.f19) w [] 19 [] [.agg ([U64 sq, I64 (qk), .slice aiq niq ciq, U64 fs, I64 (mn), U64 pv, U64 ep, I64 (kd), .slice ai ni ci, .slice sa ns sc, U64 bl] ++ cu8 tg ++ [U64 eq]).toArray] Tryd.func19 rfl rfl (by simp) (B2 (by simp) (by simp) (by simp)) ?_
 show JC _ _ _ [(0, .agg ([U64 sq, I64 (qk), .slice aiq niq ciq, U64 fs, I64 (mn), U64 pv, U64 ep, I64 (kd), .slice ai ni ci, .slice sa ns sc, U64 bl] ++ cu8 tg ++ [U64 eq]).toArray)] _
 refine AI (AC (BG (CE (.agg ([U64 sq, I64 (qk), .slice aiq niq ciq, U64 fs, I64 (mn), U64 pv, U64 ep, I64 (kd), .slice ai ni ci, .slice sa ns sc, U64 bl] ++ cu8 tg ++ [U64 eq]).toArray) ([U64 sq, I64 (qk), .slice aiq niq ciq, U64 fs, I64 (mn), U64 pv, U64 ep, I64 (kd), .slice ai ni ci, .slice sa ns sc, U64 bl] ++ cu8 tg ++ [U64 eq]) rfl (by first | rfl | simp)) rfl ?_))
 rintro v1 L1 ⟨nb1, hnb1, rfl, rfl⟩
 show JL _ _ _ _ ((1, Ptr nb1 0) :: _) [⟨nb1, [U64 sq, I64 (qk), .slice aiq niq ciq, U64 fs, I64 (mn), U64 pv, U64 ep, I64 (kd), .slice ai ni ci, .slice sa ns sc, U64 bl] ++ cu8 tg ++ [U64 eq], 31, (0, 0)⟩]
 refine BG (DF _ ([U64 0, I64 0, .slice none 0 0, U64 0, I64 0, U64 0, U64 0, I64 0, .slice none 0 0, .slice none 0 0, U64 0] ++ cu8 (zr8 16) ++ [U64 0]) DZ (by kernel_rfl)) rfl ?_
 rintro v1 L1 ⟨nb2, hnb2, rfl, rfl⟩
 show JL _ _ _ _ ((2, Ptr nb2 0) :: _) [_, ⟨nb2, [U64 0, I64 0, .slice none 0 0, U64 0, I64 0, U64 0, U64 0, I64 0, .slice none 0 0, .slice none 0 0, U64 0] ++ cu8 (zr8 16) ++ [U64 0], 40, (0, 0)⟩]
 refine AK (AE (AI (DC 19 3 [(0, Ptr nb1 0), (1, U64 sq), (2, Ptr nb1 1), (3, I64 (qk)), (4, Ptr nb1 2), (5, .slice aiq niq ciq), (6, Ptr nb1 3), (7, U64 fs), (8, Ptr nb1 4), (9, I64 (mn)), (10, Ptr nb1 5), (11, .agg ([U64 pv, U64 ep, I64 (kd), .slice ai ni ci, .slice sa ns sc, U64 bl] ++ cu8 tg).toArray), (13, Ptr nb1 27), (14, U64 eq)] B9 rfl (by decide +kernel) ?_)))
 refine CP ⟨[], [0, 1, 2, 3, 4, 5, 6, 7, 8, 9, 10, 11, 13, 14], [], [0, 1, 2, 3, 4, 5, 6, 7, 8, 9, 10, 11, 13, 14], [12]⟩ 12 _ rfl rfl (by decide +kernel) rfl ⟨⟨_, rfl, AO rfl (AB 0 22 1 AS rfl AP rfl rfl)⟩, ⟨_, rfl, AO rfl (AL rfl (AV AR (AY 0 rfl (AH (AH (Seg.head))))))⟩, ⟨_, rfl, AO rfl (AB 1 3 1 AS rfl AT rfl rfl)⟩, ⟨_, rfl, AO rfl (AL rfl (AV AX (AY 0 rfl (AH (AH (AG (Seg.head)))))))⟩, ⟨_, rfl, AO rfl (AB 2 23 1 AS rfl BI rfl rfl)⟩, ⟨_, rfl, AO rfl (AL rfl (AV BL (AY 0 rfl (AH (AH (AG (AG (Seg.head))))))))⟩, ⟨_, rfl, AO rfl (AB 3 22 1 AS rfl AP rfl rfl)⟩, ⟨_, rfl, AO rfl (AL rfl (AV AR (AY 0 rfl (AH (AH (AG (AG (AG (Seg.head)))))))))⟩, ⟨_, rfl, AO rfl (AB 4 3 1 AS rfl AT rfl rfl)⟩, ⟨_, rfl, AO rfl (AL rfl (AV AX (AY 0 rfl (AH (AH (AG (AG (AG (AG (Seg.head))))))))))⟩, ⟨_, rfl, AO rfl (AB 5 29 22 AS rfl CN rfl rfl)⟩, ⟨_, rfl, AO rfl (AL rfl (B1 D2 CN (by simp [htg]) (AY 0 rfl (CO (p := [U64 sq, I64 (qk), .slice aiq niq ciq, U64 fs, I64 (mn)]) (q := [U64 eq]) (vs := [U64 pv, U64 ep, I64 (kd), .slice ai ni ci, .slice sa ns sc, U64 bl] ++ cu8 tg) (by first | rfl | (simp only [List.append_assoc, List.nil_append, List.append_nil, List.cons_append]; done)) rfl))))⟩, ⟨_, rfl, AO rfl (AB 27 22 1 AS rfl AP rfl rfl)⟩, ⟨_, rfl, AO rfl (AL rfl (AV AR (AY 0 rfl (Seg.right 27 0 (by simp [htg]) rfl (Seg.head)))))⟩, trivial⟩ rfl (BJ rfl (BV 44 [.agg ([U64 pv, U64 ep, I64 (kd), .slice ai ni ci, .slice sa ns sc, U64 bl] ++ cu8 tg).toArray] _ (A5 _ Tryd.call44 rfl) (fun w1 hw1 => docTP_c pv ep (kd) ai ni ci l sa ns sc ls bl tg w1 hl (by omega) (by omega) (by omega) (BP hw1 rfl hv) hls (by omega) (by omega) (by omega) (BP hw1 rfl hs) (by omega) htg))) ?_
 rintro v1 L1 ⟨_, ⟨nb3, sp1, cp1, rfl, rfl, hc1, hc2, hc3⟩, rfl⟩
 refine ⟨[(15, .agg ([U64 sq, I64 (qk), .slice aiq niq ciq, U64 fs, I64 (mn), U64 pv, U64 ep, I64 (kd), .slice ai ni ci, Slc nb3 0 ns cp1, U64 bl] ++ cu8 tg ++ [U64 eq]).toArray)], ?_⟩
 show DP _ _ _ _ _ _ _ _ [_, _, ⟨nb3, ls.flatMap sealC ++ sp1, 164, (0, 0)⟩]
 refine EU ⟨[12], [0, 1, 2, 3, 4, 5, 6, 7, 8, 9, 10, 11, 13, 14, 15], [10, 11], [0, 1, 2, 3, 4, 5, 6, 7, 8, 9, 13, 14, 15], [16]⟩ 16 rfl rfl (by decide +kernel) rfl ⟨⟨_, rfl, AO rfl (AB 0 22 1 AS rfl AP rfl rfl)⟩, ⟨_, rfl, AO rfl (AL rfl (AV AR (AY 0 rfl (AH (AH (Seg.head))))))⟩, ⟨_, rfl, AO rfl (AB 1 3 1 AS rfl AT rfl rfl)⟩, ⟨_, rfl, AO rfl (AL rfl (AV AX (AY 0 rfl (AH (AH (AG (Seg.head)))))))⟩, ⟨_, rfl, AO rfl (AB 2 23 1 AS rfl BI rfl rfl)⟩, ⟨_, rfl, AO rfl (AL rfl (AV BL (AY 0 rfl (AH (AH (AG (AG (Seg.head))))))))⟩, ⟨_, rfl, AO rfl (AB 3 22 1 AS rfl AP rfl rfl)⟩, ⟨_, rfl, AO rfl (AL rfl (AV AR (AY 0 rfl (AH (AH (AG (AG (AG (Seg.head)))))))))⟩, ⟨_, rfl, AO rfl (AB 4 3 1 AS rfl AT rfl rfl)⟩, ⟨_, rfl, AO rfl (AL rfl (AV AX (AY 0 rfl (AH (AH (AG (AG (AG (AG (Seg.head))))))))))⟩, ⟨_, rfl, AO rfl (AB 27 22 1 AS rfl AP rfl rfl)⟩, ⟨_, rfl, AO rfl (AL rfl (AV AR (AY 0 rfl (Seg.right 27 0 (by simp [htg]) rfl (Seg.head)))))⟩, ⟨_, rfl, AO rfl (EN [(0, U64 sq), (1, I64 (qk)), (2, .slice aiq niq ciq), (3, U64 fs), (4, I64 (mn)), (5, .agg ([U64 pv, U64 ep, I64 (kd), .slice ai ni ci, Slc nb3 0 ns cp1, U64 bl] ++ cu8 tg).toArray), (6, U64 eq)] _ rfl (fun _ => bld40_0123456 rfl rfl rfl rfl rfl (by simp [CL, htg]) rfl))⟩, trivial⟩ rfl (BJ rfl (C5 1 nb2 28 ([U64 0, I64 0, .slice none 0 0, U64 0, I64 0, U64 0, U64 0, I64 0, .slice none 0 0, .slice none 0 0, U64 0] ++ cu8 (zr8 16) ++ [U64 0]) 40 ([U64 sq, I64 (qk), .slice aiq niq ciq, U64 fs, I64 (mn), U64 pv, U64 ep, I64 (kd), .slice ai ni ci, Slc nb3 0 ns cp1, U64 bl] ++ cu8 tg ++ [U64 eq]) rfl rfl rfl CV (by simp [htg]) (D4 (D4 (by simp [Value.oneCell']) EZ) (by simp [Value.oneCell'])) (by simp [(CL 16)]) (DN (by simp [(CL 16), htg])))) ?_
 show DP _ _ _ _ _ _ _ _ [_, ⟨nb2, [U64 sq, I64 (qk), .slice aiq niq ciq, U64 fs, I64 (mn), U64 pv, U64 ep, I64 (kd), .slice ai ni ci, Slc nb3 0 ns cp1, U64 bl] ++ cu8 tg ++ [U64 eq], 40, (0, 0)⟩, _]
 refine DK ⟨[12, 16], [0, 1, 2, 3, 4, 5, 6, 7, 8, 9, 10, 11, 13, 14, 15], [0, 1, 2, 3, 4, 5, 6, 7, 8, 9, 10, 11, 13, 14, 15], [], []⟩ rfl rfl (by decide +kernel) rfl trivial ?_
 refine CY (F' := [(2, Ptr nb2 0)]) (by kernel_rfl) ?_
 refine AE (BA (BF [false, true, true] ?_))
 show JQ _ _ _ _ [_, _]
 refine A9 (.agg ([U64 sq, I64 (qk), .slice aiq niq ciq, U64 fs, I64 (mn), U64 pv, U64 ep, I64 (kd), .slice ai ni ci, Slc nb3 0 ns cp1, U64 bl] ++ cu8 tg ++ [U64 eq]).toArray) (res1 Tryd.results19 (RV_cell rfl (B1 DW CV (by simp [htg]) (AY 0 rfl (A1 _))))) fun w1 hw1 => ?_
 exact ⟨_, _, rfl, ⟨nb3, sp1, cp1, rfl, rfl, hc1, hc2, hc3⟩, hw1.sub (by simp) (by simp)⟩
end Go.Proofs.YtkdpdgpphpngeaaDoor
