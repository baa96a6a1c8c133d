import Derived.Test.YtkdpdgpphpngeaaDoorPkTkq4
set_option linter.unusedVariables false
set_option linter.unusedSimpArgs false
set_option maxRecDepth 100000
namespace Go.Proofs.YtkdpdgpphpngeaaDoor
open Go Go.Sx
attribute [local irreducible] mid zr8 zr32 numK rnK rotr wordL spreadL comprL cpN adN spN wrdN constL initL padL stN outN routN sumG putL RightB
theorem rsame13_c (pv ep : UInt64) (kd : Int) (ai : Option Addr) (ni ci : Nat) (l : List UInt64) (sa : Option Addr) (ns sc : Nat) (ls : List SealR) (bl : UInt64) (tg : List UInt8) (pv2 ep2 : UInt64) (kd2 : Int) (ai2 : Option Addr) (ni2 ci2 : Nat) (l2 : List UInt64) (sa2 : Option Addr) (ns2 sc2 : Nat) (ls2 : List SealR) (bl2 : UInt64) (tg2 : List UInt8)  (w : World) (hl : l.length = ni) (hnm : ni ≤ 2000000) (hnc : ni ≤ ci) (hcm : ci ≤ maxLen) (hv : RdV w ai (cu64 l)) (hls : ls.length = ns) (hnn : ns ≤ 2000000) (hnd : ns ≤ sc) (hcn : sc ≤ maxLen) (hs : RdV w sa (ls.flatMap sealC)) (htg : tg.length = 16) (hl2 : l2.length = ni2) (hnm2 : ni2 ≤ 2000000) (hnc2 : ni2 ≤ ci2) (hcm2 : ci2 ≤ maxLen) (hv2 : RdV w ai2 (cu64 l2)) (hls2 : ls2.length = ns2) (hnn2 : ns2 ≤ 2000000) (hnd2 : ns2 ≤ sc2) (hcn2 : sc2 ≤ maxLen) (hs2 : RdV w sa2 (ls2.flatMap sealC)) (htg2 : tg2.length = 16)  : Calls Tryd.prog 51 #[.agg ([U64 pv, U64 ep, I64 (kd), .slice ai ni ci, .slice sa ns sc, U64 bl] ++ cu8 tg).toArray, .agg ([U64 pv2, U64 ep2, I64 (kd2), .slice ai2 ni2 ci2, .slice sa2 ns2 sc2, U64 bl2] ++ cu8 tg2).toArray] w (Post w [] (fun v L => v = .bool (decide (pv = pv2 ∧ ep = ep2 ∧ tg = tg2 ∧ kd = kd2 ∧ bl = bl2 ∧ l = l2 ∧ ls = ls2)) ∧ L = [])) := by
 have hmx : maxLen = 9223372036854775807 := rfl
 refine enter (P := Tryd.prog) (f := 51) (fn := Tryd.f51) w [] 108 [] [.agg ([U64 pv, U64 ep, I64 (kd), .slice ai ni ci, .slice sa ns sc, U64 bl] ++ cu8 tg).toArray, .agg ([U64 pv2, U64 ep2, I64 (kd2), .slice ai2 ni2 ci2, .slice sa2 ns2 sc2, U64 bl2] ++ cu8 tg2).toArray] Tryd.func51 rfl rfl (by simp) (BR (by simp) (by simp) (by simp)) ?_
 show JC _ _ _ [(0, .agg ([U64 pv, U64 ep, I64 (kd), .slice ai ni ci, .slice sa ns sc, U64 bl] ++ cu8 tg).toArray), (1, .agg ([U64 pv2, U64 ep2, I64 (kd2), .slice ai2 ni2 ci2, .slice sa2 ns2 sc2, U64 bl2] ++ cu8 tg2).toArray)] _
 refine AF (AB (AV (CG (.agg ([U64 pv, U64 ep, I64 (kd), .slice ai ni ci, .slice sa ns sc, U64 bl] ++ cu8 tg).toArray) ([U64 pv, U64 ep, I64 (kd), .slice ai ni ci, .slice sa ns sc, U64 bl] ++ cu8 tg) rfl (by first | rfl | simp)) rfl ?_))
 rintro v1 L1 ⟨nb1, hnb1, rfl, rfl⟩
 show JL _ _ _ _ ((2, Ptr nb1 0) :: _) [⟨nb1, [U64 pv, U64 ep, I64 (kd), .slice ai ni ci, .slice sa ns sc, U64 bl] ++ cu8 tg, 38, (0, 0)⟩]
 refine AV (CG (.agg ([U64 pv2, U64 ep2, I64 (kd2), .slice ai2 ni2 ci2, .slice sa2 ns2 sc2, U64 bl2] ++ cu8 tg2).toArray) ([U64 pv2, U64 ep2, I64 (kd2), .slice ai2 ni2 ci2, .slice sa2 ns2 sc2, U64 bl2] ++ cu8 tg2) rfl (by first | rfl | simp)) rfl ?_
 rintro v1 L1 ⟨nb2, hnb2, rfl, rfl⟩
 show JL _ _ _ _ ((3, Ptr nb2 0) :: _) [_, ⟨nb2, [U64 pv2, U64 ep2, I64 (kd2), .slice ai2 ni2 ci2, .slice sa2 ns2 sc2, U64 bl2] ++ cu8 tg2, 38, (0, 0)⟩]
 refine AA _ (AE rfl) rfl ?_
 refine AI (AC (AF (AF (AB (AA (Ptr nb1 0) (AH 0 22 1 C8 rfl BC rfl rfl) rfl ?_)))))
 refine AA (U64 pv) (AL rfl (AZ BG (AR 0 rfl (BE (Seg.head))))) rfl ?_
 refine AA (Ptr nb2 0) (AH 0 22 1 C8 rfl BC rfl rfl) rfl ?_
 refine AA (U64 pv2) (AL rfl (AZ BG (AR 1 rfl (BE (Seg.head))))) rfl ?_
 refine AA (.bool (decide (pv ≠ pv2))) (AJ rfl rfl fun _ => FD pv pv2) rfl ?_
 refine AA _ (AG rfl) rfl ?_
 rcases Bool.eq_false_or_eq_true (decide (pv ≠ pv2)) with hb1 | hb1
 ·
  have hp1 : pv ≠ pv2 := of_decide_eq_true hb1
  refine AO 5 12 false _ rfl rfl hb1 rfl ?_
  refine AO 5 12 false _ rfl rfl hb1 rfl ?_
  refine AO 5 12 false _ rfl rfl hb1 rfl ?_
  refine AO 5 12 false _ rfl rfl hb1 rfl ?_
  refine AO 5 12 false _ rfl rfl hb1 rfl ?_
  refine AA _ (CW _ rfl hb1 rfl) rfl ?_
  refine AA _ (AG rfl) rfl ?_
  refine AO 12 19 false _ rfl rfl rfl rfl ?_
  refine AO 12 19 false _ rfl rfl rfl rfl ?_
  refine AO 12 19 false _ rfl rfl rfl rfl ?_
  refine AO 12 19 false _ rfl rfl rfl rfl ?_
  refine AO 12 19 false _ rfl rfl rfl rfl ?_
  refine AA _ (CW _ rfl rfl rfl) rfl ?_
  refine AA _ (AG rfl) rfl ?_
  refine AO 19 26 false _ rfl rfl rfl rfl ?_
  refine AO 19 26 false _ rfl rfl rfl rfl ?_
  refine AO 19 26 false _ rfl rfl rfl rfl ?_
  refine AO 19 26 false _ rfl rfl rfl rfl ?_
  refine AO 19 26 false _ rfl rfl rfl rfl ?_
  refine AO 19 26 false _ rfl rfl rfl rfl ?_
  refine AO 19 26 false _ rfl rfl rfl rfl ?_
  refine AA _ (CW _ rfl rfl rfl) rfl ?_
  refine AA _ (AG rfl) rfl ?_
  refine AO 28 35 false _ rfl rfl rfl rfl ?_
  refine AO 28 35 false _ rfl rfl rfl rfl ?_
  refine AO 28 35 false _ rfl rfl rfl rfl ?_
  refine AO 28 35 false _ rfl rfl rfl rfl ?_
  refine AO 28 35 false _ rfl rfl rfl rfl ?_
  refine AO 28 35 false _ rfl rfl rfl rfl ?_
  refine AO 28 35 false _ rfl rfl rfl rfl ?_
  refine AA _ (CW _ rfl rfl rfl) rfl ?_
  refine AA _ (AG rfl) rfl ?_
  refine AO 37 44 false _ rfl rfl rfl rfl ?_
  refine AO 37 44 false _ rfl rfl rfl rfl ?_
  refine AO 37 44 false _ rfl rfl rfl rfl ?_
  refine AO 37 44 false _ rfl rfl rfl rfl ?_
  refine AO 37 44 false _ rfl rfl rfl rfl ?_
  refine AO 37 44 false _ rfl rfl rfl rfl ?_
  refine AO 37 44 false _ rfl rfl rfl rfl ?_
  refine AO 37 44 false _ rfl rfl rfl rfl ?_
  refine AO 37 44 false _ rfl rfl rfl rfl ?_
  refine AA _ (CW _ rfl rfl rfl) rfl ?_
  refine AA _ (AG rfl) rfl ?_
  refine AO 48 55 false _ rfl rfl rfl rfl ?_
  refine AO 48 55 false _ rfl rfl rfl rfl ?_
  refine AO 48 55 false _ rfl rfl rfl rfl ?_
  refine AO 48 55 false _ rfl rfl rfl rfl ?_
  refine AO 48 55 false _ rfl rfl rfl rfl ?_
  refine AO 48 55 false _ rfl rfl rfl rfl ?_
  refine AO 48 55 false _ rfl rfl rfl rfl ?_
  refine AO 48 55 false _ rfl rfl rfl rfl ?_
  refine AO 48 55 false _ rfl rfl rfl rfl ?_
  refine AA _ (CW _ rfl rfl rfl) rfl ?_
  refine AI (AC (D1 _ rfl rfl ?_))
  refine AF (AB (AA _ (AE rfl) rfl ?_))
  refine AI (AC (BO (A3 (CA [false, false] ?_))))
  show JQ _ _ _ _ []
  refine BQ (.bool false) (res1 Tryd.results51 (B2 rfl)) fun w1 hw1 => ?_
  refine ⟨_, [], rfl, ⟨congrArg Value.bool ?_, rfl⟩, hw1.sub (by simp) (by simp)⟩
  refine (decide_eq_false (fun h => ?_)).symm
  obtain ⟨h1, h2, h3, h4, h5, h6, h7⟩ := h
  have h8 := congrArg List.length h6
  have h9 := congrArg List.length h7
  first | omega | contradiction | exact list_ne (g64_at (i := i) (by omega)) (g64_at (i := i) (by omega)) (by assumption) h6 | (simp_all; done)
 ·
  have hp1 : ¬ (pv ≠ pv2) := of_decide_eq_false hb1
  refine BB 5 12 false _ (Ptr nb1 1) rfl rfl hb1 (AH 1 22 1 C8 rfl BC rfl rfl) rfl ?_
  refine BB 5 12 false _ (U64 ep) rfl rfl hb1 (AL rfl (AZ BG (AR 0 rfl (BE (AS (Seg.head)))))) rfl ?_
  refine BB 5 12 false _ (Ptr nb2 1) rfl rfl hb1 (AH 1 22 1 C8 rfl BC rfl rfl) rfl ?_
  refine BB 5 12 false _ (U64 ep2) rfl rfl hb1 (AL rfl (AZ BG (AR 1 rfl (BE (AS (Seg.head)))))) rfl ?_
  refine BB 5 12 false _ (.bool (decide (ep ≠ ep2))) rfl rfl hb1 (AJ rfl rfl fun _ => FD ep ep2) rfl ?_
  refine AA _ (C0 _ rfl hb1 rfl) rfl ?_
  refine AA _ (AG rfl) rfl ?_
  rcases Bool.eq_false_or_eq_true (decide (ep ≠ ep2)) with hb2 | hb2
  ·
   have hp2 : ep ≠ ep2 := of_decide_eq_true hb2
   refine AO 12 19 false _ rfl rfl hb2 rfl ?_
   refine AO 12 19 false _ rfl rfl hb2 rfl ?_
   refine AO 12 19 false _ rfl rfl hb2 rfl ?_
   refine AO 12 19 false _ rfl rfl hb2 rfl ?_
   refine AO 12 19 false _ rfl rfl hb2 rfl ?_
   refine AA _ (CW _ rfl hb2 rfl) rfl ?_
   refine AA _ (AG rfl) rfl ?_
   refine AO 19 26 false _ rfl rfl rfl rfl ?_
   refine AO 19 26 false _ rfl rfl rfl rfl ?_
   refine AO 19 26 false _ rfl rfl rfl rfl ?_
   refine AO 19 26 false _ rfl rfl rfl rfl ?_
   refine AO 19 26 false _ rfl rfl rfl rfl ?_
   refine AO 19 26 false _ rfl rfl rfl rfl ?_
   refine AO 19 26 false _ rfl rfl rfl rfl ?_
   refine AA _ (CW _ rfl rfl rfl) rfl ?_
   refine AA _ (AG rfl) rfl ?_
   refine AO 28 35 false _ rfl rfl rfl rfl ?_
   refine AO 28 35 false _ rfl rfl rfl rfl ?_
   refine AO 28 35 false _ rfl rfl rfl rfl ?_
   refine AO 28 35 false _ rfl rfl rfl rfl ?_
   refine AO 28 35 false _ rfl rfl rfl rfl ?_
   refine AO 28 35 false _ rfl rfl rfl rfl ?_
   refine AO 28 35 false _ rfl rfl rfl rfl ?_
   refine AA _ (CW _ rfl rfl rfl) rfl ?_
   refine AA _ (AG rfl) rfl ?_
   refine AO 37 44 false _ rfl rfl rfl rfl ?_
   refine AO 37 44 false _ rfl rfl rfl rfl ?_
   refine AO 37 44 false _ rfl rfl rfl rfl ?_
   refine AO 37 44 false _ rfl rfl rfl rfl ?_
   refine AO 37 44 false _ rfl rfl rfl rfl ?_
   refine AO 37 44 false _ rfl rfl rfl rfl ?_
   refine AO 37 44 false _ rfl rfl rfl rfl ?_
   refine AO 37 44 false _ rfl rfl rfl rfl ?_
   refine AO 37 44 false _ rfl rfl rfl rfl ?_
   refine AA _ (CW _ rfl rfl rfl) rfl ?_
   refine AA _ (AG rfl) rfl ?_
   refine AO 48 55 false _ rfl rfl rfl rfl ?_
   refine AO 48 55 false _ rfl rfl rfl rfl ?_
   refine AO 48 55 false _ rfl rfl rfl rfl ?_
   refine AO 48 55 false _ rfl rfl rfl rfl ?_
   refine AO 48 55 false _ rfl rfl rfl rfl ?_
   refine AO 48 55 false _ rfl rfl rfl rfl ?_
   refine AO 48 55 false _ rfl rfl rfl rfl ?_
   refine AO 48 55 false _ rfl rfl rfl rfl ?_
   refine AO 48 55 false _ rfl rfl rfl rfl ?_
   refine AA _ (CW _ rfl rfl rfl) rfl ?_
   refine AI (AC (D1 _ rfl rfl ?_))
   refine AF (AB (AA _ (AE rfl) rfl ?_))
   refine AI (AC (BO (A3 (CA [false, false] ?_))))
   show JQ _ _ _ _ []
   refine BQ (.bool false) (res1 Tryd.results51 (B2 rfl)) fun w1 hw1 => ?_
   refine ⟨_, [], rfl, ⟨congrArg Value.bool ?_, rfl⟩, hw1.sub (by simp) (by simp)⟩
   refine (decide_eq_false (fun h => ?_)).symm
   obtain ⟨h1, h2, h3, h4, h5, h6, h7⟩ := h
   have h8 := congrArg List.length h6
   have h9 := congrArg List.length h7
   first | omega | contradiction | exact list_ne (g64_at (i := i) (by omega)) (g64_at (i := i) (by omega)) (by assumption) h6 | (simp_all; done)
  ·
   have hp2 : ¬ (ep ≠ ep2) := of_decide_eq_false hb2
   refine BB 12 19 false _ (Ptr nb1 6) rfl rfl hb2 (AH 6 27 16 C8 rfl AT rfl rfl) rfl ?_
   refine BB 12 19 false _ (.agg (cu8 tg).toArray) rfl rfl hb2 (AL rfl (BH BM AT (A8 htg) (AR 0 rfl (Seg.right 6 0 rfl rfl (AN _))))) rfl ?_
   refine BB 12 19 false _ (Ptr nb2 6) rfl rfl hb2 (AH 6 27 16 C8 rfl AT rfl rfl) rfl ?_
   refine BB 12 19 false _ (.agg (cu8 tg2).toArray) rfl rfl hb2 (AL rfl (BH BM AT (A8 htg2) (AR 1 rfl (Seg.right 6 0 rfl rfl (AN _))))) rfl ?_
   refine BB 12 19 false _ (.bool (!(decide (tg = tg2)))) rfl rfl hb2 (FQ _ _ _ rfl rfl (fun _ => eqGuard_agg _ _ _ _ _ _ (by kernel_rfl)) fun _ => neq_arr8 BF B3 BZ Tryd.cells5 Tryd.has5 (by simp [htg]) (by simp [htg2])) rfl ?_
   refine AA _ (C0 _ rfl hb2 rfl) rfl ?_
   refine AA _ (AG rfl) rfl ?_
   rcases Bool.eq_false_or_eq_true (decide (tg = tg2)) with hb3 | hb3
   ·
    have hp3 : tg = tg2 := of_decide_eq_true hb3
    refine BB 19 26 false _ (Ptr nb1 2) rfl rfl (by rw [show (decide (tg = tg2)) = true from hb3] <;> rfl) (AH 2 36 4 C8 rfl B0 rfl rfl) rfl ?_
    refine BB 19 26 false _ (Ptr nb1 2) rfl rfl (by rw [show (decide (tg = tg2)) = true from hb3] <;> rfl) (AH 0 3 1 BD rfl DR rfl rfl) rfl ?_
    refine BB 19 26 false _ (I64 (kd)) rfl rfl (by rw [show (decide (tg = tg2)) = true from hb3] <;> rfl) (AL rfl (AZ DC (AR 0 rfl (BE (AS (AS (Seg.head))))))) rfl ?_
    refine BB 19 26 false _ (Ptr nb2 2) rfl rfl (by rw [show (decide (tg = tg2)) = true from hb3] <;> rfl) (AH 2 36 4 C8 rfl B0 rfl rfl) rfl ?_
    refine BB 19 26 false _ (Ptr nb2 2) rfl rfl (by rw [show (decide (tg = tg2)) = true from hb3] <;> rfl) (AH 0 3 1 BD rfl DR rfl rfl) rfl ?_
    refine BB 19 26 false _ (I64 (kd2)) rfl rfl (by rw [show (decide (tg = tg2)) = true from hb3] <;> rfl) (AL rfl (AZ DC (AR 1 rfl (BE (AS (AS (Seg.head))))))) rfl ?_
    refine BB 19 26 false _ (.bool (decide ((kd) ≠ (kd2)))) rfl rfl (by rw [show (decide (tg = tg2)) = true from hb3] <;> rfl) (AJ rfl rfl fun _ => FU _ _) rfl ?_
    refine AA _ (C0 _ rfl (by rw [show (decide (tg = tg2)) = true from hb3] <;> rfl) rfl) rfl ?_
    refine AA _ (AG rfl) rfl ?_
    rcases Bool.eq_false_or_eq_true (decide ((kd) ≠ (kd2))) with hb4 | hb4
    ·
     have hp4 : (kd) ≠ (kd2) := of_decide_eq_true hb4
     refine AO 28 35 false _ rfl rfl hb4 rfl ?_
     refine AO 28 35 false _ rfl rfl hb4 rfl ?_
     refine AO 28 35 false _ rfl rfl hb4 rfl ?_
     refine AO 28 35 false _ rfl rfl hb4 rfl ?_
     refine AO 28 35 false _ rfl rfl hb4 rfl ?_
     refine AO 28 35 false _ rfl rfl hb4 rfl ?_
     refine AO 28 35 false _ rfl rfl hb4 rfl ?_
     refine AA _ (CW _ rfl hb4 rfl) rfl ?_
     refine AA _ (AG rfl) rfl ?_
     refine AO 37 44 false _ rfl rfl rfl rfl ?_
     refine AO 37 44 false _ rfl rfl rfl rfl ?_
     refine AO 37 44 false _ rfl rfl rfl rfl ?_
     refine AO 37 44 false _ rfl rfl rfl rfl ?_
     refine AO 37 44 false _ rfl rfl rfl rfl ?_
     refine AO 37 44 false _ rfl rfl rfl rfl ?_
     refine AO 37 44 false _ rfl rfl rfl rfl ?_
     refine AO 37 44 false _ rfl rfl rfl rfl ?_
     refine AO 37 44 false _ rfl rfl rfl rfl ?_
     refine AA _ (CW _ rfl rfl rfl) rfl ?_
     refine AA _ (AG rfl) rfl ?_
     refine AO 48 55 false _ rfl rfl rfl rfl ?_
     refine AO 48 55 false _ rfl rfl rfl rfl ?_
     refine AO 48 55 false _ rfl rfl rfl rfl ?_
     refine AO 48 55 false _ rfl rfl rfl rfl ?_
     refine AO 48 55 false _ rfl rfl rfl rfl ?_
     refine AO 48 55 false _ rfl rfl rfl rfl ?_
     refine AO 48 55 false _ rfl rfl rfl rfl ?_
     refine AO 48 55 false _ rfl rfl rfl rfl ?_
     refine AO 48 55 false _ rfl rfl rfl rfl ?_
     refine AA _ (CW _ rfl rfl rfl) rfl ?_
     refine AI (AC (D1 _ rfl rfl ?_))
     refine AF (AB (AA _ (AE rfl) rfl ?_))
     refine AI (AC (BO (A3 (CA [false, false] ?_))))
     show JQ _ _ _ _ []
     refine BQ (.bool false) (res1 Tryd.results51 (B2 rfl)) fun w1 hw1 => ?_
     refine ⟨_, [], rfl, ⟨congrArg Value.bool ?_, rfl⟩, hw1.sub (by simp) (by simp)⟩
     refine (decide_eq_false (fun h => ?_)).symm
     obtain ⟨h1, h2, h3, h4, h5, h6, h7⟩ := h
     have h8 := congrArg List.length h6
     have h9 := congrArg List.length h7
     first | omega | contradiction | exact list_ne (g64_at (i := i) (by omega)) (g64_at (i := i) (by omega)) (by assumption) h6 | (simp_all; done)
    ·
     have hp4 : ¬ ((kd) ≠ (kd2)) := of_decide_eq_false hb4
     refine BB 28 35 false _ (Ptr nb1 2) rfl rfl hb4 (AH 2 36 4 C8 rfl B0 rfl rfl) rfl ?_
     refine BB 28 35 false _ (Ptr nb1 5) rfl rfl hb4 (AH 3 22 1 BD rfl BC rfl rfl) rfl ?_
     refine BB 28 35 false _ (U64 bl) rfl rfl hb4 (AL rfl (AZ BG (AR 0 rfl (BE (AS (AS (AS (AS (AS (Seg.head)))))))))) rfl ?_
     refine BB 28 35 false _ (Ptr nb2 2) rfl rfl hb4 (AH 2 36 4 C8 rfl B0 rfl rfl) rfl ?_
     refine BB 28 35 false _ (Ptr nb2 5) rfl rfl hb4 (AH 3 22 1 BD rfl BC rfl rfl) rfl ?_
     refine BB 28 35 false _ (U64 bl2) rfl rfl hb4 (AL rfl (AZ BG (AR 1 rfl (BE (AS (AS (AS (AS (AS (Seg.head)))))))))) rfl ?_
     refine BB 28 35 false _ (.bool (decide (bl ≠ bl2))) rfl rfl hb4 (AJ rfl rfl fun _ => FD bl bl2) rfl ?_
     refine AA _ (C0 _ rfl hb4 rfl) rfl ?_
     refine AA _ (AG rfl) rfl ?_
     rcases Bool.eq_false_or_eq_true (decide (bl ≠ bl2)) with hb5 | hb5
     ·
      have hp5 : bl ≠ bl2 := of_decide_eq_true hb5
      refine AO 37 44 false _ rfl rfl hb5 rfl ?_
      refine AO 37 44 false _ rfl rfl hb5 rfl ?_
      refine AO 37 44 false _ rfl rfl hb5 rfl ?_
      refine AO 37 44 false _ rfl rfl hb5 rfl ?_
      refine AO 37 44 false _ rfl rfl hb5 rfl ?_
      refine AO 37 44 false _ rfl rfl hb5 rfl ?_
      refine AO 37 44 false _ rfl rfl hb5 rfl ?_
      refine AO 37 44 false _ rfl rfl hb5 rfl ?_
      refine AO 37 44 false _ rfl rfl hb5 rfl ?_
      refine AA _ (CW _ rfl hb5 rfl) rfl ?_
      refine AA _ (AG rfl) rfl ?_
      refine AO 48 55 false _ rfl rfl rfl rfl ?_
      refine AO 48 55 false _ rfl rfl rfl rfl ?_
      refine AO 48 55 false _ rfl rfl rfl rfl ?_
      refine AO 48 55 false _ rfl rfl rfl rfl ?_
      refine AO 48 55 false _ rfl rfl rfl rfl ?_
      refine AO 48 55 false _ rfl rfl rfl rfl ?_
      refine AO 48 55 false _ rfl rfl rfl rfl ?_
      refine AO 48 55 false _ rfl rfl rfl rfl ?_
      refine AO 48 55 false _ rfl rfl rfl rfl ?_
      refine AA _ (CW _ rfl rfl rfl) rfl ?_
      refine AI (AC (D1 _ rfl rfl ?_))
      refine AF (AB (AA _ (AE rfl) rfl ?_))
      refine AI (AC (BO (A3 (CA [false, false] ?_))))
      show JQ _ _ _ _ []
      refine BQ (.bool false) (res1 Tryd.results51 (B2 rfl)) fun w1 hw1 => ?_
      refine ⟨_, [], rfl, ⟨congrArg Value.bool ?_, rfl⟩, hw1.sub (by simp) (by simp)⟩
      refine (decide_eq_false (fun h => ?_)).symm
      obtain ⟨h1, h2, h3, h4, h5, h6, h7⟩ := h
      have h8 := congrArg List.length h6
      have h9 := congrArg List.length h7
      first | omega | contradiction | exact list_ne (g64_at (i := i) (by omega)) (g64_at (i := i) (by omega)) (by assumption) h6 | (simp_all; done)
     ·
      have hp5 : ¬ (bl ≠ bl2) := of_decide_eq_false hb5
      refine BB 37 44 false _ (Ptr nb1 2) rfl rfl hb5 (AH 2 36 4 C8 rfl B0 rfl rfl) rfl ?_
      refine BB 37 44 false _ (Ptr nb1 3) rfl rfl hb5 (AH 1 23 1 BD rfl CV rfl rfl) rfl ?_
      refine BB 37 44 false _ (.slice ai ni ci) rfl rfl hb5 (AL rfl (AZ DB (AR 0 rfl (BE (AS (AS (AS (Seg.head)))))))) rfl ?_
      refine BB 37 44 false _ (I64 ni) rfl rfl hb5 (DW BI rfl) rfl ?_
      refine BB 37 44 false _ (Ptr nb2 2) rfl rfl hb5 (AH 2 36 4 C8 rfl B0 rfl rfl) rfl ?_
      refine BB 37 44 false _ (Ptr nb2 3) rfl rfl hb5 (AH 1 23 1 BD rfl CV rfl rfl) rfl ?_
      refine BB 37 44 false _ (.slice ai2 ni2 ci2) rfl rfl hb5 (AL rfl (AZ DB (AR 1 rfl (BE (AS (AS (AS (Seg.head)))))))) rfl ?_
      refine BB 37 44 false _ (I64 ni2) rfl rfl hb5 (DW BI rfl) rfl ?_
      refine BB 37 44 false _ (.bool (decide (((ni:Int)) ≠ ((ni2:Int))))) rfl rfl hb5 (AJ rfl rfl fun _ => FU _ _) rfl ?_
      refine AA _ (C0 _ rfl hb5 rfl) rfl ?_
      refine AA _ (AG rfl) rfl ?_
      rcases Bool.eq_false_or_eq_true (decide (((ni:Int)) ≠ ((ni2:Int)))) with hb6 | hb6
      ·
       have hp6 : ((ni:Int)) ≠ ((ni2:Int)) := of_decide_eq_true hb6
       refine AO 48 55 false _ rfl rfl hb6 rfl ?_
       refine AO 48 55 false _ rfl rfl hb6 rfl ?_
       refine AO 48 55 false _ rfl rfl hb6 rfl ?_
       refine AO 48 55 false _ rfl rfl hb6 rfl ?_
       refine AO 48 55 false _ rfl rfl hb6 rfl ?_
       refine AO 48 55 false _ rfl rfl hb6 rfl ?_
       refine AO 48 55 false _ rfl rfl hb6 rfl ?_
       refine AO 48 55 false _ rfl rfl hb6 rfl ?_
       refine AO 48 55 false _ rfl rfl hb6 rfl ?_
       refine AA _ (CW _ rfl hb6 rfl) rfl ?_
       refine AI (AC (D1 _ rfl rfl ?_))
       refine AF (AB (AA _ (AE rfl) rfl ?_))
       refine AI (AC (BO (A3 (CA [false, false] ?_))))
       show JQ _ _ _ _ []
       refine BQ (.bool false) (res1 Tryd.results51 (B2 rfl)) fun w1 hw1 => ?_
       refine ⟨_, [], rfl, ⟨congrArg Value.bool ?_, rfl⟩, hw1.sub (by simp) (by simp)⟩
       refine (decide_eq_false (fun h => ?_)).symm
       obtain ⟨h1, h2, h3, h4, h5, h6, h7⟩ := h
       have h8 := congrArg List.length h6
       have h9 := congrArg List.length h7
       first | omega | contradiction | exact list_ne (g64_at (i := i) (by omega)) (g64_at (i := i) (by omega)) (by assumption) h6 | (simp_all; done)
      ·
       have hp6 : ¬ (((ni:Int)) ≠ ((ni2:Int))) := of_decide_eq_false hb6
       refine BB 48 55 false _ (Ptr nb1 2) rfl rfl hb6 (AH 2 36 4 C8 rfl B0 rfl rfl) rfl ?_
       refine BB 48 55 false _ (Ptr nb1 4) rfl rfl hb6 (AH 2 34 1 BD rfl CP rfl rfl) rfl ?_
       refine BB 48 55 false _ (.slice sa ns sc) rfl rfl hb6 (AL rfl (AZ D4 (AR 0 rfl (BE (AS (AS (AS (AS (Seg.head))))))))) rfl ?_
       refine BB 48 55 false _ (I64 ns) rfl rfl hb6 (DW CM rfl) rfl ?_
       refine BB 48 55 false _ (Ptr nb2 2) rfl rfl hb6 (AH 2 36 4 C8 rfl B0 rfl rfl) rfl ?_
       refine BB 48 55 false _ (Ptr nb2 4) rfl rfl hb6 (AH 2 34 1 BD rfl CP rfl rfl) rfl ?_
       refine BB 48 55 false _ (.slice sa2 ns2 sc2) rfl rfl hb6 (AL rfl (AZ D4 (AR 1 rfl (BE (AS (AS (AS (AS (Seg.head))))))))) rfl ?_
       refine BB 48 55 false _ (I64 ns2) rfl rfl hb6 (DW CM rfl) rfl ?_
       refine BB 48 55 false _ (.bool (decide (((ns:Int)) ≠ ((ns2:Int))))) rfl rfl hb6 (AJ rfl rfl fun _ => FU _ _) rfl ?_
       refine AA _ (C0 _ rfl hb6 rfl) rfl ?_
       refine AI (AC (B5 (decide (((ns:Int)) ≠ ((ns2:Int)))) rfl (fun hb7 => ?_) (fun hb7 => ?_)))
       ·
        have hp7 : ((ns:Int)) ≠ ((ns2:Int)) := of_decide_eq_true hb7
        refine AF (AB (AA _ (AE rfl) rfl ?_))
        refine AI (AC (BO (A3 (CA [false, false] ?_))))
        show JQ _ _ _ _ []
        refine BQ (.bool false) (res1 Tryd.results51 (B2 rfl)) fun w1 hw1 => ?_
        refine ⟨_, [], rfl, ⟨congrArg Value.bool ?_, rfl⟩, hw1.sub (by simp) (by simp)⟩
        refine (decide_eq_false (fun h => ?_)).symm
        obtain ⟨h1, h2, h3, h4, h5, h6, h7⟩ := h
        have h8 := congrArg List.length h6
        have h9 := congrArg List.length h7
        first | omega | contradiction | exact list_ne (g64_at (i := i) (by omega)) (g64_at (i := i) (by omega)) (by assumption) h6 | (simp_all; done)
       ·
        have hp7 : ¬ (((ns:Int)) ≠ ((ns2:Int))) := of_decide_eq_false hb7
        refine BJ (AC (AF (AF (AB (AA _ (AE rfl) rfl ?_)))))
        refine AI (AC (A9 (DI (ι := Nat) (fun i => [(2, Ptr nb1 0), (3, Ptr nb2 0), (5, I64 i)]) (fun i => [⟨nb1, [U64 pv, U64 ep, I64 (kd), .slice ai ni ci, .slice sa ns sc, U64 bl] ++ cu8 tg, 38, (0, 0)⟩, ⟨nb2, [U64 pv2, U64 ep2, I64 (kd2), .slice ai2 ni2 ci2, .slice sa2 ns2 sc2, U64 bl2] ++ cu8 tg2, 38, (0, 0)⟩]) (fun i => i ≤ ni ∧ ∀ k, k < i → ∀ x y, l[k]? = some x → l2[k]? = some y → x = y) (fun i => ni - i) 0 ⟨by omega, fun k hk => absurd hk (by omega)⟩ (Sub.all rfl) rfl ?_)))
        rintro i ⟨hi1, hi2⟩
        show JC _ _ _ [(2, Ptr nb1 0), (3, Ptr nb2 0), (5, I64 i)] [⟨nb1, [U64 pv, U64 ep, I64 (kd), .slice ai ni ci, .slice sa ns sc, U64 bl] ++ cu8 tg, 38, (0, 0)⟩, ⟨nb2, [U64 pv2, U64 ep2, I64 (kd2), .slice ai2 ni2 ci2, .slice sa2 ns2 sc2, U64 bl2] ++ cu8 tg2, 38, (0, 0)⟩]
        refine AF (AF (AB (AA _ (AG rfl) rfl ?_)))
        refine AA (Ptr nb1 2) (AH 2 36 4 C8 rfl B0 rfl rfl) rfl ?_
        refine AA (Ptr nb1 3) (AH 1 23 1 BD rfl CV rfl rfl) rfl ?_
        refine AA (.slice ai ni ci) (AL rfl (AZ DB (AR 0 rfl (BE (AS (AS (AS (Seg.head)))))))) rfl ?_
        refine AA (I64 ni) (DW BI rfl) rfl ?_
        refine AA (.bool (decide (((i:Int)) < ((ni:Int))))) (AJ rfl rfl fun _ => B9 _ _) rfl ?_
        refine AI (AC (B5 (decide (((i:Int)) < ((ni:Int)))) rfl (fun hb8 => ?_) (fun hb8 => ?_)))
        ·
         have hp8 : ((i:Int)) < ((ni:Int)) := of_decide_eq_true hb8
         refine BJ (AC (AF (A9 (AF ?_))))
         obtain ⟨bz1, oz1, hz1, hm1⟩ := RdV.pos hv (by rw [FO, hl]; omega)
         obtain ⟨bz2, oz2, hz2, hm2⟩ := RdV.pos hv2 (by rw [FO, hl2]; omega)
         refine CT 108 1 [(0, Ptr nb1 2), (1, Ptr nb1 3), (2, .slice ai ni ci), (3, I64 i), (4, Ptr bz1 (i + oz1)), (5, U64 (g64 l i)), (6, Ptr nb2 2), (7, Ptr nb2 3), (8, .slice ai2 ni2 ci2), (9, I64 i), (10, Ptr bz2 (i + oz2)), (11, U64 (g64 l2 i)), (12, .bool (decide ((g64 l i) ≠ (g64 l2 i))))] BL rfl (by decide +kernel) ?_
         refine DE ⟨[], [0, 1, 2, 3, 4, 5, 6, 7, 8, 9, 10, 11, 12], [], [0, 1, 2, 3, 4, 5, 6, 7, 8, 9, 10, 11, 12], []⟩ rfl rfl (by decide +kernel) rfl ⟨⟨_, rfl, AD rfl (AH 2 36 4 C8 rfl B0 rfl rfl)⟩, ⟨_, rfl, AD rfl (AH 1 23 1 BD rfl CV rfl rfl)⟩, ⟨_, rfl, AD rfl (AL rfl (AZ DB (AR 0 rfl (BE (AS (AS (AS (Seg.head))))))))⟩, AU rfl rfl rfl, ⟨_, rfl, AD rfl (CL 22 1 (i + oz1) BI BC rfl hz1 rfl (by omega) (by omega) (by omega))⟩, ⟨_, rfl, AD rfl (AL rfl (AZ BG (BW (hm1.mem (by simp)) (Seg.get (F9 (i := i) (by rw [hl]; omega))) (by omega))))⟩, ⟨_, rfl, AD rfl (AH 2 36 4 C8 rfl B0 rfl rfl)⟩, ⟨_, rfl, AD rfl (AH 1 23 1 BD rfl CV rfl rfl)⟩, ⟨_, rfl, AD rfl (AL rfl (AZ DB (AR 1 rfl (BE (AS (AS (AS (Seg.head))))))))⟩, AU rfl rfl rfl, ⟨_, rfl, AD rfl (CL 22 1 (i + oz2) BI BC rfl hz2 rfl (by omega) (by omega) (by omega))⟩, ⟨_, rfl, AD rfl (AL rfl (AZ BG (BW (hm2.mem (by simp)) (Seg.get (F9 (i := i) (by rw [hl2]; omega))) (by omega))))⟩, ⟨_, rfl, AD rfl (AJ rfl rfl fun _ => FD (g64 l i) (g64 l2 i))⟩, trivial⟩ ?_
         refine CC (F' := [(74, Ptr nb1 2), (75, Ptr nb1 3), (76, .slice ai ni ci), (77, I64 i), (78, Ptr bz1 (i + oz1)), (79, U64 (g64 l i)), (80, Ptr nb2 2), (81, Ptr nb2 3), (82, .slice ai2 ni2 ci2), (83, I64 i), (84, Ptr bz2 (i + oz2)), (85, U64 (g64 l2 i)), (86, .bool (decide ((g64 l i) ≠ (g64 l2 i)))), (2, Ptr nb1 0), (3, Ptr nb2 0), (5, I64 i), (66, I64 i), (67, Ptr nb1 2), (68, Ptr nb1 3), (69, .slice ai ni ci), (70, I64 ni), (71, .bool (decide (((i:Int)) < ((ni:Int)))))]) (by kernel_rfl) ?_
         refine AC (B5 (decide ((g64 l i) ≠ (g64 l2 i))) rfl (fun hb9 => ?_) (fun hb9 => ?_))
         ·
          have hp9 : (g64 l i) ≠ (g64 l2 i) := of_decide_eq_true hb9
          refine AF (AB (AA _ (AE rfl) rfl ?_))
          refine AI (AC (BO (CZ (A3 (A3 (CZ (A3 (CA [false, false] ?_))))))))
          show JQ _ _ _ _ []
          refine BQ (.bool false) (res1 Tryd.results51 (B2 rfl)) fun w1 hw1 => ?_
          refine ⟨_, [], rfl, ⟨congrArg Value.bool ?_, rfl⟩, hw1.sub (by simp) (by simp)⟩
          refine (decide_eq_false (fun h => ?_)).symm
          obtain ⟨h1, h2, h3, h4, h5, h6, h7⟩ := h
          have h8 := congrArg List.length h6
          have h9 := congrArg List.length h7
          first | omega | contradiction | exact list_ne (g64_at (i := i) (by omega)) (g64_at (i := i) (by omega)) (by assumption) h6 | (simp_all; done)
         ·
          have hp9 : ¬ ((g64 l i) ≠ (g64 l2 i)) := of_decide_eq_false hb9
          refine BJ (A5 (AC (AB (AA _ (AG rfl) rfl ?_))))
          refine AA (I64 ((i:Int) + 1)) (AJ rfl rfl fun _ => BP _ _ ((i:Int) + 1) (by omega) (by omega)) rfl ?_
          refine AA _ (AE rfl) rfl ?_
          refine AI (B6 (DN (i + 1) ⟨by omega, eq_step (g64_at (i := i) (by omega)) (g64_at (i := i) (by omega)) (Classical.not_not.1 (by assumption)) hi2⟩ (by first | (simp; omega) | simp | (dsimp only; omega) | omega) (Sub.all rfl) rfl))
        ·
         have hp8 : ¬ (((i:Int)) < ((ni:Int))) := of_decide_eq_false hb8
         refine DA (AQ (AQ (BV (AC (AF (AF (AB (AA _ (AE rfl) rfl ?_))))))))
         refine AI (AC (A9 (DI (ι := Nat) (fun j => [(2, Ptr nb1 0), (3, Ptr nb2 0), (6, I64 j)]) (fun j => [⟨nb1, [U64 pv, U64 ep, I64 (kd), .slice ai ni ci, .slice sa ns sc, U64 bl] ++ cu8 tg, 38, (0, 0)⟩, ⟨nb2, [U64 pv2, U64 ep2, I64 (kd2), .slice ai2 ni2 ci2, .slice sa2 ns2 sc2, U64 bl2] ++ cu8 tg2, 38, (0, 0)⟩]) (fun j => j ≤ ns ∧ ∀ k, k < j → ∀ x y, ls[k]? = some x → ls2[k]? = some y → x = y) (fun j => ns - j) 0 ⟨by omega, fun k hk => absurd hk (by omega)⟩ (Sub.all rfl) rfl ?_)))
         rintro j ⟨hj1, hj2⟩
         show JC _ _ _ [(2, Ptr nb1 0), (3, Ptr nb2 0), (6, I64 j)] [⟨nb1, [U64 pv, U64 ep, I64 (kd), .slice ai ni ci, .slice sa ns sc, U64 bl] ++ cu8 tg, 38, (0, 0)⟩, ⟨nb2, [U64 pv2, U64 ep2, I64 (kd2), .slice ai2 ni2 ci2, .slice sa2 ns2 sc2, U64 bl2] ++ cu8 tg2, 38, (0, 0)⟩]
         refine AF (AF (AB (AA _ (AG rfl) rfl ?_)))
         refine AA (Ptr nb1 2) (AH 2 36 4 C8 rfl B0 rfl rfl) rfl ?_
         refine AA (Ptr nb1 4) (AH 2 34 1 BD rfl CP rfl rfl) rfl ?_
         refine AA (.slice sa ns sc) (AL rfl (AZ D4 (AR 0 rfl (BE (AS (AS (AS (AS (Seg.head))))))))) rfl ?_
         refine AA (I64 ns) (DW CM rfl) rfl ?_
         refine AA (.bool (decide (((j:Int)) < ((ns:Int))))) (AJ rfl rfl fun _ => B9 _ _) rfl ?_
         refine AI (AC (B5 (decide (((j:Int)) < ((ns:Int)))) rfl (fun hb10 => ?_) (fun hb10 => ?_)))
         ·
          have hp10 : ((j:Int)) < ((ns:Int)) := of_decide_eq_true hb10
          refine BJ (AC (AF (A9 (AF ?_))))
          obtain ⟨x1, hx1⟩ : ∃ x, ls[j]? = some x := ⟨_, List.getElem?_eq_getElem (by rw [hls]; omega)⟩
          obtain ⟨bz3, oz3, hz3, hm3⟩ := rows_at F5 (by decide) hs hx1
          obtain ⟨x2, hx2⟩ : ∃ x, ls2[j]? = some x := ⟨_, List.getElem?_eq_getElem (by rw [hls2]; omega)⟩
          obtain ⟨bz4, oz4, hz4, hm4⟩ := rows_at F5 (by decide) hs2 hx2
          refine CT 108 1 [(0, Ptr nb1 2), (1, Ptr nb1 4), (2, .slice sa ns sc), (3, I64 j), (4, Ptr bz3 (49*j + oz3)), (5, .agg ([U64 x1.e] ++ cu8 x1.d ++ cu8 x1.t).toArray), (6, Ptr nb2 2), (7, Ptr nb2 4), (8, .slice sa2 ns2 sc2), (9, I64 j), (10, Ptr bz4 (49*j + oz4)), (11, .agg ([U64 x2.e] ++ cu8 x2.d ++ cu8 x2.t).toArray), (12, .bool (!(decide (x1.e = x2.e ∧ x1.d = x2.d ∧ x1.t = x2.t))))] BL rfl (by decide +kernel) ?_
          refine DE ⟨[], [0, 1, 2, 3, 4, 5, 6, 7, 8, 9, 10, 11, 12], [], [0, 1, 2, 3, 4, 5, 6, 7, 8, 9, 10, 11, 12], []⟩ rfl rfl (by decide +kernel) rfl ⟨⟨_, rfl, AD rfl (AH 2 36 4 C8 rfl B0 rfl rfl)⟩, ⟨_, rfl, AD rfl (AH 2 34 1 BD rfl CP rfl rfl)⟩, ⟨_, rfl, AD rfl (AL rfl (AZ D4 (AR 0 rfl (BE (AS (AS (AS (AS (Seg.head)))))))))⟩, AU rfl rfl rfl, ⟨_, rfl, AD rfl (CL 164 49 (49*j + oz3) CM C9 rfl hz3 rfl (by omega) (by omega) (by omega))⟩, ⟨_, rfl, AD rfl (AL rfl (BH Tryd.isAgg164 C9 (by simp [x1.hd, x1.ht]) (BW (hm3.mem (by simp)) (AN _) (by omega))))⟩, ⟨_, rfl, AD rfl (AH 2 36 4 C8 rfl B0 rfl rfl)⟩, ⟨_, rfl, AD rfl (AH 2 34 1 BD rfl CP rfl rfl)⟩, ⟨_, rfl, AD rfl (AL rfl (AZ D4 (AR 1 rfl (BE (AS (AS (AS (AS (Seg.head)))))))))⟩, AU rfl rfl rfl, ⟨_, rfl, AD rfl (CL 164 49 (49*j + oz4) CM C9 rfl hz4 rfl (by omega) (by omega) (by omega))⟩, ⟨_, rfl, AD rfl (AL rfl (BH Tryd.isAgg164 C9 (by simp [x2.hd, x2.ht]) (BW (hm4.mem (by simp)) (AN _) (by omega))))⟩, ⟨_, rfl, AD rfl (FQ _ _ _ rfl rfl (fun _ => eqGuard_agg _ _ _ _ _ _ (by kernel_rfl)) (neq_struct (x1.e = x2.e ∧ x1.d = x2.d ∧ x1.t = x2.t) (EqV.struct (d := 9999) (by kernel_rfl) (by kernel_rfl) (by kernel_rfl) (EqRs.cons 22 0 (U64 x1.e) (U64 x2.e) _ _ _ (PartV.one BG (BE (BE (Seg.head)))) (PartV.one BG (BE (BE (Seg.head)))) (EqV.u64 (d := 9998) B8 x1.e x2.e) (EqRs.cons 159 1 (.agg (cu8 x1.d).toArray) (.agg (cu8 x2.d).toArray) _ _ _ (PartV.agg D3 CF (Seg.cut (BE (Seg.right 1 0 rfl rfl (AN _))) (A8 x1.hd) (by omega))) (PartV.agg D3 CF (Seg.cut (BE (Seg.right 1 0 rfl rfl (AN _))) (A8 x2.hd) (by omega))) (EqV.arr8 (d := 9997) DJ B3 BZ Tryd.cells5 Tryd.has5 (by simp [x1.hd]) (by simp [x2.hd])) (EqRs.last 27 33 (.agg (cu8 x1.t).toArray) (.agg (cu8 x2.t).toArray) _ (PartV.agg BM AT (Seg.cut (Seg.right 33 0 (by simp [x1.hd]) rfl (AN _)) (A8 x1.ht) (by omega))) (PartV.agg BM AT (Seg.cut (Seg.right 33 0 (by simp [x2.hd]) rfl (AN _)) (A8 x2.ht) (by omega))) (EqV.arr8 (d := 9997) BF B3 BZ Tryd.cells5 Tryd.has5 (by simp [x1.ht]) (by simp [x2.ht])))))) (by first | rfl | (simp only [Bool.decide_and, Bool.and_assoc]; done) | (simp [Bool.and_assoc]; done))))⟩, trivial⟩ ?_
          refine CC (F' := [(95, Ptr nb1 2), (96, Ptr nb1 4), (97, .slice sa ns sc), (98, I64 j), (99, Ptr bz3 (49*j + oz3)), (100, .agg ([U64 x1.e] ++ cu8 x1.d ++ cu8 x1.t).toArray), (101, Ptr nb2 2), (102, Ptr nb2 4), (103, .slice sa2 ns2 sc2), (104, I64 j), (105, Ptr bz4 (49*j + oz4)), (106, .agg ([U64 x2.e] ++ cu8 x2.d ++ cu8 x2.t).toArray), (107, .bool (!(decide (x1.e = x2.e ∧ x1.d = x2.d ∧ x1.t = x2.t)))), (2, Ptr nb1 0), (3, Ptr nb2 0), (6, I64 j), (87, I64 j), (88, Ptr nb1 2), (89, Ptr nb1 4), (90, .slice sa ns sc), (91, I64 ns), (92, .bool (decide (((j:Int)) < ((ns:Int)))))]) (by kernel_rfl) ?_
          refine AC (B5 (!(decide (x1.e = x2.e ∧ x1.d = x2.d ∧ x1.t = x2.t))) rfl (fun hb11 => ?_) (fun hb11 => ?_))
          ·
           have hb12 : (decide (x1.e = x2.e ∧ x1.d = x2.d ∧ x1.t = x2.t)) = false := by first | simpa using hb11 | exact Eq.mp (Bool.not_eq_true' _) hb11
           have hp12 : ¬ (x1.e = x2.e ∧ x1.d = x2.d ∧ x1.t = x2.t) := of_decide_eq_false hb12
           refine AF (AB (AA _ (AE rfl) rfl ?_))
           refine AI (AC (BO (CZ (A3 (A3 (CZ (A3 (CA [false, false] ?_))))))))
           show JQ _ _ _ _ []
           refine BQ (.bool false) (res1 Tryd.results51 (B2 rfl)) fun w1 hw1 => ?_
           refine ⟨_, [], rfl, ⟨congrArg Value.bool ?_, rfl⟩, hw1.sub (by simp) (by simp)⟩
           refine (decide_eq_false (fun h => ?_)).symm
           obtain ⟨h1, h2, h3, h4, h5, h6, h7⟩ := h
           exact list_ne hx1 hx2 (fun e => (by assumption : ¬ _) ((SealR.eq_iff _ _).1 e)) h7
          ·
           have hb13 : (decide (x1.e = x2.e ∧ x1.d = x2.d ∧ x1.t = x2.t)) = true := by first | simpa using hb11 | exact Eq.mp (Bool.not_eq_false' _) hb11
           have hp13 : x1.e = x2.e ∧ x1.d = x2.d ∧ x1.t = x2.t := of_decide_eq_true hb13
           refine BJ (A5 (AC (AB (AA _ (AG rfl) rfl ?_))))
           refine AA (I64 ((j:Int) + 1)) (AJ rfl rfl fun _ => BP _ _ ((j:Int) + 1) (by omega) (by omega)) rfl ?_
           refine AA _ (AE rfl) rfl ?_
           refine AI (B6 (DN (j + 1) ⟨by omega, eq_step hx1 hx2 ((SealR.eq_iff _ _).2 (by first | assumption | exact Classical.not_not.1 (by assumption))) hj2⟩ (by first | (simp; omega) | simp | (dsimp only; omega) | omega) (Sub.all rfl) rfl))
         ·
          have hp10 : ¬ (((j:Int)) < ((ns:Int))) := of_decide_eq_false hb10
          refine DA (AQ (AQ (BV (AC (AF (AB (AA _ (AE rfl) rfl ?_)))))))
          refine AI (AC (BO (CA [false, false] ?_)))
          show JQ _ _ _ _ []
          refine BQ (.bool true) (res1 Tryd.results51 (B2 rfl)) fun w1 hw1 => ?_
          refine ⟨_, [], rfl, ⟨congrArg Value.bool ?_, rfl⟩, hw1.sub (by simp) (by simp)⟩
          have e1 : l = l2 := list_eq (by omega) (by rw [hl]; intro k hk; exact hi2 k (by omega))
          have e2 : ls = ls2 := list_eq (by omega) (by rw [hls]; intro k hk; exact hj2 k (by omega))
          exact (decide_eq_true (by simp_all)).symm
   ·
    have hp3 : ¬ (tg = tg2) := of_decide_eq_false hb3
    refine AO 19 26 false _ rfl rfl (by rw [show (decide (tg = tg2)) = false from hb3] <;> rfl) rfl ?_
    refine AO 19 26 false _ rfl rfl (by rw [show (decide (tg = tg2)) = false from hb3] <;> rfl) rfl ?_
    refine AO 19 26 false _ rfl rfl (by rw [show (decide (tg = tg2)) = false from hb3] <;> rfl) rfl ?_
    refine AO 19 26 false _ rfl rfl (by rw [show (decide (tg = tg2)) = false from hb3] <;> rfl) rfl ?_
    refine AO 19 26 false _ rfl rfl (by rw [show (decide (tg = tg2)) = false from hb3] <;> rfl) rfl ?_
    refine AO 19 26 false _ rfl rfl (by rw [show (decide (tg = tg2)) = false from hb3] <;> rfl) rfl ?_
    refine AO 19 26 false _ rfl rfl (by rw [show (decide (tg = tg2)) = false from hb3] <;> rfl) rfl ?_
    refine AA _ (CW _ rfl (by rw [show (decide (tg = tg2)) = false from hb3] <;> rfl) rfl) rfl ?_
    refine AA _ (AG rfl) rfl ?_
    refine AO 28 35 false _ rfl rfl rfl rfl ?_
    refine AO 28 35 false _ rfl rfl rfl rfl ?_
    refine AO 28 35 false _ rfl rfl rfl rfl ?_
    refine AO 28 35 false _ rfl rfl rfl rfl ?_
    refine AO 28 35 false _ rfl rfl rfl rfl ?_
    refine AO 28 35 false _ rfl rfl rfl rfl ?_
    refine AO 28 35 false _ rfl rfl rfl rfl ?_
    refine AA _ (CW _ rfl rfl rfl) rfl ?_
    refine AA _ (AG rfl) rfl ?_
    refine AO 37 44 false _ rfl rfl rfl rfl ?_
    refine AO 37 44 false _ rfl rfl rfl rfl ?_
    refine AO 37 44 false _ rfl rfl rfl rfl ?_
    refine AO 37 44 false _ rfl rfl rfl rfl ?_
    refine AO 37 44 false _ rfl rfl rfl rfl ?_
    refine AO 37 44 false _ rfl rfl rfl rfl ?_
    refine AO 37 44 false _ rfl rfl rfl rfl ?_
    refine AO 37 44 false _ rfl rfl rfl rfl ?_
    refine AO 37 44 false _ rfl rfl rfl rfl ?_
    refine AA _ (CW _ rfl rfl rfl) rfl ?_
    refine AA _ (AG rfl) rfl ?_
    refine AO 48 55 false _ rfl rfl rfl rfl ?_
    refine AO 48 55 false _ rfl rfl rfl rfl ?_
    refine AO 48 55 false _ rfl rfl rfl rfl ?_
    refine AO 48 55 false _ rfl rfl rfl rfl ?_
    refine AO 48 55 false _ rfl rfl rfl rfl ?_
    refine AO 48 55 false _ rfl rfl rfl rfl ?_
    refine AO 48 55 false _ rfl rfl rfl rfl ?_
    refine AO 48 55 false _ rfl rfl rfl rfl ?_
    refine AO 48 55 false _ rfl rfl rfl rfl ?_
    refine AA _ (CW _ rfl rfl rfl) rfl ?_
    refine AI (AC (D1 _ rfl rfl ?_))
    refine AF (AB (AA _ (AE rfl) rfl ?_))
    refine AI (AC (BO (A3 (CA [false, false] ?_))))
    show JQ _ _ _ _ []
    refine BQ (.bool false) (res1 Tryd.results51 (B2 rfl)) fun w1 hw1 => ?_
    refine ⟨_, [], rfl, ⟨congrArg Value.bool ?_, rfl⟩, hw1.sub (by simp) (by simp)⟩
    refine (decide_eq_false (fun h => ?_)).symm
    obtain ⟨h1, h2, h3, h4, h5, h6, h7⟩ := h
    have h8 := congrArg List.length h6
    have h9 := congrArg List.length h7
    first | omega | contradiction | exact list_ne (g64_at (i := i) (by omega)) (g64_at (i := i) (by omega)) (by assumption) h6 | (simp_all; done)
theorem may13_c (pv ep : UInt64) (kd : Int) (ai : Option Addr) (ni ci : Nat) (l : List UInt64) (sa : Option Addr) (ns sc : Nat) (ls : List SealR) (bl : UInt64) (tg : List UInt8)  (w : World) (hl : l.length = ni) (hnm : ni ≤ 2000000) (hnc : ni ≤ ci) (hcm : ci ≤ maxLen) (hv : RdV w ai (cu64 l)) (hls : ls.length = ns) (hnn : ns ≤ 2000000) (hnd : ns ≤ sc) (hcn : sc ≤ maxLen) (hs : RdV w sa (ls.flatMap sealC)) (htg : tg.length = 16)  : Calls Tryd.prog 128 #[.agg ([U64 pv, U64 ep, I64 (kd), .slice ai ni ci, .slice sa ns sc, U64 bl] ++ cu8 tg).toArray] w (Post w [] (fun v L => v = errV 50 (mayN pv ep kd l ls bl) ∧ L = [])) := by
 have hmx : maxLen = 9223372036854775807 := rfl
 refine enter (P := Tryd.prog) (f := 128) (fn := Tryd.f128) w [] 37 [] [.agg ([U64 pv, U64 ep, I64 (kd), .slice ai ni ci, .slice sa ns sc, U64 bl] ++ cu8 tg).toArray] Tryd.func128 rfl rfl (by simp) (BR (by simp) (by simp) (by simp)) ?_
 show JC _ _ _ [(0, .agg ([U64 pv, U64 ep, I64 (kd), .slice ai ni ci, .slice sa ns sc, U64 bl] ++ cu8 tg).toArray)] _
 refine AF (AB (AV (CG (.agg ([U64 pv, U64 ep, I64 (kd), .slice ai ni ci, .slice sa ns sc, U64 bl] ++ cu8 tg).toArray) ([U64 pv, U64 ep, I64 (kd), .slice ai ni ci, .slice sa ns sc, U64 bl] ++ cu8 tg) rfl (by first | rfl | simp)) rfl ?_))
 rintro v1 L1 ⟨nb1, hnb1, rfl, rfl⟩
 show JL _ _ _ _ ((1, Ptr nb1 0) :: _) [⟨nb1, [U64 pv, U64 ep, I64 (kd), .slice ai ni ci, .slice sa ns sc, U64 bl] ++ cu8 tg, 29, (0, 0)⟩]
 refine AA _ (AE rfl) rfl ?_
 refine AI (AC (AF (A9 (AF (AF (AB (AA (Ptr nb1 2) (AH 2 26 4 BN rfl B7 rfl rfl) rfl ?_)))))))
 refine AA (.agg #[I64 (kd), .slice ai ni ci, .slice sa ns sc, U64 bl]) (AL rfl (BH EQ B7 rfl (AR 0 rfl (Seg.split (p := [U64 pv, U64 ep]) (q := cu8 tg) (vs := [I64 (kd), .slice ai ni ci, .slice sa ns sc, U64 bl]) (by first | rfl | (simp only [List.append_assoc, List.nil_append, List.append_nil, List.cons_append]; done)) rfl)))) rfl ?_
 refine A0 (AY 69 [.agg #[I64 (kd), .slice ai ni ci, .slice sa ns sc, U64 bl]] (.bool (RightO (kd) l ls bl)) (A4 _ Tryd.call69 rfl) (fun w1 hw1 => right13_c (kd) ai ni ci l sa ns sc ls bl w1 hl (by omega) (by omega) (by omega) (FT hw1 rfl hv) hls (by omega) (by omega) (by omega) (FT hw1 rfl hs))) rfl ?_
 show JL _ _ _ _ ((6, .bool (RightO (kd) l ls bl)) :: _) [_]
 refine AA (.bool (!(RightO (kd) l ls bl))) (FV rfl) rfl ?_
 refine AA _ (AE rfl) rfl ?_
 refine AI (AC (B5 (!(RightO (kd) l ls bl)) rfl (fun hb1 => ?_) (fun hb1 => ?_)))
 ·
  have hb2 : (RightO (kd) l ls bl) = false := by simpa using hb1
  refine BJ (AC (D1 _ rfl hb1 ?_))
  refine AF (AB (AA (.iface 50 (I64 2)) (Ev_iface E2 rfl rfl) rfl ?_))
  refine AA _ (AE rfl) rfl ?_
  refine AI (AC (BO (CZ (A3 (CA [false] ?_)))))
  show JQ _ _ _ _ []
  refine BQ (.iface 50 (I64 2)) (res1 Tryd.results128 (B2 rfl)) fun w1 hw1 => ?_
  have e1 : mayN pv ep kd l ls bl = 2 := by
   unfold mayN
   first | rw [if_pos ‹RightO kd l ls bl = true›] | rw [if_neg (by simp [*])]
   all_goals simp [*]
  rw [e1]
  exact ⟨_, [], rfl, ⟨rfl, rfl⟩, hw1.sub (by simp) (by simp)⟩
 ·
  have hb3 : (RightO (kd) l ls bl) = true := by simpa using hb1
  by_cases hk1 : kd = 1
  ·
   have hpos := RightO_pos hb3 hk1
   rw [hls, hl] at hpos
   obtain ⟨x1, hx1⟩ : ∃ x, ls[0]? = some x := ⟨_, List.getElem?_eq_getElem (by rw [hls]; omega)⟩
   obtain ⟨bz1, oz1, hz1, hm1⟩ := rows_at F5 (by decide) hs hx1
   refine CT 37 1 [(0, Ptr nb1 2), (1, Ptr nb1 2), (2, I64 (kd)), (3, .bool (decide ((kd) = (1:Int)))), (4, .bool (decide ((kd) = (1:Int)))), (5, Ptr nb1 2), (6, Ptr nb1 4), (7, .slice sa ns sc), (8, Ptr bz1 oz1), (9, Ptr bz1 oz1), (10, U64 x1.e), (11, Ptr nb1 1), (12, U64 ep), (13, .bool (decide (x1.e ≠ ep))), (14, .bool (decide (x1.e ≠ ep))), (15, .bool (decide (x1.e ≠ ep)))] BL rfl (by decide +kernel) ?_
   refine DE ⟨[], [0, 1, 2, 3, 4, 5, 6, 7, 8, 9, 10, 11, 12, 13, 14, 15], [], [0, 1, 2, 3, 4, 5, 6, 7, 8, 9, 10, 11, 12, 13, 14, 15], []⟩ rfl rfl (by decide +kernel) rfl ⟨⟨_, rfl, AD rfl (AH 2 26 4 BN rfl B7 rfl rfl)⟩, ⟨_, rfl, AD rfl (AH 0 3 1 A2 rfl DR rfl rfl)⟩, ⟨_, rfl, AD rfl (AL rfl (AZ DC (AR 0 rfl (BE (AS (AS (Seg.head)))))))⟩, ⟨_, rfl, AD rfl (AJ rfl rfl fun _ => D6 _ _)⟩, AU rfl rfl rfl, ⟨_, rfl, DD 4 12 true _ rfl rfl rfl (decide_eq_true hk1) (AH 2 26 4 BN rfl B7 rfl rfl)⟩, ⟨_, rfl, DD 4 12 true _ rfl rfl rfl (decide_eq_true hk1) (AH 2 24 1 A2 rfl DS rfl rfl)⟩, ⟨_, rfl, DD 4 12 true _ rfl rfl rfl (decide_eq_true hk1) (AL rfl (AZ ER (AR 0 rfl (BE (AS (AS (AS (AS (Seg.head)))))))))⟩, ⟨_, rfl, DD 4 12 true _ rfl rfl rfl (decide_eq_true hk1) (CL 161 49 oz1 CQ CE rfl hz1 rfl (by omega) (by omega) (by omega))⟩, ⟨_, rfl, DD 4 12 true _ rfl rfl rfl (decide_eq_true hk1) (AH 0 22 1 DZ rfl BC rfl rfl)⟩, ⟨_, rfl, DD 4 12 true _ rfl rfl rfl (decide_eq_true hk1) (AL rfl (AZ BG (BW (hm1.mem (by simp)) (BE (BE (Seg.head))) (by omega))))⟩, ⟨_, rfl, DD 4 12 true _ rfl rfl rfl (decide_eq_true hk1) (AH 1 22 1 BN rfl BC rfl rfl)⟩, ⟨_, rfl, DD 4 12 true _ rfl rfl rfl (decide_eq_true hk1) (AL rfl (AZ BG (AR 0 rfl (BE (AS (Seg.head))))))⟩, ⟨_, rfl, DD 4 12 true _ rfl rfl rfl (decide_eq_true hk1) (AJ rfl rfl fun _ => FD x1.e ep)⟩, ⟨_, rfl, AD rfl (CW _ rfl (decide_eq_true hk1) rfl)⟩, ⟨_, rfl, AD rfl (AE rfl)⟩, trivial⟩ ?_
   refine CC (F' := [(3, .bool (decide (x1.e ≠ ep))), (1, Ptr nb1 0), (2, .nilIface)]) (by kernel_rfl) ?_
   refine AC (B5 (decide (x1.e ≠ ep)) rfl (fun hb4 => ?_) (fun hb4 => ?_))
   ·
    have hp4 : x1.e ≠ ep := of_decide_eq_true hb4
    refine AF (AB (AA (.iface 50 (I64 2)) (Ev_iface E2 rfl rfl) rfl ?_))
    refine AA _ (AE rfl) rfl ?_
    refine AI (AC (BO (CZ (A3 (CA [false] ?_)))))
    show JQ _ _ _ _ []
    refine BQ (.iface 50 (I64 2)) (res1 Tryd.results128 (B2 rfl)) fun w1 hw1 => ?_
    have e1 : mayN pv ep kd l ls bl = 2 := by
     unfold mayN
     first | rw [if_pos ‹RightO kd l ls bl = true›] | rw [if_neg (by simp [*])]
     rw [headE_of hx1]
     all_goals simp [*]
    rw [e1]
    exact ⟨_, [], rfl, ⟨rfl, rfl⟩, hw1.sub (by simp) (by simp)⟩
   ·
    have hp4 : ¬ (x1.e ≠ ep) := of_decide_eq_false hb4
    refine AF (AB (AA (Ptr nb1 1) (AH 1 22 1 BN rfl BC rfl rfl) rfl ?_))
    refine AA (U64 ep) (AL rfl (AZ BG (AR 0 rfl (BE (AS (Seg.head)))))) rfl ?_
    refine A0 (AY 133 [U64 0, U64 ep] (.bool (RightB (0:UInt64) ep)) (A4 _ Tryd.call133 rfl) (fun w1 hw1 => right_c (0:UInt64) ep w1 )) rfl ?_
    show JL _ _ _ _ ((27, .bool (RightB (0:UInt64) ep)) :: _) [_]
    refine AA (.bool (!(RightB (0:UInt64) ep))) (FV rfl) rfl ?_
    refine AA _ (AG rfl) rfl ?_
    rcases Bool.eq_false_or_eq_true (RightB (0:UInt64) ep) with hb5 | hb5
    ·
     refine BB 4 29 false _ (Ptr nb1 0) rfl rfl (by rw [show (RightB (0:UInt64) ep) = true from hb5] <;> rfl) (AH 0 22 1 BN rfl BC rfl rfl) rfl ?_
     refine BB 4 29 false _ (U64 pv) rfl rfl (by rw [show (RightB (0:UInt64) ep) = true from hb5] <;> rfl) (AL rfl (AZ BG (AR 0 rfl (BE (Seg.head))))) rfl ?_
     refine BB 4 29 false _ (Ptr nb1 1) rfl rfl (by rw [show (RightB (0:UInt64) ep) = true from hb5] <;> rfl) (AH 1 22 1 BN rfl BC rfl rfl) rfl ?_
     refine BB 4 29 false _ (U64 ep) rfl rfl (by rw [show (RightB (0:UInt64) ep) = true from hb5] <;> rfl) (AL rfl (AZ BG (AR 0 rfl (BE (AS (Seg.head)))))) rfl ?_
     refine BB 4 29 false _ (.bool (decide (ep ≤ pv))) rfl rfl (by rw [show (RightB (0:UInt64) ep) = true from hb5] <;> rfl) (AJ rfl rfl fun _ => GD pv ep) rfl ?_
     refine AA _ (C0 _ rfl (by rw [show (RightB (0:UInt64) ep) = true from hb5] <;> rfl) rfl) rfl ?_
     refine AA _ (AE rfl) rfl ?_
     refine AI (AC (B5 (decide (ep ≤ pv)) rfl (fun hb6 => ?_) (fun hb6 => ?_)))
     ·
      have hp6 : ep ≤ pv := of_decide_eq_true hb6
      refine AF (AB (AA (.iface 50 (I64 1)) (Ev_iface E2 rfl rfl) rfl ?_))
      refine AA _ (AE rfl) rfl ?_
      refine AI (AC (BO (CZ (A3 (CA [false] ?_)))))
      show JQ _ _ _ _ []
      refine BQ (.iface 50 (I64 1)) (res1 Tryd.results128 (B2 rfl)) fun w1 hw1 => ?_
      have e1 : mayN pv ep kd l ls bl = 1 := by
       unfold mayN
       first | rw [if_pos ‹RightO kd l ls bl = true›] | rw [if_neg (by simp [*])]
       rw [headE_of hx1]
       all_goals simp [*]
      rw [e1]
      exact ⟨_, [], rfl, ⟨rfl, rfl⟩, hw1.sub (by simp) (by simp)⟩
     ·
      have hp6 : ¬ (ep ≤ pv) := of_decide_eq_false hb6
      refine BJ (A5 (AC (AF (AB (AA _ (AE rfl) rfl ?_)))))
      refine AI (AC (BO (CA [false] ?_)))
      show JQ _ _ _ _ []
      refine BQ (.nilIface) (res1 Tryd.results128 (B2 rfl)) fun w1 hw1 => ?_
      have e1 : mayN pv ep kd l ls bl = 0 := by
       unfold mayN
       first | rw [if_pos ‹RightO kd l ls bl = true›] | rw [if_neg (by simp [*])]
       rw [headE_of hx1]
       all_goals simp [*]
      rw [e1]
      exact ⟨_, [], rfl, ⟨rfl, rfl⟩, hw1.sub (by simp) (by simp)⟩
    ·
     refine AO 4 29 false _ rfl rfl (by rw [show (RightB (0:UInt64) ep) = false from hb5] <;> rfl) rfl ?_
     refine AO 4 29 false _ rfl rfl (by rw [show (RightB (0:UInt64) ep) = false from hb5] <;> rfl) rfl ?_
     refine AO 4 29 false _ rfl rfl (by rw [show (RightB (0:UInt64) ep) = false from hb5] <;> rfl) rfl ?_
     refine AO 4 29 false _ rfl rfl (by rw [show (RightB (0:UInt64) ep) = false from hb5] <;> rfl) rfl ?_
     refine AO 4 29 false _ rfl rfl (by rw [show (RightB (0:UInt64) ep) = false from hb5] <;> rfl) rfl ?_
     refine AA _ (CW _ rfl (by rw [show (RightB (0:UInt64) ep) = false from hb5] <;> rfl) rfl) rfl ?_
     refine AA _ (AE rfl) rfl ?_
     refine AI (AC (D1 _ rfl rfl ?_))
     refine AF (AB (AA (.iface 50 (I64 1)) (Ev_iface E2 rfl rfl) rfl ?_))
     refine AA _ (AE rfl) rfl ?_
     refine AI (AC (BO (CZ (A3 (CA [false] ?_)))))
     show JQ _ _ _ _ []
     refine BQ (.iface 50 (I64 1)) (res1 Tryd.results128 (B2 rfl)) fun w1 hw1 => ?_
     have e1 : mayN pv ep kd l ls bl = 1 := by
      unfold mayN
      first | rw [if_pos ‹RightO kd l ls bl = true›] | rw [if_neg (by simp [*])]
      rw [headE_of hx1]
      all_goals simp [*]
     rw [e1]
     exact ⟨_, [], rfl, ⟨rfl, rfl⟩, hw1.sub (by simp) (by simp)⟩
  ·
   refine CT 37 1 [(0, Ptr nb1 2), (1, Ptr nb1 2), (2, I64 (kd)), (3, .bool (decide ((kd) = (1:Int)))), (4, .bool (decide ((kd) = (1:Int)))), (5, undef), (6, undef), (7, undef), (8, undef), (9, undef), (10, undef), (11, undef), (12, undef), (13, undef), (14, .bool false), (15, .bool false)] BL rfl (by decide +kernel) ?_
   refine DE ⟨[], [0, 1, 2, 3, 4, 5, 6, 7, 8, 9, 10, 11, 12, 13, 14, 15], [], [0, 1, 2, 3, 4, 5, 6, 7, 8, 9, 10, 11, 12, 13, 14, 15], []⟩ rfl rfl (by decide +kernel) rfl ⟨⟨_, rfl, AD rfl (AH 2 26 4 BN rfl B7 rfl rfl)⟩, ⟨_, rfl, AD rfl (AH 0 3 1 A2 rfl DR rfl rfl)⟩, ⟨_, rfl, AD rfl (AL rfl (AZ DC (AR 0 rfl (BE (AS (AS (Seg.head)))))))⟩, ⟨_, rfl, AD rfl (AJ rfl rfl fun _ => D6 _ _)⟩, AU rfl rfl rfl, ⟨_, rfl, DQ 4 12 true _ rfl rfl rfl (decide_eq_false hk1)⟩, ⟨_, rfl, DQ 4 12 true _ rfl rfl rfl (decide_eq_false hk1)⟩, ⟨_, rfl, DQ 4 12 true _ rfl rfl rfl (decide_eq_false hk1)⟩, ⟨_, rfl, DQ 4 12 true _ rfl rfl rfl (decide_eq_false hk1)⟩, ⟨_, rfl, DQ 4 12 true _ rfl rfl rfl (decide_eq_false hk1)⟩, ⟨_, rfl, DQ 4 12 true _ rfl rfl rfl (decide_eq_false hk1)⟩, ⟨_, rfl, DQ 4 12 true _ rfl rfl rfl (decide_eq_false hk1)⟩, ⟨_, rfl, DQ 4 12 true _ rfl rfl rfl (decide_eq_false hk1)⟩, ⟨_, rfl, DQ 4 12 true _ rfl rfl rfl (decide_eq_false hk1)⟩, ⟨_, rfl, AD rfl (C0 _ rfl (decide_eq_false hk1) rfl)⟩, ⟨_, rfl, AD rfl (AE rfl)⟩, trivial⟩ ?_
   refine CC (F' := [(3, .bool false), (1, Ptr nb1 0), (2, .nilIface)]) (by kernel_rfl) ?_
   refine AC (DV _ rfl rfl ?_)
   refine AF (AB (AA (Ptr nb1 1) (AH 1 22 1 BN rfl BC rfl rfl) rfl ?_))
   refine AA (U64 ep) (AL rfl (AZ BG (AR 0 rfl (BE (AS (Seg.head)))))) rfl ?_
   refine A0 (AY 133 [U64 0, U64 ep] (.bool (RightB (0:UInt64) ep)) (A4 _ Tryd.call133 rfl) (fun w1 hw1 => right_c (0:UInt64) ep w1 )) rfl ?_
   show JL _ _ _ _ ((27, .bool (RightB (0:UInt64) ep)) :: _) [_]
   refine AA (.bool (!(RightB (0:UInt64) ep))) (FV rfl) rfl ?_
   refine AA _ (AG rfl) rfl ?_
   rcases Bool.eq_false_or_eq_true (RightB (0:UInt64) ep) with hb7 | hb7
   ·
    refine BB 4 29 false _ (Ptr nb1 0) rfl rfl (by rw [show (RightB (0:UInt64) ep) = true from hb7] <;> rfl) (AH 0 22 1 BN rfl BC rfl rfl) rfl ?_
    refine BB 4 29 false _ (U64 pv) rfl rfl (by rw [show (RightB (0:UInt64) ep) = true from hb7] <;> rfl) (AL rfl (AZ BG (AR 0 rfl (BE (Seg.head))))) rfl ?_
    refine BB 4 29 false _ (Ptr nb1 1) rfl rfl (by rw [show (RightB (0:UInt64) ep) = true from hb7] <;> rfl) (AH 1 22 1 BN rfl BC rfl rfl) rfl ?_
    refine BB 4 29 false _ (U64 ep) rfl rfl (by rw [show (RightB (0:UInt64) ep) = true from hb7] <;> rfl) (AL rfl (AZ BG (AR 0 rfl (BE (AS (Seg.head)))))) rfl ?_
    refine BB 4 29 false _ (.bool (decide (ep ≤ pv))) rfl rfl (by rw [show (RightB (0:UInt64) ep) = true from hb7] <;> rfl) (AJ rfl rfl fun _ => GD pv ep) rfl ?_
    refine AA _ (C0 _ rfl (by rw [show (RightB (0:UInt64) ep) = true from hb7] <;> rfl) rfl) rfl ?_
    refine AA _ (AE rfl) rfl ?_
    refine AI (AC (B5 (decide (ep ≤ pv)) rfl (fun hb8 => ?_) (fun hb8 => ?_)))
    ·
     have hp8 : ep ≤ pv := of_decide_eq_true hb8
     refine AF (AB (AA (.iface 50 (I64 1)) (Ev_iface E2 rfl rfl) rfl ?_))
     refine AA _ (AE rfl) rfl ?_
     refine AI (AC (BO (CZ (A3 (CA [false] ?_)))))
     show JQ _ _ _ _ []
     refine BQ (.iface 50 (I64 1)) (res1 Tryd.results128 (B2 rfl)) fun w1 hw1 => ?_
     have e1 : mayN pv ep kd l ls bl = 1 := by
      unfold mayN
      first | rw [if_pos ‹RightO kd l ls bl = true›] | rw [if_neg (by simp [*])]
      all_goals simp [*]
     rw [e1]
     exact ⟨_, [], rfl, ⟨rfl, rfl⟩, hw1.sub (by simp) (by simp)⟩
    ·
     have hp8 : ¬ (ep ≤ pv) := of_decide_eq_false hb8
     refine BJ (A5 (AC (AF (AB (AA _ (AE rfl) rfl ?_)))))
     refine AI (AC (BO (CA [false] ?_)))
     show JQ _ _ _ _ []
     refine BQ (.nilIface) (res1 Tryd.results128 (B2 rfl)) fun w1 hw1 => ?_
     have e1 : mayN pv ep kd l ls bl = 0 := by
      unfold mayN
      first | rw [if_pos ‹RightO kd l ls bl = true›] | rw [if_neg (by simp [*])]
      all_goals simp [*]
     rw [e1]
     exact ⟨_, [], rfl, ⟨rfl, rfl⟩, hw1.sub (by simp) (by simp)⟩
   ·
    refine AO 4 29 false _ rfl rfl (by rw [show (RightB (0:UInt64) ep) = false from hb7] <;> rfl) rfl ?_
    refine AO 4 29 false _ rfl rfl (by rw [show (RightB (0:UInt64) ep) = false from hb7] <;> rfl) rfl ?_
    refine AO 4 29 false _ rfl rfl (by rw [show (RightB (0:UInt64) ep) = false from hb7] <;> rfl) rfl ?_
    refine AO 4 29 false _ rfl rfl (by rw [show (RightB (0:UInt64) ep) = false from hb7] <;> rfl) rfl ?_
    refine AO 4 29 false _ rfl rfl (by rw [show (RightB (0:UInt64) ep) = false from hb7] <;> rfl) rfl ?_
    refine AA _ (CW _ rfl (by rw [show (RightB (0:UInt64) ep) = false from hb7] <;> rfl) rfl) rfl ?_
    refine AA _ (AE rfl) rfl ?_
    refine AI (AC (D1 _ rfl rfl ?_))
    refine AF (AB (AA (.iface 50 (I64 1)) (Ev_iface E2 rfl rfl) rfl ?_))
    refine AA _ (AE rfl) rfl ?_
    refine AI (AC (BO (CZ (A3 (CA [false] ?_)))))
    show JQ _ _ _ _ []
    refine BQ (.iface 50 (I64 1)) (res1 Tryd.results128 (B2 rfl)) fun w1 hw1 => ?_
    have e1 : mayN pv ep kd l ls bl = 1 := by
     unfold mayN
     first | rw [if_pos ‹RightO kd l ls bl = true›] | rw [if_neg (by simp [*])]
     all_goals simp [*]
    rw [e1]
    exact ⟨_, [], rfl, ⟨rfl, rfl⟩, hw1.sub (by simp) (by simp)⟩
theorem clone64N_c  (w : World) : Calls Tryd.prog 112 #[.slice none 0 0] w (Post w [] (fun v L => v = .slice none 0 0 ∧ L = [])) := by
 refine enter w [] 8 [] [.slice none 0 0] Tryd.func112 rfl rfl (by simp) (BR (by simp) (by simp) (by simp)) ?_
 show JC _ _ _ [(0, .slice none 0 0)] _
 refine AF (AB (AA _ (AE rfl) rfl ?_))
 refine AI (AC (AF (AF (AB (AA _ (AG rfl) rfl ?_)))))
 refine AA (.bool true) (FQ _ _ _ rfl rfl (fun _ => eqGuard_sl ..) fun _ => eql_sl_nil_nil BI) rfl ?_
 refine AI (AC (D1 _ rfl rfl ?_))
 refine AF (AB (AA _ (AE rfl) rfl ?_))
 refine AI (AC (BO (A3 (BQ (.slice none 0 0) (res1 Tryd.results112 (B2 rfl)) fun w1 hw1 => ?_))))
 exact ⟨_, [], rfl, ⟨rfl, rfl⟩, hw1.sub (by simp) (by simp)⟩
theorem clone64_c (ai : Option Addr) (ni ci : Nat) (l : List UInt64)  (w : World) (hl : l.length = ni) (hnm : ni ≤ 2000000) (hnc : ni ≤ ci) (hcm : ci ≤ maxLen) (hv : RdV w ai (cu64 l)) (ha : ai.isNone = false)  : Calls Tryd.prog 112 #[.slice ai ni ci] w (Post w [] (fun v L => ∃ g sp cap, v = Slc g 0 ni cap ∧ L = [⟨g, cu64 l ++ sp, 22, (0, 0)⟩] ∧ sp.length = cap - ni ∧ ni ≤ cap ∧ cap ≤ maxLen)) := by
 have hmx : maxLen = 9223372036854775807 := rfl
 refine enter w [] 8 [] [.slice ai ni ci] Tryd.func112 rfl rfl (by simp) (BR (by simp) (by simp) (by simp)) ?_
 show JC _ _ _ [(0, .slice ai ni ci)] _
 refine AF (AB (AA _ (AE rfl) rfl ?_))
 refine AI (AC (AF (AF (AB (AA _ (AG rfl) rfl ?_)))))
 refine AA (.bool ai.isNone) (FQ _ _ _ rfl rfl (fun _ => eqGuard_sl ..) fun _ => eql_sl_any BI) rfl ?_
 refine AI (AC (DV _ rfl ha ?_))
 refine BJ (AC (AF (AB (AV (FF 22 1 BI BC) rfl ?_))))
 rintro v1 L1 ⟨nb1, hnb1, rfl, rfl⟩
 show JL _ _ _ _ ((5, Slc nb1 0 0 0) :: _) [⟨nb1, [], 22, (0, 0)⟩]
 refine AA _ (AG rfl) rfl ?_
 refine AV (Step_appM64 23 22 [true] (Slc nb1 0 0 0) 0 ([] : List UInt64) l ai ni ci ni BI Tryd.info22 rfl (.inr ⟨nb1, [], 0, rfl, (by simp [take?, cu8, cu32, cu64]), rfl, (by simp), (by omega), (by unfold maxLen; omega)⟩) rfl (by first | exact hl | simp [hl]; try omega) (RdV.src hv rfl) (by omega) (by unfold maxLen; omega) (by omega)) rfl ?_
 rintro v1 L1 ⟨nb2, sp1, cp1, hg1, rfl, rfl, ha1, ha2, ha3, ha4⟩
 show JL _ _ _ _ ((7, Slc nb2 0 ni cp1) :: _) [⟨nb2, cu64 (([] : List UInt64) ++ l) ++ sp1, 22, (0, 0)⟩]
 refine AA _ (AE rfl) rfl ?_
 refine AI (AC (BO (BQ (Slc nb2 0 ni cp1) (res1 Tryd.results112 (B2 rfl)) fun w1 hw1 => ?_)))
 exact ⟨_, _, rfl, ⟨nb2, sp1, cp1, rfl, rfl, ha2, ha3, ha4⟩, hw1.sub (by simp) (by simp)⟩
theorem rnumber_c (nv : UInt64) (k : Nat) (w : World) (hk : k ≤ 8) : Calls Tryd.prog 88 #[U64 nv, I64 k] w (Post w [] (fun v L => ∃ g, v = Slc g 0 k k ∧ L = [⟨g, cu8 (numK k nv k), 5, (0, 0)⟩])) := by
 have hmx : maxLen = 9223372036854775807 := rfl
 refine enter w [] 24 [] [U64 nv, I64 k] Tryd.func88 rfl rfl (by simp) (BR (by simp) (by simp) (by simp)) ?_
 show JC _ _ _ [(0, U64 nv), (1, I64 k)] _
 refine AF (AB (AA _ (AE rfl) rfl ?_))
 refine AI (AC (AF (AB (AA _ (AG rfl) rfl ?_))))
 refine AV (Step_make8 5 1 k k AK C4 rfl rfl (by omega) (by omega) (by unfold maxLen; omega)) rfl ?_
 rintro v1 L1 ⟨nb1, hnb1, rfl, rfl⟩
 show JL _ _ _ _ ((8, Slc nb1 0 k k) :: _) [⟨nb1, cu8 (zr8 k), 5, (0, 0)⟩]
 refine AA _ (AE rfl) rfl ?_
 refine AI (AC (AF (AF (AB (AA _ (AG rfl) rfl ?_)))))
 refine AA (I64 ((k:Int) - 1)) (AJ rfl rfl fun _ => C5 _ _ ((k:Int) - 1) (by omega) (by omega)) rfl ?_
 refine AA _ (AE rfl) rfl ?_
 refine AI (AC (A9 (DI (ι := Nat × List UInt8 × UInt64) (fun ⟨j, o, y⟩ => [(4, .slice none 0 0), (5, Slc nb1 0 k k), (6, I64 (-(j:Int) + (k:Int) - 1)), (0, U64 y)]) (fun ⟨j, o, y⟩ => [⟨nb1, cu8 o, 5, (0, 0)⟩]) (fun ⟨j, o, y⟩ => j ≤ k ∧ o = (rnK k nv j).1 ∧ y = (rnK k nv j).2 ∧ o.length = k) (fun ⟨j, o, y⟩ => k - j) (0, zr8 k, nv) ⟨by omega, by rw [rnK], by rw [rnK], AP k⟩ (Sub.cons rfl (Sub.cons rfl (Sub.cons (EM (by omega)) (Sub.all rfl)))) rfl ?_)))
 rintro ⟨j, o, y⟩ ⟨hx1, hx2, hx3, ho⟩
 show JC _ _ _ [(4, .slice none 0 0), (5, Slc nb1 0 k k), (6, I64 (-(j:Int) + (k:Int) - 1)), (0, U64 y)] [⟨nb1, cu8 o, 5, (0, 0)⟩]
 refine AF (AF (AB (AA _ (AG rfl) rfl ?_)))
 refine AA (.bool (decide ((0:Int) ≤ (-(j:Int) + (k:Int) - 1)))) (AJ rfl rfl fun _ => FY _ _) rfl ?_
 refine AI (AC (B5 (decide ((0:Int) ≤ (-(j:Int) + (k:Int) - 1))) rfl (fun hb1 => ?_) (fun hb1 => ?_)))
 ·
  have hp1 : (0:Int) ≤ (-(j:Int) + (k:Int) - 1) := of_decide_eq_true hb1
  refine BJ (AC (AF (A9 (AF (AB (AA _ (AG rfl) rfl ?_))))))
  refine AA _ (AG rfl) rfl ?_
  refine AA _ (AG rfl) rfl ?_
  refine AA (U64 (y % (256:UInt64))) (AJ rfl rfl fun _ => bin_rem_u64 y (256:UInt64) (by decide)) rfl ?_
  refine AA (U8 ((y % (256:UInt64)).toUInt8)) (EG _ _ rfl fun _ => E9 (by rw [B8]; rfl) B3 _) rfl ?_
  refine AA (Ptr nb1 (k - j - 1)) (ED 5 1 (k - j - 1) AK AM rfl rfl (by omega) (by omega) (by omega)) rfl ?_
  have hl1 : (o.set (k - j - 1) ((y % (256:UInt64)).toUInt8)).length = k := by first | (rw [List.length_set]; exact ho) | simp [ho]
  refine A0 (CN 0 nb1 (k - j - 1) 1 (cu8 o) 5 (U8 ((y % (256:UInt64)).toUInt8)) ([U8 ((y % (256:UInt64)).toUInt8)]) (cu8 (o.set (k - j - 1) ((y % (256:UInt64)).toUInt8))) rfl rfl rfl rfl AM rfl (by simp [Value.oneCell']) (by simp [ho]; try omega) (lay8 _ _ _ (by rw [ho]; omega))) rfl ?_
  show JL _ _ _ _ _ [⟨nb1, cu8 (o.set (k - j - 1) ((y % (256:UInt64)).toUInt8)), 5, (0, 0)⟩]
  refine AI (AC (AB (AA _ (AG rfl) rfl ?_)))
  refine AA (U64 (y / (256:UInt64))) (AJ rfl rfl fun _ => bin_quo_u64 y (256:UInt64) (by decide)) rfl ?_
  refine AA _ (AE rfl) rfl ?_
  refine AI (A5 (AC (AB (AA _ (AG rfl) rfl ?_))))
  refine AA (I64 (-(j:Int) + (k:Int) - 2)) (AJ rfl rfl fun _ => C5 _ _ (-(j:Int) + (k:Int) - 2) (by omega) (by omega)) rfl ?_
  refine AA _ (AE rfl) rfl ?_
  refine AI (B6 (DN (j + 1, o.set (k - j - 1) ((y % (256:UInt64)).toUInt8), y / (256:UInt64)) ⟨by omega, by rw [rnK, ← hx2, ← hx3], by rw [rnK, ← hx3], hl1⟩ (by first | (simp; omega) | simp | (dsimp only; omega) | omega) (Sub.cons rfl (Sub.cons rfl (Sub.cons (EM (by omega)) (Sub.all rfl)))) rfl))
 ·
  have hp1 : ¬ ((0:Int) ≤ (-(j:Int) + (k:Int) - 1)) := of_decide_eq_false hb1
  refine DA (AQ (AQ (BV (AC (AF (AB (AA _ (AG rfl) rfl ?_)))))))
  refine AA _ (AE rfl) rfl ?_
  refine AI (AC (BO (BQ (Slc nb1 0 k k) (res1 Tryd.results88 (B2 rfl)) fun w1 hw1 => ?_)))
  have e1 : j = k := by omega
  rw [hx2, e1, rnK_num k nv hk] at hw1
  exact ⟨_, _, rfl, ⟨_, rfl, rfl⟩, hw1.sub (by simp) (by simp)⟩
theorem put7_c (e : UInt64) (d t : List UInt8) (w : World) (hd : d.length = 32) (ht : t.length = 16) : Calls Tryd.prog 97 #[.agg ([U64 e] ++ cu8 d ++ cu8 t).toArray] w (Post w [] (fun v L => ∃ g sp cap, v = Slc g 0 56 cap ∧ L = [⟨g, cu8 (putL e d t) ++ sp, 5, (0, 0)⟩] ∧ sp.length = cap - 56 ∧ 56 ≤ cap ∧ cap ≤ maxLen)) := by
 have hmx : maxLen = 9223372036854775807 := rfl
 refine enter (P := Tryd.prog) (f := 97) (fn := Tryd.f97) w [] 25 [] [.agg ([U64 e] ++ cu8 d ++ cu8 t).toArray] Tryd.func97 rfl rfl (by simp) (BR (by simp) (by simp) (by simp)) ?_
 show JC _ _ _ [(0, .agg ([U64 e] ++ cu8 d ++ cu8 t).toArray)] _
 refine AF (AB (AV (CG (.agg ([U64 e] ++ cu8 d ++ cu8 t).toArray) ([U64 e] ++ cu8 d ++ cu8 t) rfl (by first | rfl | simp)) rfl ?_))
 rintro v1 L1 ⟨nb1, hnb1, rfl, rfl⟩
 show JL _ _ _ _ ((1, Ptr nb1 0) :: _) [⟨nb1, [U64 e] ++ cu8 d ++ cu8 t, 161, (0, 0)⟩]
 refine AA _ (AE rfl) rfl ?_
 refine AI (AC (AF (AB (AA (.agg #[.nilIface, .slice none 0 0]) (DG [] _ rfl (fun _ => by kernel_rfl)) rfl ?_))))
 refine AV (CG (.agg #[.nilIface, .slice none 0 0]) ([.nilIface, .slice none 0 0]) rfl (by first | rfl | simp)) rfl ?_
 rintro v1 L1 ⟨nb2, hnb2, rfl, rfl⟩
 show JL _ _ _ _ ((7, Ptr nb2 0) :: _) [_, ⟨nb2, [.nilIface, .slice none 0 0], 149, (0, 0)⟩]
 refine AA _ (AE rfl) rfl ?_
 refine AI (AC (AF (CT 25 5 [(0, Ptr nb2 0), (1, Ptr nb1 0), (2, U64 e), (4, Ptr nb1 1), (5, Slc nb1 1 32 32), (7, Ptr nb1 33), (8, Slc nb1 33 16 16)] BL rfl (by decide +kernel) ?_)))
 refine CU ⟨[], [0, 1, 2, 4, 5, 7, 8], [], [0, 1, 2, 4, 5, 7, 8], [3]⟩ 3 _ rfl rfl (by decide +kernel) rfl ⟨AU rfl rfl rfl, ⟨_, rfl, AD rfl (AH 0 22 1 DZ rfl BC rfl rfl)⟩, ⟨_, rfl, AD rfl (AL rfl (AZ BG (AR 0 rfl (BE (BE (Seg.head))))))⟩, ⟨_, rfl, AD rfl (AH 1 159 32 DZ rfl CF rfl rfl)⟩, ⟨_, rfl, AD rfl (B1 32 5 1 0 32 1 32 DJ AM rfl rfl rfl (by omega) (by omega) (by omega) (by omega) (by omega) 32 (by omega))⟩, ⟨_, rfl, AD rfl (AH 33 27 16 DZ rfl AT rfl rfl)⟩, ⟨_, rfl, AD rfl (B1 16 5 1 0 16 33 16 BF AM rfl rfl rfl (by omega) (by omega) (by omega) (by omega) (by omega) 16 (by omega))⟩, trivial⟩ rfl (AW rfl (FH 81 _ [false, true] [nb2] _ (A4 [Ptr nb2 0, U64 e, I64 8] Tryd.call81 rfl) rfl (fun w1 hw1 => numN_c nb2 8 .nilIface e 8 w1 (hw1.ent _ (List.mem_of_getElem? (i := 1) rfl)) (by unfold Szd; omega) (fun h => absurd h (by omega)) (by omega)))) ?_
 rintro v1 L1 ⟨_, ⟨rfl, nb3, sp1, cp1, rfl, hc1, hc2, hc3⟩, rfl⟩
 refine ⟨[], ?_⟩
 show DP _ _ _ _ _ _ _ _ [_, ⟨nb2, [.nilIface, Slc nb3 0 8 cp1], 149, (0, 0)⟩, ⟨nb3, cu8 (numK 8 e 8) ++ sp1, 5, (0, 0)⟩]
 refine CU ⟨[3], [0, 1, 2, 4, 5, 7, 8], [0, 1, 2], [4, 5, 7, 8], [6]⟩ 6 _ rfl rfl (by decide +kernel) rfl ⟨⟨_, rfl, AD rfl (AH 1 159 32 DZ rfl CF rfl rfl)⟩, ⟨_, rfl, AD rfl (B1 32 5 1 0 32 1 32 DJ AM rfl rfl rfl (by omega) (by omega) (by omega) (by omega) (by omega) 32 (by omega))⟩, ⟨_, rfl, AD rfl (AH 33 27 16 DZ rfl AT rfl rfl)⟩, ⟨_, rfl, AD rfl (B1 16 5 1 0 16 33 16 BF AM rfl rfl rfl (by omega) (by omega) (by omega) (by omega) (by omega) 16 (by omega))⟩, trivial⟩ rfl (AW rfl (FH 82 _ [false, true, true] [nb2, nb3] _ (A4 [Ptr nb2 0, Slc nb1 1 32 32] Tryd.call82 rfl) rfl (fun w1 hw1 => rawO_c nb2 nb3 8 cp1 40 .nilIface (numK 8 e 8) sp1 (some ⟨nb1, 1, none⟩) 32 32 d w1 (hw1.ent _ (List.mem_of_getElem? (i := 1) rfl)) (hw1.ent _ (List.mem_of_getElem? (i := 2) rfl)) (hw1.ne (i := 1) (j := 2) rfl rfl (by decide)) (show (numK 8 e 8).length = 8 from (EA _ _ _)) hc1 hc2 hc3 (by omega) hd (by omega) (RdB.of hw1 (AR 0 rfl (BE (Seg.right 1 0 rfl rfl (AN _)))) (by intro _; simp only [List.mem_cons, List.not_mem_nil, or_false, not_or]; exact ⟨hw1.ne (i := 0) (j := 1) rfl rfl (by decide), hw1.ne (i := 0) (j := 2) rfl rfl (by decide)⟩)) (by omega)))) ?_
 rintro v1 L1 ⟨_, ⟨rfl, nb4, sp2, cp2, rfl, hc4, hc5, hc6⟩, rfl⟩
 refine ⟨[], ?_⟩
 show DP _ _ _ _ _ _ _ _ [_, ⟨nb2, [.nilIface, Slc nb4 0 40 cp2], 149, (0, 0)⟩, ⟨nb4, cu8 ((numK 8 e 8) ++ d) ++ sp2, 5, (0, 0)⟩]
 refine CU ⟨[3, 6], [0, 1, 2, 4, 5, 7, 8], [0, 1, 2, 4, 5], [7, 8], [9]⟩ 9 _ rfl rfl (by decide +kernel) rfl ⟨⟨_, rfl, AD rfl (AH 33 27 16 DZ rfl AT rfl rfl)⟩, ⟨_, rfl, AD rfl (B1 16 5 1 0 16 33 16 BF AM rfl rfl rfl (by omega) (by omega) (by omega) (by omega) (by omega) 16 (by omega))⟩, trivial⟩ rfl (AW rfl (FH 82 _ [false, true, true] [nb2, nb4] _ (A4 [Ptr nb2 0, Slc nb1 33 16 16] Tryd.call82 rfl) rfl (fun w1 hw1 => rawO_c nb2 nb4 40 cp2 56 .nilIface ((numK 8 e 8) ++ d) sp2 (some ⟨nb1, 33, none⟩) 16 16 t w1 (hw1.ent _ (List.mem_of_getElem? (i := 1) rfl)) (hw1.ent _ (List.mem_of_getElem? (i := 2) rfl)) (hw1.ne (i := 1) (j := 2) rfl rfl (by decide)) (show ((numK 8 e 8) ++ d).length = 40 from (by rw [List.length_append, (show (numK 8 e 8).length = 8 from (EA _ _ _)), hd] <;> omega)) hc4 hc5 hc6 (by omega) ht (by omega) (RdB.of hw1 (AR 0 rfl (Seg.right 33 0 (by simp [hd]) rfl (AN _))) (by intro _; simp only [List.mem_cons, List.not_mem_nil, or_false, not_or]; exact ⟨hw1.ne (i := 0) (j := 1) rfl rfl (by decide), hw1.ne (i := 0) (j := 2) rfl rfl (by decide)⟩)) (by omega)))) ?_
 rintro v1 L1 ⟨_, ⟨rfl, nb5, sp3, cp3, rfl, hc7, hc8, hc9⟩, rfl⟩
 refine ⟨[], ?_⟩
 show DP _ _ _ _ _ _ _ _ [_, ⟨nb2, [.nilIface, Slc nb5 0 56 cp3], 149, (0, 0)⟩, ⟨nb5, cu8 (((numK 8 e 8) ++ d) ++ t) ++ sp3, 5, (0, 0)⟩]
 refine CU ⟨[3, 6, 9], [0, 1, 2, 4, 5, 7, 8], [0, 1, 2, 4, 5, 7, 8], [], [10]⟩ 10 _ rfl rfl (by decide +kernel) rfl trivial rfl (AW rfl (CH 83 [Ptr nb2 0] _ (A4 _ Tryd.call83 rfl) (fun w1 hw1 => doneO_c nb2 0 nb5 56 cp3 (((numK 8 e 8) ++ d) ++ t) w1 (RdA.of hw1 (AR 1 rfl (AN _)) (by simp)) rfl (show (((numK 8 e 8) ++ d) ++ t).length = 56 from (by rw [List.length_append, (show ((numK 8 e 8) ++ d).length = 40 from (by rw [List.length_append, (show (numK 8 e 8).length = 8 from (EA _ _ _)), hd] <;> omega)), ht] <;> omega)) (by omega) (RdB.of hw1 (AR 2 rfl (BE (AN _))) (by simp))))) ?_
 rintro v1 L1 ⟨_, ⟨nb6, sp4, cp4, rfl, rfl, hc10, hc11, hc12⟩, rfl⟩
 refine ⟨[(11, .tuple #[Slc nb6 0 56 cp4, .nilIface]), (12, Slc nb6 0 56 cp4), (13, .nilIface), (14, Slc nb6 0 56 cp4), (15, .nilIface)], ?_⟩
 show DP _ _ _ _ _ _ _ _ [_, _, _, ⟨nb6, cu8 (((numK 8 e 8) ++ d) ++ t) ++ sp4, 5, (0, 0)⟩]
 refine DE ⟨[3, 6, 9, 10], [0, 1, 2, 4, 5, 7, 8, 11, 12, 13, 14, 15], [0, 1, 2, 4, 5, 7, 8], [11, 12, 13, 14, 15], []⟩ rfl rfl (by decide +kernel) rfl ⟨AU rfl rfl rfl, ⟨_, rfl, AD rfl (BS rfl rfl)⟩, ⟨_, rfl, AD rfl (BS rfl rfl)⟩, ⟨_, rfl, AD rfl (AE rfl)⟩, ⟨_, rfl, AD rfl (AE rfl)⟩, trivial⟩ ?_
 refine CC (F' := [(4, Slc nb6 0 56 cp4), (5, .nilIface), (2, .slice none 0 0)]) (by kernel_rfl) ?_
 refine AC (AF (AF (AB (AA _ (AG rfl) rfl ?_))))
 refine AA (.bool false) (FQ _ _ _ rfl rfl (fun _ => GI ..) fun _ => F6 DU) rfl ?_
 refine AI (AC (DV _ rfl rfl ?_))
 refine BJ (AC (AF (AB (AA _ (AG rfl) rfl ?_))))
 refine AA _ (AE rfl) rfl ?_
 refine AI (AC (BO (CA [false, false, false, true] ?_)))
 show JQ _ _ _ _ [_]
 refine BQ (Slc nb6 0 56 cp4) (res1 Tryd.results97 (B2 rfl)) fun w1 hw1 => ?_
 have hq : ((numK 8 e 8) ++ d) ++ t = putL e d t := by rw [putL]
 rw [hq] at hw1
 exact ⟨_, _, rfl, ⟨nb6, sp4, cp4, rfl, rfl, hc10, hc11, hc12⟩, hw1.sub (by simp) (by simp)⟩
theorem text3_c (pv ep : UInt64) (k : Nat) (ai : Option Addr) (ni ci : Nat) (l : List UInt64) (sa : Option Addr) (ns sc : Nat) (ls : List SealR) (bl : UInt64) (tg : List UInt8)  (w : World) (hl : l.length = ni) (hnm : ni ≤ 2000000) (hnc : ni ≤ ci) (hcm : ci ≤ maxLen) (hv : RdV w ai (cu64 l)) (hls : ls.length = ns) (hnn : ns ≤ 2000000) (hnd : ns ≤ sc) (hcn : sc ≤ maxLen) (hs : RdV w sa (ls.flatMap sealC)) (htg : tg.length = 16) (hmay : mayN pv ep (k:Int) l ls bl = 0) (hk : k = 3)  : Calls Tryd.prog 114 #[.agg ([U64 pv, U64 ep, I64 k, .slice ai ni ci, .slice sa ns sc, U64 bl] ++ cu8 tg).toArray] w (Post w [] (fun v L => ∃ g sp cap, v = .tuple #[Slc g 0 25 cap, .nilIface] ∧ L = [⟨g, cu8 (tktT pv ep k l ls bl) ++ sp, 5, (0, 0)⟩] ∧ sp.length = cap - 25 ∧ 25 ≤ cap ∧ cap ≤ maxLen)) := by
 have hmx : maxLen = 9223372036854775807 := rfl
 refine enter (P := Tryd.prog) (f := 114) (fn := Tryd.f114) w [] 75 [] [.agg ([U64 pv, U64 ep, I64 k, .slice ai ni ci, .slice sa ns sc, U64 bl] ++ cu8 tg).toArray] Tryd.func114 rfl rfl (by simp) (BR (by simp) (by simp) (by simp)) ?_
 show JC _ _ _ [(0, .agg ([U64 pv, U64 ep, I64 k, .slice ai ni ci, .slice sa ns sc, U64 bl] ++ cu8 tg).toArray)] _
 refine AF (AB (AV (CG (.agg ([U64 pv, U64 ep, I64 k, .slice ai ni ci, .slice sa ns sc, U64 bl] ++ cu8 tg).toArray) ([U64 pv, U64 ep, I64 k, .slice ai ni ci, .slice sa ns sc, U64 bl] ++ cu8 tg) rfl (by first | rfl | simp)) rfl ?_))
 rintro v1 L1 ⟨nb1, hnb1, rfl, rfl⟩
 show JL _ _ _ _ ((1, Ptr nb1 0) :: _) [⟨nb1, [U64 pv, U64 ep, I64 k, .slice ai ni ci, .slice sa ns sc, U64 bl] ++ cu8 tg, 29, (0, 0)⟩]
 refine AA _ (AE rfl) rfl ?_
 refine AA _ (AE rfl) rfl ?_
 refine AI (AC (AF (AF (AB (AA (.agg ([U64 pv, U64 ep, I64 k, .slice ai ni ci, .slice sa ns sc, U64 bl] ++ cu8 tg).toArray) (AL rfl (BH Tryd.isAgg29 E3 (by simp [htg]) (AR 0 rfl (AN _)))) rfl ?_)))))
 refine A0 (AY 128 [.agg ([U64 pv, U64 ep, I64 k, .slice ai ni ci, .slice sa ns sc, U64 bl] ++ cu8 tg).toArray] (errV 50 (mayN pv ep ((k:Int)) l ls bl)) (A4 _ Tryd.call128 rfl) (fun w1 hw1 => may13_c pv ep ((k:Int)) ai ni ci l sa ns sc ls bl tg w1 hl (by omega) (by omega) (by omega) (FT hw1 rfl hv) hls (by omega) (by omega) (by omega) (FT hw1 rfl hs) htg)) rfl ?_
 show JL _ _ _ _ ((12, errV 50 (mayN pv ep ((k:Int)) l ls bl)) :: _) [_]
 refine AA _ (AE rfl) rfl ?_
 refine AI (AC (AF (AB (AA _ (AG rfl) rfl ?_))))
 refine AA (.bool (!(decide (mayN pv ep ((k:Int)) l ls bl = 0)))) (FQ _ _ _ rfl rfl (fun _ => GC ..) fun _ => neq_errV DU _ _) rfl ?_
 refine AI (AC (DV _ rfl (by rw [show (decide (mayN pv ep ((k:Int)) l ls bl = 0)) = true from (decide_eq_true hmay)] <;> rfl) ?_))
 refine BJ (AC (AF (AB (AA (Ptr nb1 2) (AH 2 26 4 BN rfl B7 rfl rfl) rfl ?_))))
 refine AA (.agg #[I64 k, .slice ai ni ci, .slice sa ns sc, U64 bl]) (AL rfl (BH EQ B7 rfl (AR 0 rfl (Seg.split (p := [U64 pv, U64 ep]) (q := cu8 tg) (vs := [I64 k, .slice ai ni ci, .slice sa ns sc, U64 bl]) (by first | rfl | (simp only [List.append_assoc, List.nil_append, List.append_nil, List.cons_append]; done)) rfl)))) rfl ?_
 refine AV (A7 _ ([I64 0, .slice none 0 0, .slice none 0 0, U64 0]) EN (by kernel_rfl)) rfl ?_
 rintro v1 L1 ⟨nb2, hnb2, rfl, rfl⟩
 show JL _ _ _ _ ((5, Ptr nb2 0) :: _) [_, ⟨nb2, [I64 0, .slice none 0 0, .slice none 0 0, U64 0], 26, (0, 0)⟩]
 refine A0 (AX 1 nb2 4 ([I64 0, .slice none 0 0, .slice none 0 0, U64 0]) 26 ([I64 k, .slice ai ni ci, .slice sa ns sc, U64 bl]) rfl rfl rfl B7 rfl (by simp [Value.oneCell']) (Nat.le_of_ble_eq_true rfl) (A6 (by simp []))) rfl ?_
 show JL _ _ _ _ _ [_, ⟨nb2, [I64 k, .slice ai ni ci, .slice sa ns sc, U64 bl], 26, (0, 0)⟩]
 refine AI (AC (AF (AB (AA (.agg #[.nilIface, .slice none 0 0]) (DG [] _ rfl (fun _ => by kernel_rfl)) rfl ?_))))
 refine AV (CG (.agg #[.nilIface, .slice none 0 0]) ([.nilIface, .slice none 0 0]) rfl (by first | rfl | simp)) rfl ?_
 rintro v1 L1 ⟨nb3, hnb3, rfl, rfl⟩
 show JL _ _ _ _ ((19, Ptr nb3 0) :: _) [_, _, ⟨nb3, [.nilIface, .slice none 0 0], 149, (0, 0)⟩]
 refine AA _ (AE rfl) rfl ?_
 refine AI (AC (AF (CT 75 4 [(0, Ptr nb3 0), (1, Ptr nb1 0), (2, U64 pv), (4, Ptr nb1 1), (5, U64 ep), (7, Ptr nb2 0), (8, I64 k), (9, U64 (UInt64.ofNat k))] BL rfl (by decide +kernel) ?_)))
 refine CU ⟨[], [0, 1, 2, 4, 5, 7, 8, 9], [], [0, 1, 2, 4, 5, 7, 8, 9], [3]⟩ 3 _ rfl rfl (by decide +kernel) rfl ⟨AU rfl rfl rfl, ⟨_, rfl, AD rfl (AH 0 22 1 BN rfl BC rfl rfl)⟩, ⟨_, rfl, AD rfl (AL rfl (AZ BG (AR 0 rfl (BE (Seg.head)))))⟩, ⟨_, rfl, AD rfl (AH 1 22 1 BN rfl BC rfl rfl)⟩, ⟨_, rfl, AD rfl (AL rfl (AZ BG (AR 0 rfl (BE (AS (Seg.head))))))⟩, ⟨_, rfl, AD rfl (AH 0 3 1 A2 rfl DR rfl rfl)⟩, ⟨_, rfl, AD rfl (AL rfl (AZ DC (AR 1 rfl (Seg.head))))⟩, ⟨_, rfl, AD rfl (EG _ _ rfl fun _ => E5 (by rw [D2]; rfl) B8 k _ (by omega))⟩, trivial⟩ rfl (AW rfl (FH 81 _ [false, false, true] [nb3] _ (A4 [Ptr nb3 0, U64 pv, I64 8] Tryd.call81 rfl) rfl (fun w1 hw1 => numN_c nb3 8 .nilIface pv 8 w1 (hw1.ent _ (List.mem_of_getElem? (i := 2) rfl)) (by unfold Szd; omega) (fun h => absurd h (by omega)) (by omega)))) ?_
 rintro v1 L1 ⟨_, ⟨rfl, nb4, sp1, cp1, rfl, hc1, hc2, hc3⟩, rfl⟩
 refine ⟨[], ?_⟩
 show DP _ _ _ _ _ _ _ _ [_, _, ⟨nb3, [.nilIface, Slc nb4 0 8 cp1], 149, (0, 0)⟩, ⟨nb4, cu8 (numK 8 pv 8) ++ sp1, 5, (0, 0)⟩]
 refine CU ⟨[3], [0, 1, 2, 4, 5, 7, 8, 9], [0, 1, 2], [4, 5, 7, 8, 9], [6]⟩ 6 _ rfl rfl (by decide +kernel) rfl ⟨⟨_, rfl, AD rfl (AH 1 22 1 BN rfl BC rfl rfl)⟩, ⟨_, rfl, AD rfl (AL rfl (AZ BG (AR 0 rfl (BE (AS (Seg.head))))))⟩, ⟨_, rfl, AD rfl (AH 0 3 1 A2 rfl DR rfl rfl)⟩, ⟨_, rfl, AD rfl (AL rfl (AZ DC (AR 1 rfl (Seg.head))))⟩, ⟨_, rfl, AD rfl (EG _ _ rfl fun _ => E5 (by rw [D2]; rfl) B8 k _ (by omega))⟩, trivial⟩ rfl (AW rfl (FH 81 _ [false, false, true, true] [nb3, nb4] _ (A4 [Ptr nb3 0, U64 ep, I64 8] Tryd.call81 rfl) rfl (fun w1 hw1 => numO_c nb3 nb4 8 cp1 16 .nilIface (numK 8 pv 8) sp1 ep 8 w1 (hw1.ent _ (List.mem_of_getElem? (i := 2) rfl)) (hw1.ent _ (List.mem_of_getElem? (i := 3) rfl)) (hw1.ne (i := 2) (j := 3) rfl rfl (by decide)) (show (numK 8 pv 8).length = 8 from (EA _ _ _)) hc1 hc2 hc3 (by omega) (by unfold Szd; omega) (fun h => absurd h (by omega)) (by omega)))) ?_
 rintro v1 L1 ⟨_, ⟨rfl, nb5, sp2, cp2, rfl, hc4, hc5, hc6⟩, rfl⟩
 refine ⟨[], ?_⟩
 show DP _ _ _ _ _ _ _ _ [_, _, ⟨nb3, [.nilIface, Slc nb5 0 16 cp2], 149, (0, 0)⟩, ⟨nb5, cu8 ((numK 8 pv 8) ++ numK 8 ep 8) ++ sp2, 5, (0, 0)⟩]
 refine CU ⟨[3, 6], [0, 1, 2, 4, 5, 7, 8, 9], [0, 1, 2, 4, 5], [7, 8, 9], [10]⟩ 10 _ rfl rfl (by decide +kernel) rfl ⟨⟨_, rfl, AD rfl (AH 0 3 1 A2 rfl DR rfl rfl)⟩, ⟨_, rfl, AD rfl (AL rfl (AZ DC (AR 1 rfl (Seg.head))))⟩, ⟨_, rfl, AD rfl (EG _ _ rfl fun _ => E5 (by rw [D2]; rfl) B8 k _ (by omega))⟩, trivial⟩ rfl (AW rfl (FH 81 _ [false, false, true, true] [nb3, nb5] _ (A4 [Ptr nb3 0, U64 (UInt64.ofNat k), I64 1] Tryd.call81 rfl) rfl (fun w1 hw1 => numO_c nb3 nb5 16 cp2 17 .nilIface ((numK 8 pv 8) ++ numK 8 ep 8) sp2 (UInt64.ofNat k) 1 w1 (hw1.ent _ (List.mem_of_getElem? (i := 2) rfl)) (hw1.ent _ (List.mem_of_getElem? (i := 3) rfl)) (hw1.ne (i := 2) (j := 3) rfl rfl (by decide)) (show ((numK 8 pv 8) ++ numK 8 ep 8).length = 16 from (by rw [List.length_append, (show (numK 8 pv 8).length = 8 from (EA _ _ _)), EA] <;> omega)) hc4 hc5 hc6 (by omega) (by unfold Szd; omega) (fun _ => shr8n (by omega)) (by omega)))) ?_
 rintro v1 L1 ⟨_, ⟨rfl, nb6, sp3, cp3, rfl, hc7, hc8, hc9⟩, rfl⟩
 refine ⟨[], ?_⟩
 show DP _ _ _ _ _ _ _ _ [_, _, ⟨nb3, [.nilIface, Slc nb6 0 17 cp3], 149, (0, 0)⟩, ⟨nb6, cu8 (((numK 8 pv 8) ++ numK 8 ep 8) ++ numK 1 (UInt64.ofNat k) 1) ++ sp3, 5, (0, 0)⟩]
 refine DE ⟨[3, 6, 10], [0, 1, 2, 4, 5, 7, 8, 9], [0, 1, 2, 4, 5, 7, 8, 9], [], []⟩ rfl rfl (by decide +kernel) rfl trivial ?_
 refine CC (F' := [(2, .slice none 0 0), (3, .nilIface), (5, Ptr nb2 0), (6, Ptr nb3 0)]) (by kernel_rfl) ?_
 refine AC (AF (AF (AB (AA (Ptr nb2 0) (AH 0 3 1 A2 rfl DR rfl rfl) rfl ?_))))
 refine AA (I64 k) (AL rfl (AZ DC (AR 1 rfl (Seg.head)))) rfl ?_
 refine AA (.bool (decide (((k:Int)) = (3:Int)))) (AJ rfl rfl fun _ => D6 _ _) rfl ?_
 refine AI (AC (D1 _ rfl (decide_eq_true (by omega)) ?_))
 refine AF (AB (AA _ (AG rfl) rfl ?_))
 refine AA (Ptr nb2 3) (AH 3 22 1 A2 rfl BC rfl rfl) rfl ?_
 refine AA (U64 bl) (AL rfl (AZ BG (AR 1 rfl (AS (AS (AS (Seg.head))))))) rfl ?_
 refine AV (FH 81 _ [false, false, true, true] [nb3, nb6] _ (A4 [Ptr nb3 0, U64 bl, I64 8] Tryd.call81 rfl) rfl (fun w1 hw1 => numO_c nb3 nb6 17 cp3 25 .nilIface (((numK 8 pv 8) ++ numK 8 ep 8) ++ numK 1 (UInt64.ofNat k) 1) sp3 bl 8 w1 (hw1.ent _ (List.mem_of_getElem? (i := 2) rfl)) (hw1.ent _ (List.mem_of_getElem? (i := 3) rfl)) (hw1.ne (i := 2) (j := 3) rfl rfl (by decide)) (show (((numK 8 pv 8) ++ numK 8 ep 8) ++ numK 1 (UInt64.ofNat k) 1).length = 17 from (by rw [List.length_append, (show ((numK 8 pv 8) ++ numK 8 ep 8).length = 16 from (by rw [List.length_append, (show (numK 8 pv 8).length = 8 from (EA _ _ _)), EA] <;> omega)), EA] <;> omega)) hc7 hc8 hc9 (by omega) (by unfold Szd; omega) (fun h => absurd h (by omega)) (by omega))) rfl ?_
 rintro v1 L1 ⟨_, ⟨rfl, nb7, sp4, cp4, rfl, hc10, hc11, hc12⟩, rfl⟩
 show JL _ _ _ _ ((37, Ptr nb3 0) :: _) [_, _, ⟨nb3, [.nilIface, Slc nb7 0 25 cp4], 149, (0, 0)⟩, ⟨nb7, cu8 ((((numK 8 pv 8) ++ numK 8 ep 8) ++ numK 1 (UInt64.ofNat k) 1) ++ numK 8 bl 8) ++ sp4, 5, (0, 0)⟩]
 refine AV (CH 83 [Ptr nb3 0] _ (A4 _ Tryd.call83 rfl) (fun w1 hw1 => doneO_c nb3 0 nb7 25 cp4 ((((numK 8 pv 8) ++ numK 8 ep 8) ++ numK 1 (UInt64.ofNat k) 1) ++ numK 8 bl 8) w1 (RdA.of hw1 (AR 2 rfl (AN _)) (by simp)) rfl (show ((((numK 8 pv 8) ++ numK 8 ep 8) ++ numK 1 (UInt64.ofNat k) 1) ++ numK 8 bl 8).length = 25 from (by rw [List.length_append, (show (((numK 8 pv 8) ++ numK 8 ep 8) ++ numK 1 (UInt64.ofNat k) 1).length = 17 from (by rw [List.length_append, (show ((numK 8 pv 8) ++ numK 8 ep 8).length = 16 from (by rw [List.length_append, (show (numK 8 pv 8).length = 8 from (EA _ _ _)), EA] <;> omega)), EA] <;> omega)), EA] <;> omega)) (by omega) (RdB.of hw1 (AR 3 rfl (BE (AN _))) (by simp)))) rfl ?_
 rintro v1 L1 ⟨_, ⟨nb8, sp5, cp5, rfl, rfl, hc13, hc14, hc15⟩, rfl⟩
 show JL _ _ _ _ ((38, .tuple #[Slc nb8 0 25 cp5, .nilIface]) :: _) [_, _, _, _, ⟨nb8, cu8 ((((numK 8 pv 8) ++ numK 8 ep 8) ++ numK 1 (UInt64.ofNat k) 1) ++ numK 8 bl 8) ++ sp5, 5, (0, 0)⟩]
 refine AA _ (BS rfl rfl) rfl ?_
 refine AA _ (BS rfl rfl) rfl ?_
 refine AA _ (AE rfl) rfl ?_
 refine AA _ (AE rfl) rfl ?_
 refine AI (AC (BO (A3 (CA [false, false, false, false, true] ?_))))
 show JQ _ _ _ _ [_]
 refine BQ (.tuple #[Slc nb8 0 25 cp5, .nilIface]) (res2 Tryd.results114 (B2 rfl) (B2 rfl)) fun w1 hw1 => ?_
 have hq : (((numK 8 pv 8) ++ numK 8 ep 8) ++ numK 1 (UInt64.ofNat k) 1) ++ numK 8 bl 8 = tktT pv ep k l ls bl := by
  unfold tktT
  rw [if_pos hk]
 rw [hq] at hw1
 exact ⟨_, _, rfl, ⟨nb8, sp5, cp5, rfl, rfl, hc13, hc14, hc15⟩, hw1.sub (by simp) (by simp)⟩
theorem text12_c (pv ep : UInt64) (k : Nat) (ai : Option Addr) (ni ci : Nat) (l : List UInt64) (sa : Option Addr) (ns sc : Nat) (ls : List SealR) (bl : UInt64) (tg : List UInt8) (tot : Nat)  (w : World) (hl : l.length = ni) (hnm : ni ≤ 2000000) (hnc : ni ≤ ci) (hcm : ci ≤ maxLen) (hv : RdV w ai (cu64 l)) (hls : ls.length = ns) (hnn : ns ≤ 2000000) (hnd : ns ≤ sc) (hcn : sc ≤ maxLen) (hs : RdV w sa (ls.flatMap sealC)) (htg : tg.length = 16) (hmay : mayN pv ep (k:Int) l ls bl = 0) (hk : k = 1 ∨ k = 2) (hsm : ns ≤ 300) (htot : 18 + 4*ni + 56*ns = tot)  : Calls Tryd.prog 114 #[.agg ([U64 pv, U64 ep, I64 k, .slice ai ni ci, .slice sa ns sc, U64 bl] ++ cu8 tg).toArray] w (Post w [] (fun v L => ∃ g sp cap, v = .tuple #[Slc g 0 tot cap, .nilIface] ∧ L = [⟨g, cu8 (tktT pv ep k l ls bl) ++ sp, 5, (0, 0)⟩] ∧ sp.length = cap - tot ∧ tot ≤ cap ∧ cap ≤ maxLen)) := by
 have hmx : maxLen = 9223372036854775807 := rfl
 have hRO := mayN_right hmay
 have hRI := RightO_idx hRO (by omega)
 have hRp := RightI_pos hRI
 rw [hl] at hRp
 refine enter (P := Tryd.prog) (f := 114) (fn := Tryd.f114) w [] 75 [] [.agg ([U64 pv, U64 ep, I64 k, .slice ai ni ci, .slice sa ns sc, U64 bl] ++ cu8 tg).toArray] Tryd.func114 rfl rfl (by simp) (BR (by simp) (by simp) (by simp)) ?_
 show JC _ _ _ [(0, .agg ([U64 pv, U64 ep, I64 k, .slice ai ni ci, .slice sa ns sc, U64 bl] ++ cu8 tg).toArray)] _
 refine AF (AB (AV (CG (.agg ([U64 pv, U64 ep, I64 k, .slice ai ni ci, .slice sa ns sc, U64 bl] ++ cu8 tg).toArray) ([U64 pv, U64 ep, I64 k, .slice ai ni ci, .slice sa ns sc, U64 bl] ++ cu8 tg) rfl (by first | rfl | simp)) rfl ?_))
 rintro v1 L1 ⟨nb1, hnb1, rfl, rfl⟩
 show JL _ _ _ _ ((1, Ptr nb1 0) :: _) [⟨nb1, [U64 pv, U64 ep, I64 k, .slice ai ni ci, .slice sa ns sc, U64 bl] ++ cu8 tg, 29, (0, 0)⟩]
 refine AA _ (AE rfl) rfl ?_
 refine AA _ (AE rfl) rfl ?_
 refine AI (AC (AF (AF (AB (AA (.agg ([U64 pv, U64 ep, I64 k, .slice ai ni ci, .slice sa ns sc, U64 bl] ++ cu8 tg).toArray) (AL rfl (BH Tryd.isAgg29 E3 (by simp [htg]) (AR 0 rfl (AN _)))) rfl ?_)))))
 refine A0 (AY 128 [.agg ([U64 pv, U64 ep, I64 k, .slice ai ni ci, .slice sa ns sc, U64 bl] ++ cu8 tg).toArray] (errV 50 (mayN pv ep ((k:Int)) l ls bl)) (A4 _ Tryd.call128 rfl) (fun w1 hw1 => may13_c pv ep ((k:Int)) ai ni ci l sa ns sc ls bl tg w1 hl (by omega) (by omega) (by omega) (FT hw1 rfl hv) hls (by omega) (by omega) (by omega) (FT hw1 rfl hs) htg)) rfl ?_
 show JL _ _ _ _ ((12, errV 50 (mayN pv ep ((k:Int)) l ls bl)) :: _) [_]
 refine AA _ (AE rfl) rfl ?_
 refine AI (AC (AF (AB (AA _ (AG rfl) rfl ?_))))
 refine AA (.bool (!(decide (mayN pv ep ((k:Int)) l ls bl = 0)))) (FQ _ _ _ rfl rfl (fun _ => GC ..) fun _ => neq_errV DU _ _) rfl ?_
 refine AI (AC (DV _ rfl (by rw [show (decide (mayN pv ep ((k:Int)) l ls bl = 0)) = true from (decide_eq_true hmay)] <;> rfl) ?_))
 refine BJ (AC (AF (AB (AA (Ptr nb1 2) (AH 2 26 4 BN rfl B7 rfl rfl) rfl ?_))))
 refine AA (.agg #[I64 k, .slice ai ni ci, .slice sa ns sc, U64 bl]) (AL rfl (BH EQ B7 rfl (AR 0 rfl (Seg.split (p := [U64 pv, U64 ep]) (q := cu8 tg) (vs := [I64 k, .slice ai ni ci, .slice sa ns sc, U64 bl]) (by first | rfl | (simp only [List.append_assoc, List.nil_append, List.append_nil, List.cons_append]; done)) rfl)))) rfl ?_
 refine AV (A7 _ ([I64 0, .slice none 0 0, .slice none 0 0, U64 0]) EN (by kernel_rfl)) rfl ?_
 rintro v1 L1 ⟨nb2, hnb2, rfl, rfl⟩
 show JL _ _ _ _ ((5, Ptr nb2 0) :: _) [_, ⟨nb2, [I64 0, .slice none 0 0, .slice none 0 0, U64 0], 26, (0, 0)⟩]
 refine A0 (AX 1 nb2 4 ([I64 0, .slice none 0 0, .slice none 0 0, U64 0]) 26 ([I64 k, .slice ai ni ci, .slice sa ns sc, U64 bl]) rfl rfl rfl B7 rfl (by simp [Value.oneCell']) (Nat.le_of_ble_eq_true rfl) (A6 (by simp []))) rfl ?_
 show JL _ _ _ _ _ [_, ⟨nb2, [I64 k, .slice ai ni ci, .slice sa ns sc, U64 bl], 26, (0, 0)⟩]
 refine AI (AC (AF (AB (AA (.agg #[.nilIface, .slice none 0 0]) (DG [] _ rfl (fun _ => by kernel_rfl)) rfl ?_))))
 refine AV (CG (.agg #[.nilIface, .slice none 0 0]) ([.nilIface, .slice none 0 0]) rfl (by first | rfl | simp)) rfl ?_
 rintro v1 L1 ⟨nb3, hnb3, rfl, rfl⟩
 show JL _ _ _ _ ((19, Ptr nb3 0) :: _) [_, _, ⟨nb3, [.nilIface, .slice none 0 0], 149, (0, 0)⟩]
 refine AA _ (AE rfl) rfl ?_
 refine AI (AC (AF (CT 75 4 [(0, Ptr nb3 0), (1, Ptr nb1 0), (2, U64 pv), (4, Ptr nb1 1), (5, U64 ep), (7, Ptr nb2 0), (8, I64 k), (9, U64 (UInt64.ofNat k))] BL rfl (by decide +kernel) ?_)))
 refine CU ⟨[], [0, 1, 2, 4, 5, 7, 8, 9], [], [0, 1, 2, 4, 5, 7, 8, 9], [3]⟩ 3 _ rfl rfl (by decide +kernel) rfl ⟨AU rfl rfl rfl, ⟨_, rfl, AD rfl (AH 0 22 1 BN rfl BC rfl rfl)⟩, ⟨_, rfl, AD rfl (AL rfl (AZ BG (AR 0 rfl (BE (Seg.head)))))⟩, ⟨_, rfl, AD rfl (AH 1 22 1 BN rfl BC rfl rfl)⟩, ⟨_, rfl, AD rfl (AL rfl (AZ BG (AR 0 rfl (BE (AS (Seg.head))))))⟩, ⟨_, rfl, AD rfl (AH 0 3 1 A2 rfl DR rfl rfl)⟩, ⟨_, rfl, AD rfl (AL rfl (AZ DC (AR 1 rfl (Seg.head))))⟩, ⟨_, rfl, AD rfl (EG _ _ rfl fun _ => E5 (by rw [D2]; rfl) B8 k _ (by omega))⟩, trivial⟩ rfl (AW rfl (FH 81 _ [false, false, true] [nb3] _ (A4 [Ptr nb3 0, U64 pv, I64 8] Tryd.call81 rfl) rfl (fun w1 hw1 => numN_c nb3 8 .nilIface pv 8 w1 (hw1.ent _ (List.mem_of_getElem? (i := 2) rfl)) (by unfold Szd; omega) (fun h => absurd h (by omega)) (by omega)))) ?_
 rintro v1 L1 ⟨_, ⟨rfl, nb4, sp1, cp1, rfl, hc1, hc2, hc3⟩, rfl⟩
 refine ⟨[], ?_⟩
 show DP _ _ _ _ _ _ _ _ [_, _, ⟨nb3, [.nilIface, Slc nb4 0 8 cp1], 149, (0, 0)⟩, ⟨nb4, cu8 (numK 8 pv 8) ++ sp1, 5, (0, 0)⟩]
 refine CU ⟨[3], [0, 1, 2, 4, 5, 7, 8, 9], [0, 1, 2], [4, 5, 7, 8, 9], [6]⟩ 6 _ rfl rfl (by decide +kernel) rfl ⟨⟨_, rfl, AD rfl (AH 1 22 1 BN rfl BC rfl rfl)⟩, ⟨_, rfl, AD rfl (AL rfl (AZ BG (AR 0 rfl (BE (AS (Seg.head))))))⟩, ⟨_, rfl, AD rfl (AH 0 3 1 A2 rfl DR rfl rfl)⟩, ⟨_, rfl, AD rfl (AL rfl (AZ DC (AR 1 rfl (Seg.head))))⟩, ⟨_, rfl, AD rfl (EG _ _ rfl fun _ => E5 (by rw [D2]; rfl) B8 k _ (by omega))⟩, trivial⟩ rfl (AW rfl (FH 81 _ [false, false, true, true] [nb3, nb4] _ (A4 [Ptr nb3 0, U64 ep, I64 8] Tryd.call81 rfl) rfl (fun w1 hw1 => numO_c nb3 nb4 8 cp1 16 .nilIface (numK 8 pv 8) sp1 ep 8 w1 (hw1.ent _ (List.mem_of_getElem? (i := 2) rfl)) (hw1.ent _ (List.mem_of_getElem? (i := 3) rfl)) (hw1.ne (i := 2) (j := 3) rfl rfl (by decide)) (show (numK 8 pv 8).length = 8 from (EA _ _ _)) hc1 hc2 hc3 (by omega) (by unfold Szd; omega) (fun h => absurd h (by omega)) (by omega)))) ?_
 rintro v1 L1 ⟨_, ⟨rfl, nb5, sp2, cp2, rfl, hc4, hc5, hc6⟩, rfl⟩
 refine ⟨[], ?_⟩
 show DP _ _ _ _ _ _ _ _ [_, _, ⟨nb3, [.nilIface, Slc nb5 0 16 cp2], 149, (0, 0)⟩, ⟨nb5, cu8 ((numK 8 pv 8) ++ numK 8 ep 8) ++ sp2, 5, (0, 0)⟩]
 refine CU ⟨[3, 6], [0, 1, 2, 4, 5, 7, 8, 9], [0, 1, 2, 4, 5], [7, 8, 9], [10]⟩ 10 _ rfl rfl (by decide +kernel) rfl ⟨⟨_, rfl, AD rfl (AH 0 3 1 A2 rfl DR rfl rfl)⟩, ⟨_, rfl, AD rfl (AL rfl (AZ DC (AR 1 rfl (Seg.head))))⟩, ⟨_, rfl, AD rfl (EG _ _ rfl fun _ => E5 (by rw [D2]; rfl) B8 k _ (by omega))⟩, trivial⟩ rfl (AW rfl (FH 81 _ [false, false, true, true] [nb3, nb5] _ (A4 [Ptr nb3 0, U64 (UInt64.ofNat k), I64 1] Tryd.call81 rfl) rfl (fun w1 hw1 => numO_c nb3 nb5 16 cp2 17 .nilIface ((numK 8 pv 8) ++ numK 8 ep 8) sp2 (UInt64.ofNat k) 1 w1 (hw1.ent _ (List.mem_of_getElem? (i := 2) rfl)) (hw1.ent _ (List.mem_of_getElem? (i := 3) rfl)) (hw1.ne (i := 2) (j := 3) rfl rfl (by decide)) (show ((numK 8 pv 8) ++ numK 8 ep 8).length = 16 from (by rw [List.length_append, (show (numK 8 pv 8).length = 8 from (EA _ _ _)), EA] <;> omega)) hc4 hc5 hc6 (by omega) (by unfold Szd; omega) (fun _ => shr8n (by omega)) (by omega)))) ?_
 rintro v1 L1 ⟨_, ⟨rfl, nb6, sp3, cp3, rfl, hc7, hc8, hc9⟩, rfl⟩
 refine ⟨[], ?_⟩
 show DP _ _ _ _ _ _ _ _ [_, _, ⟨nb3, [.nilIface, Slc nb6 0 17 cp3], 149, (0, 0)⟩, ⟨nb6, cu8 (((numK 8 pv 8) ++ numK 8 ep 8) ++ numK 1 (UInt64.ofNat k) 1) ++ sp3, 5, (0, 0)⟩]
 refine DE ⟨[3, 6, 10], [0, 1, 2, 4, 5, 7, 8, 9], [0, 1, 2, 4, 5, 7, 8, 9], [], []⟩ rfl rfl (by decide +kernel) rfl trivial ?_
 refine CC (F' := [(2, .slice none 0 0), (3, .nilIface), (5, Ptr nb2 0), (6, Ptr nb3 0)]) (by kernel_rfl) ?_
 refine AC (AF (AF (AB (AA (Ptr nb2 0) (AH 0 3 1 A2 rfl DR rfl rfl) rfl ?_))))
 refine AA (I64 k) (AL rfl (AZ DC (AR 1 rfl (Seg.head)))) rfl ?_
 refine AA (.bool (decide (((k:Int)) = (3:Int)))) (AJ rfl rfl fun _ => D6 _ _) rfl ?_
 refine AI (AC (DV _ rfl (decide_eq_false (by omega)) ?_))
 refine BJ (AC (AF (AB (AA _ (AG rfl) rfl ?_))))
 refine AA (Ptr nb2 1) (AH 1 23 1 A2 rfl CV rfl rfl) rfl ?_
 refine AA (.slice ai ni ci) (AL rfl (AZ DB (AR 1 rfl (AS (Seg.head))))) rfl ?_
 refine AA (I64 ni) (DW BI rfl) rfl ?_
 refine AA (I64 ((ni:Int) - 1)) (AJ rfl rfl fun _ => C5 _ _ ((ni:Int) - 1) (by omega) (by omega)) rfl ?_
 refine AA (U64 (UInt64.ofNat (ni - 1))) (EG _ _ rfl fun _ => E5 (by rw [D2]; rfl) B8 (ni - 1) _ (by omega)) rfl ?_
 refine AV (FH 81 _ [false, false, true, true] [nb3, nb6] _ (A4 [Ptr nb3 0, U64 (UInt64.ofNat (ni - 1)), I64 1] Tryd.call81 rfl) rfl (fun w1 hw1 => numO_c nb3 nb6 17 cp3 18 .nilIface (((numK 8 pv 8) ++ numK 8 ep 8) ++ numK 1 (UInt64.ofNat k) 1) sp3 (UInt64.ofNat (ni - 1)) 1 w1 (hw1.ent _ (List.mem_of_getElem? (i := 2) rfl)) (hw1.ent _ (List.mem_of_getElem? (i := 3) rfl)) (hw1.ne (i := 2) (j := 3) rfl rfl (by decide)) (show (((numK 8 pv 8) ++ numK 8 ep 8) ++ numK 1 (UInt64.ofNat k) 1).length = 17 from (by rw [List.length_append, (show ((numK 8 pv 8) ++ numK 8 ep 8).length = 16 from (by rw [List.length_append, (show (numK 8 pv 8).length = 8 from (EA _ _ _)), EA] <;> omega)), EA] <;> omega)) hc7 hc8 hc9 (by omega) (by unfold Szd; omega) (fun _ => shr8n (by omega)) (by omega))) rfl ?_
 rintro v1 L1 ⟨_, ⟨rfl, nb7, sp4, cp4, rfl, hc10, hc11, hc12⟩, rfl⟩
 show JL _ _ _ _ ((47, Ptr nb3 0) :: _) [_, _, ⟨nb3, [.nilIface, Slc nb7 0 18 cp4], 149, (0, 0)⟩, ⟨nb7, cu8 ((((numK 8 pv 8) ++ numK 8 ep 8) ++ numK 1 (UInt64.ofNat k) 1) ++ numK 1 (UInt64.ofNat (ni - 1)) 1) ++ sp4, 5, (0, 0)⟩]
 refine AI (AC (AF (AF (AB (AA (Ptr nb2 1) (AH 1 23 1 A2 rfl CV rfl rfl) rfl ?_)))))
 refine AA (.slice ai ni ci) (AL rfl (AZ DB (AR 1 rfl (AS (Seg.head))))) rfl ?_
 refine AA (I64 ni) (DW BI rfl) rfl ?_
 refine AA _ (AG rfl) rfl ?_
 refine AI (AC (A9 ?_))
 skip
 refine CA [false, true, true, true] ?_
 show JC _ _ _ _ [_, _, _]
 refine DI (ι := Nat × List UInt8 × Nat × List Value × Nat) (fun ⟨i, oqi, gqi, spqi, cpqi⟩ => [(2, .slice none 0 0), (3, .nilIface), (5, Ptr nb2 0), (6, Ptr nb3 0), (49, .slice ai ni ci), (50, I64 ni), (51, I64 i)]) (fun ⟨i, oqi, gqi, spqi, cpqi⟩ => [⟨nb2, [I64 k, .slice ai ni ci, .slice sa ns sc, U64 bl], 26, (0, 0)⟩, ⟨nb3, [.nilIface, Slc gqi 0 (4*i + 18) cpqi], 149, (0, 0)⟩, ⟨gqi, cu8 oqi ++ spqi, 5, (0, 0)⟩]) (fun ⟨i, oqi, gqi, spqi, cpqi⟩ => i ≤ ni ∧ oqi = (((numK 8 pv 8 ++ numK 8 ep 8) ++ numK 1 (UInt64.ofNat k) 1) ++ numK 1 (UInt64.ofNat (ni - 1)) 1) ++ idxT l i ∧ oqi.length = (4*i + 18) ∧ spqi.length = cpqi - ((4*i + 18)) ∧ (4*i + 18) ≤ cpqi ∧ cpqi ≤ maxLen) (fun ⟨i, oqi, gqi, spqi, cpqi⟩ => ni - i) (0, (((numK 8 pv 8) ++ numK 8 ep 8) ++ numK 1 (UInt64.ofNat k) 1) ++ numK 1 (UInt64.ofNat (ni - 1)) 1, nb7, sp4, cp4) ⟨by omega, by rw [idxT_zero, List.append_nil], (by have h := (show ((((numK 8 pv 8) ++ numK 8 ep 8) ++ numK 1 (UInt64.ofNat k) 1) ++ numK 1 (UInt64.ofNat (ni - 1)) 1).length = 18 from (by rw [List.length_append, (show (((numK 8 pv 8) ++ numK 8 ep 8) ++ numK 1 (UInt64.ofNat k) 1).length = 17 from (by rw [List.length_append, (show ((numK 8 pv 8) ++ numK 8 ep 8).length = 16 from (by rw [List.length_append, (show (numK 8 pv 8).length = 8 from (EA _ _ _)), EA] <;> omega)), EA] <;> omega)), EA] <;> omega)); omega), (by have h := hc10; omega), by omega, by omega⟩ (Sub.all rfl) (by first | rfl | (simp; done)) ?_
 rintro ⟨i, oqi, gqi, spqi, cpqi⟩ ⟨hi1, hi2, hi3, hi4, hi5, hi6⟩
 show JC _ _ _ [(2, .slice none 0 0), (3, .nilIface), (5, Ptr nb2 0), (6, Ptr nb3 0), (49, .slice ai ni ci), (50, I64 ni), (51, I64 i)] [⟨nb2, [I64 k, .slice ai ni ci, .slice sa ns sc, U64 bl], 26, (0, 0)⟩, ⟨nb3, [.nilIface, Slc gqi 0 (4*i + 18) cpqi], 149, (0, 0)⟩, ⟨gqi, cu8 oqi ++ spqi, 5, (0, 0)⟩]
 refine AF (AB (AA (.bool (decide (((i:Int)) < ((ni:Int))))) (AJ rfl rfl fun _ => B9 _ _) rfl ?_))
 refine AI (AC (AF (B5 (decide (((i:Int)) < ((ni:Int)))) rfl (fun hb1 => ?_) (fun hb1 => ?_))))
 ·
  have hp1 : ((i:Int)) < ((ni:Int)) := of_decide_eq_true hb1
  refine BJ (AC (AF (A9 (AF (AB ?_)))))
  obtain ⟨bz1, oz1, hz1, hm1⟩ := RdV.pos hv (by rw [FO, hl]; omega)
  refine AA (Ptr bz1 (i + oz1)) (CL 22 1 (i + oz1) BI BC rfl hz1 rfl (by omega) (by omega) (by omega)) rfl ?_
  refine AA (U64 (g64 l i)) (AL rfl (AZ BG (BW (hm1.mem (by simp)) (Seg.get (F9 (i := i) (by rw [hl]; omega))) (by omega)))) rfl ?_
  refine AA _ (AE rfl) rfl ?_
  refine AI (AC (AB (AA _ (AG rfl) rfl ?_)))
  refine AA _ (AG rfl) rfl ?_
  refine AV (FH 81 _ [false, true, true] [nb3, gqi] _ (A4 [Ptr nb3 0, U64 (g64 l i), I64 4] Tryd.call81 rfl) rfl (fun w1 hw1 => numO_c nb3 gqi (4*i + 18) cpqi (4*i + 22) .nilIface oqi spqi (g64 l i) 4 w1 (hw1.ent _ (List.mem_of_getElem? (i := 1) rfl)) (hw1.ent _ (List.mem_of_getElem? (i := 2) rfl)) (hw1.ne (i := 1) (j := 2) rfl rfl (by decide)) hi3 hi4 hi5 hi6 (by omega) (by unfold Szd; omega) (fun _ => idx_fit hRI (by omega)) (by omega))) rfl ?_
  rintro v1 L1 ⟨_, ⟨rfl, nb8, sp5, cp5, rfl, hc13, hc14, hc15⟩, rfl⟩
  show JL _ _ _ _ ((57, Ptr nb3 0) :: _) [_, ⟨nb3, [.nilIface, Slc nb8 0 (4*i + 22) cp5], 149, (0, 0)⟩, ⟨nb8, cu8 (oqi ++ numK 4 (g64 l i) 4) ++ sp5, 5, (0, 0)⟩]
  refine AI (A5 (AC (AB (AA (I64 ((i:Int) + 1)) (AJ rfl rfl fun _ => BP _ _ ((i:Int) + 1) (by omega) (by omega)) rfl ?_))))
  refine AA _ (AG rfl) rfl ?_
  refine AI (B6 (DN (i + 1, oqi ++ numK 4 (g64 l i) 4, nb8, sp5, cp5) ⟨by omega, by rw [hi2, idxT_succ, List.append_assoc], (by have h := (show (oqi ++ numK 4 (g64 l i) 4).length = (4*i + 22) from (by rw [List.length_append, hi3, EA] <;> omega)); omega), (by have h := hc13; omega), by omega, by omega⟩ (by first | (simp; omega) | simp | (dsimp only; omega) | omega) (Sub.all rfl) (by first | rfl | rw [show (4*i + 22) = (4*(i + 1) + 18) by omega])))
 ·
  have hp1 : ¬ (((i:Int)) < ((ni:Int))) := of_decide_eq_false hb1
  refine DA (AQ (AQ (BV (AC (AF (AF (AB (AA (Ptr nb2 2) (AH 2 24 1 A2 rfl DS rfl rfl) rfl ?_))))))))
  refine AA (.slice sa ns sc) (AL rfl (AZ ER (AR 0 rfl (AS (AS (Seg.head)))))) rfl ?_
  refine AA (I64 ns) (DW CQ rfl) rfl ?_
  refine AA _ (AG rfl) rfl ?_
  refine AI (AC (A9 ?_))
  have ei : ni = i := by omega
  subst ei
  show JC _ _ _ _ [⟨nb2, [I64 k, .slice ai ni ci, .slice sa ns sc, U64 bl], 26, (0, 0)⟩, ⟨nb3, [.nilIface, Slc gqi 0 (4*ni + 18) cpqi], 149, (0, 0)⟩, ⟨gqi, cu8 oqi ++ spqi, 5, (0, 0)⟩]
  refine CA [false, true, true] ?_
  show JC _ _ _ _ [_, _]
  refine DI (ι := Nat × List UInt8 × Nat × List Value × Nat) (fun ⟨j, oqj, gqj, spqj, cpqj⟩ => [(2, .slice none 0 0), (3, .nilIface), (6, Ptr nb3 0), (60, .slice sa ns sc), (61, I64 ns), (62, I64 j)]) (fun ⟨j, oqj, gqj, spqj, cpqj⟩ => [⟨nb3, [.nilIface, Slc gqj 0 (56*j + 4*ni + 18) cpqj], 149, (0, 0)⟩, ⟨gqj, cu8 oqj ++ spqj, 5, (0, 0)⟩]) (fun ⟨j, oqj, gqj, spqj, cpqj⟩ => j ≤ ns ∧ oqj = ((((numK 8 pv 8 ++ numK 8 ep 8) ++ numK 1 (UInt64.ofNat k) 1) ++ numK 1 (UInt64.ofNat (ni - 1)) 1) ++ idxT l ni) ++ selT (ls.take j) ∧ oqj.length = (56*j + 4*ni + 18) ∧ spqj.length = cpqj - ((56*j + 4*ni + 18)) ∧ (56*j + 4*ni + 18) ≤ cpqj ∧ cpqj ≤ maxLen) (fun ⟨j, oqj, gqj, spqj, cpqj⟩ => ns - j) (0, oqi, gqi, spqi, cpqi) ⟨by omega, by rw [hi2]; simp [selT_nil], (by have h := hi3; omega), (by have h := hi4; omega), by omega, by omega⟩ (Sub.all rfl) (by first | rfl | (simp; done)) ?_
  rintro ⟨j, oqj, gqj, spqj, cpqj⟩ ⟨hj1, hj2, hj3, hj4, hj5, hj6⟩
  show JC _ _ _ [(2, .slice none 0 0), (3, .nilIface), (6, Ptr nb3 0), (60, .slice sa ns sc), (61, I64 ns), (62, I64 j)] [⟨nb3, [.nilIface, Slc gqj 0 (56*j + 4*ni + 18) cpqj], 149, (0, 0)⟩, ⟨gqj, cu8 oqj ++ spqj, 5, (0, 0)⟩]
  refine AF (AB (AA (.bool (decide (((j:Int)) < ((ns:Int))))) (AJ rfl rfl fun _ => B9 _ _) rfl ?_))
  refine AI (AC (AF (B5 (decide (((j:Int)) < ((ns:Int)))) rfl (fun hb2 => ?_) (fun hb2 => ?_))))
  ·
   have hp2 : ((j:Int)) < ((ns:Int)) := of_decide_eq_true hb2
   refine BJ (AC (AF (A9 (AF (AB ?_)))))
   obtain ⟨x1, hx1⟩ : ∃ x, ls[j]? = some x := ⟨_, List.getElem?_eq_getElem (by rw [hls]; omega)⟩
   obtain ⟨bz2, oz2, hz2, hm2⟩ := rows_at F5 (by decide) hs hx1
   refine AA (Ptr bz2 (49*j + oz2)) (CL 161 49 (49*j + oz2) CQ CE rfl hz2 rfl (by omega) (by omega) (by omega)) rfl ?_
   refine AA (.agg ([U64 x1.e] ++ cu8 x1.d ++ cu8 x1.t).toArray) (AL rfl (BH EY CE (by simp [x1.hd, x1.ht]) (BW (hm2.mem (by simp)) (AN _) (by omega)))) rfl ?_
   refine AV (A7 _ ([U64 0] ++ cu8 (zr8 32) ++ cu8 (zr8 16)) D9 (by kernel_rfl)) rfl ?_
   rintro v1 L1 ⟨nb9, hnb9, rfl, rfl⟩
   show JL _ _ _ _ ((10, Ptr nb9 0) :: _) [_, _, ⟨nb9, [U64 0] ++ cu8 (zr8 32) ++ cu8 (zr8 16), 161, (0, 0)⟩]
   refine A0 (AX 2 nb9 49 ([U64 0] ++ cu8 (zr8 32) ++ cu8 (zr8 16)) 161 ([U64 x1.e] ++ cu8 x1.d ++ cu8 x1.t) rfl rfl rfl CE (by simp [x1.hd, x1.ht]) (EO (EO (by simp [Value.oneCell']) CD) CD) (by simp [(AP 32), (AP 16)]) (A6 (by simp [(AP 32), (AP 16), x1.hd, x1.ht]))) rfl ?_
   show JL _ _ _ _ _ [_, _, ⟨nb9, [U64 x1.e] ++ cu8 x1.d ++ cu8 x1.t, 161, (0, 0)⟩]
   refine AI (AC (AB (AA _ (AG rfl) rfl ?_)))
   refine AA (.agg ([U64 x1.e] ++ cu8 x1.d ++ cu8 x1.t).toArray) (AL rfl (BH EY CE (by simp [x1.hd, x1.ht]) (AR 2 rfl (AN _)))) rfl ?_
   refine AV (CH 97 [.agg ([U64 x1.e] ++ cu8 x1.d ++ cu8 x1.t).toArray] _ (A4 _ Tryd.call97 rfl) (fun w1 hw1 => put7_c x1.e x1.d x1.t w1 x1.hd x1.ht)) rfl ?_
   rintro v1 L1 ⟨_, ⟨nb10, sp6, cp6, rfl, rfl, hc16, hc17, hc18⟩, rfl⟩
   show JL _ _ _ _ ((68, Slc nb10 0 56 cp6) :: _) [_, _, _, ⟨nb10, cu8 (putL x1.e x1.d x1.t) ++ sp6, 5, (0, 0)⟩]
   refine AV (FH 82 _ [true, true, false, false] [nb3, gqj] _ (A4 [Ptr nb3 0, Slc nb10 0 56 cp6] Tryd.call82 rfl) rfl (fun w1 hw1 => rawO_c nb3 gqj (56*j + 4*ni + 18) cpqj (56*j + 4*ni + 74) .nilIface oqj spqj (some ⟨nb10, 0, none⟩) 56 cp6 (putL x1.e x1.d x1.t) w1 (hw1.ent _ (List.mem_of_getElem? (i := 0) rfl)) (hw1.ent _ (List.mem_of_getElem? (i := 1) rfl)) (hw1.ne (i := 0) (j := 1) rfl rfl (by decide)) hj3 hj4 hj5 hj6 (by omega) (show (putL x1.e x1.d x1.t).length = 56 from (putL_len x1.hd x1.ht)) (by omega) (RdB.of hw1 (AR 3 rfl (BE (AN _))) (by intro _; simp only [List.mem_cons, List.not_mem_nil, or_false, not_or]; exact ⟨hw1.ne (i := 3) (j := 0) rfl rfl (by decide), hw1.ne (i := 3) (j := 1) rfl rfl (by decide)⟩)) (by omega))) rfl ?_
   rintro v1 L1 ⟨_, ⟨rfl, nb11, sp7, cp7, rfl, hc19, hc20, hc21⟩, rfl⟩
   show JL _ _ _ _ ((69, Ptr nb3 0) :: _) [_, _, ⟨nb3, [.nilIface, Slc nb11 0 (56*j + 4*ni + 74) cp7], 149, (0, 0)⟩, ⟨nb11, cu8 (oqj ++ (putL x1.e x1.d x1.t)) ++ sp7, 5, (0, 0)⟩]
   refine AI (A5 (AC (AB (AA (I64 ((j:Int) + 1)) (AJ rfl rfl fun _ => BP _ _ ((j:Int) + 1) (by omega) (by omega)) rfl ?_))))
   refine AA _ (AG rfl) rfl ?_
   refine AI (B6 (CA [false, false, true, true] ?_))
   show K _ _ [_, _] _
   refine DN (j + 1, oqj ++ (putL x1.e x1.d x1.t), nb11, sp7, cp7) ⟨by omega, by rw [hj2, ← take_step hx1, selT_app, List.append_assoc], (by have h := (show (oqj ++ (putL x1.e x1.d x1.t)).length = (56*j + 4*ni + 74) from (by rw [List.length_append, hj3, (show (putL x1.e x1.d x1.t).length = 56 from (putL_len x1.hd x1.ht))] <;> omega)); omega), (by have h := hc19; omega), by omega, by omega⟩ (by first | (simp; omega) | simp | (dsimp only; omega) | omega) (Sub.all rfl) (by first | rfl | rw [show (56*j + 4*ni + 74) = (56*(j + 1) + 4*ni + 18) by omega])
  ·
   have hp2 : ¬ (((j:Int)) < ((ns:Int))) := of_decide_eq_false hb2
   refine DA (AQ (AQ (BV (AC (AF (AB (AA _ (AG rfl) rfl ?_)))))))
   refine AV (CH 83 [Ptr nb3 0] _ (A4 _ Tryd.call83 rfl) (fun w1 hw1 => doneO_c nb3 0 gqj (56*j + 4*ni + 18) cpqj oqj w1 (RdA.of hw1 (AR 0 rfl (AN _)) (by simp)) rfl hj3 (by omega) (RdB.of hw1 (AR 1 rfl (BE (AN _))) (by simp)))) rfl ?_
   rintro v1 L1 ⟨_, ⟨nb12, sp8, cp8, rfl, rfl, hc22, hc23, hc24⟩, rfl⟩
   show JL _ _ _ _ ((72, .tuple #[Slc nb12 0 (56*j + 4*ni + 18) cp8, .nilIface]) :: _) [_, _, ⟨nb12, cu8 oqj ++ sp8, 5, (0, 0)⟩]
   refine AA _ (BS rfl rfl) rfl ?_
   refine AA _ (BS rfl rfl) rfl ?_
   refine AA _ (AE rfl) rfl ?_
   refine AA _ (AE rfl) rfl ?_
   refine AI (AC (BO (CA [false, false, true] ?_)))
   show JQ _ _ _ _ [_]
   refine BQ (.tuple #[Slc nb12 0 (56*j + 4*ni + 18) cp8, .nilIface]) (res2 Tryd.results114 (B2 rfl) (B2 rfl)) fun w1 hw1 => ?_
   obtain rfl : j = ns := by omega
   have hq : oqj = tktT pv ep k l ls bl := by
    unfold tktT
    rw [if_neg (by omega), hl, hj2, List.take_of_length_le (by omega)]
   rw [hq] at hw1
   obtain rfl : tot = (56*j + 4*ni + 18) := by omega
   exact ⟨_, _, rfl, ⟨nb12, sp8, cp8, rfl, rfl, hc22, hc23, hc24⟩, hw1.sub (by simp) (by simp)⟩
attribute [local irreducible] blkL xbN raN macL rkeysL rencL encL rkL thereL backL nextL rnextL strT xorN eBlk rBlk encK tgK placeT turnP tagP sealN sE sD sT
theorem setOf_c (k : List UInt8) (w : World) (hk : k.length = 16) (hG : GLs w) : Calls Tryd.prog 140 #[.agg (cu8 k).toArray] w (Post w [] (fun v L => v = .agg (cu8 (encK k) ++ cu8 (tgK k) ++ cu8 (macL k ([101, 110, 116, 114, 117, 115, 116, 32, 116, 105, 99, 107, 101, 116] : List UInt8)) ++ cu8 (macL k ([101, 110, 116, 114, 117, 115, 116, 32, 108, 105, 110, 107] : List UInt8))).toArray ∧ L = [])) := by
 unfold encK tgK
 exact keysOf_c k w hk hG
theorem bld226_01 {w : World} {c0 : List Value} {v1 : Value} (h0 : c0.length = 112) (h1 : v1.cells = [v1].toArray) : (Instr.build 226 ([(0, .agg c0.toArray), (1, v1)] : List (Nat × Value)).toArray).run Tryd.prog w = .ok (.agg (c0 ++ ([v1] : List Value)).toArray) w :=
 EH (places := #[(0, 112), (112, 1)]) (Z := ((cu8 (zr8 16) ++ cu8 (zr8 32) ++ cu8 (zr8 32) ++ cu8 (zr8 32) : List Value) ++ (([.pointer none] : List Value) ++ []))) (fun _ => by kernel_rfl) Tryd.underlying226 (fun _ => by kernel_rfl) ((F1 (cu8 (zr8 16) ++ cu8 (zr8 32) ++ cu8 (zr8 32) ++ cu8 (zr8 32) : List Value) (([.pointer none] : List Value) ++ []) c0 rfl (by simp [AP, h0]) (by simp [h0, AP])).trans ((EW c0 ([.pointer none] : List Value) [] ([v1] : List Value) h1 (by simp [AP, h0]) rfl).trans (by simp [Instr.fill])))
theorem snew_c (k : List UInt8) (w : World) (hk : k.length = 16) (hG : GLs w)  : Calls Tryd.prog 76 #[.agg (cu8 k).toArray] w (Post w [] (fun v L => ∃ sb cb, v = Ptr sb 0 ∧ L = [⟨cb, cu8 (rkL (encK k)) ++ cu8 thereL ++ cu8 backL, 255, (0, 0)⟩, ⟨sb, cu8 (encK k) ++ cu8 (tgK k) ++ cu8 (macL k ([101, 110, 116, 114, 117, 115, 116, 32, 116, 105, 99, 107, 101, 116] : List UInt8)) ++ cu8 (macL k ([101, 110, 116, 114, 117, 115, 116, 32, 108, 105, 110, 107] : List UInt8)) ++ [Ptr cb 0], 226, (0, 0)⟩])) := by
 refine enter w [] 12 [] [.agg (cu8 k).toArray] Tryd.func76 rfl rfl (by simp) (BR (by simp) (by simp) (by simp)) ?_
 show JC _ _ _ [(0, .agg (cu8 k).toArray)] _
 refine AF (AB (AV (CG (.agg (cu8 k).toArray) (cu8 k) rfl (by first | rfl | simp)) rfl ?_))
 rintro v1 L1 ⟨nb1, hnb1, rfl, rfl⟩
 show JL _ _ _ _ ((1, Ptr nb1 0) :: _) [⟨nb1, cu8 k, 131, (0, 0)⟩]
 refine AA _ (AE rfl) rfl ?_
 refine AI (AC (AF (AB (AA (.agg (cu8 k).toArray) (AL rfl (BH C7 CO (A8 hk) (AR 0 rfl (AN _)))) rfl ?_))))
 refine A0 (AY 140 [.agg (cu8 k).toArray] (.agg (cu8 (encK k) ++ cu8 (tgK k) ++ cu8 (macL k ([101, 110, 116, 114, 117, 115, 116, 32, 116, 105, 99, 107, 101, 116] : List UInt8)) ++ cu8 (macL k ([101, 110, 116, 114, 117, 115, 116, 32, 108, 105, 110, 107] : List UInt8))).toArray) (A4 _ Tryd.call140 rfl) (fun w1 hw1 => setOf_c k w1 hk (hG.at hw1))) rfl ?_
 show JL _ _ _ _ ((5, .agg (cu8 (encK k) ++ cu8 (tgK k) ++ cu8 (macL k ([101, 110, 116, 114, 117, 115, 116, 32, 116, 105, 99, 107, 101, 116] : List UInt8)) ++ cu8 (macL k ([101, 110, 116, 114, 117, 115, 116, 32, 108, 105, 110, 107] : List UInt8))).toArray) :: _) [_]
 refine AV (A7 _ (cu8 (zr8 16) ++ cu8 (zr8 32) ++ cu8 (zr8 32) ++ cu8 (zr8 32)) Tryd.zeroValue221 (by kernel_rfl)) rfl ?_
 rintro v1 L1 ⟨nb2, hnb2, rfl, rfl⟩
 show JL _ _ _ _ ((3, Ptr nb2 0) :: _) [_, ⟨nb2, cu8 (zr8 16) ++ cu8 (zr8 32) ++ cu8 (zr8 32) ++ cu8 (zr8 32), 221, (0, 0)⟩]
 refine A0 (AX 1 nb2 112 (cu8 (zr8 16) ++ cu8 (zr8 32) ++ cu8 (zr8 32) ++ cu8 (zr8 32)) 221 (cu8 (encK k) ++ cu8 (tgK k) ++ cu8 (macL k ([101, 110, 116, 114, 117, 115, 116, 32, 116, 105, 99, 107, 101, 116] : List UInt8)) ++ cu8 (macL k ([101, 110, 116, 114, 117, 115, 116, 32, 108, 105, 110, 107] : List UInt8))) rfl rfl rfl Tryd.sizeOf221 (by simp [(GB _), (tgK_len _), (CB _ _), (CB _ _)]) (by simp only [← cu8_app]; exact CD) (by simp [(AP 16), (AP 32), (AP 32), (AP 32)]) (A6 (by simp [(AP 16), (AP 32), (AP 32), (AP 32), (GB _), (tgK_len _), (CB _ _), (CB _ _)]))) rfl ?_
 show JL _ _ _ _ _ [_, ⟨nb2, cu8 (encK k) ++ cu8 (tgK k) ++ cu8 (macL k ([101, 110, 116, 114, 117, 115, 116, 32, 116, 105, 99, 107, 101, 116] : List UInt8)) ++ cu8 (macL k ([101, 110, 116, 114, 117, 115, 116, 32, 108, 105, 110, 107] : List UInt8)), 221, (0, 0)⟩]
 refine AI (AC (AF (CT 12 3 [(0, .agg (cu8 (encK k) ++ cu8 (tgK k) ++ cu8 (macL k ([101, 110, 116, 114, 117, 115, 116, 32, 116, 105, 99, 107, 101, 116] : List UInt8)) ++ cu8 (macL k ([101, 110, 116, 114, 117, 115, 116, 32, 108, 105, 110, 107] : List UInt8))).toArray), (1, Ptr nb2 0), (2, .agg (cu8 (encK k)).toArray)] BL rfl (by decide +kernel) ?_)))
 refine CU ⟨[], [0, 1, 2], [], [0, 1, 2], [3]⟩ 3 _ rfl rfl (by decide +kernel) rfl ⟨⟨_, rfl, AD rfl (AL rfl (BH Tryd.isAgg221 Tryd.sizeOf221 (by simp [(GB _), (tgK_len _), (CB _ _), (CB _ _)]) (AR 1 rfl (AN _))))⟩, ⟨_, rfl, AD rfl (AH 0 131 16 Tryd.underlying221 rfl CO rfl rfl)⟩, ⟨_, rfl, AD rfl (AL rfl (BH C7 CO (A8 (GB _)) (AR 1 rfl (BE (BE (BE (AN _)))))))⟩, trivial⟩ rfl (AW rfl (CH 141 [.agg (cu8 (encK k)).toArray] _ (A4 _ Tryd.call141 rfl) (fun w1 hw1 => new_c (encK k) w1 (GB _)))) ?_
 rintro v1 L1 ⟨_, ⟨nb3, rfl, rfl⟩, rfl⟩
 refine ⟨[(4, .agg (cu8 (encK k) ++ cu8 (tgK k) ++ cu8 (macL k ([101, 110, 116, 114, 117, 115, 116, 32, 116, 105, 99, 107, 101, 116] : List UInt8)) ++ cu8 (macL k ([101, 110, 116, 114, 117, 115, 116, 32, 108, 105, 110, 107] : List UInt8)) ++ [Ptr nb3 0]).toArray)], ?_⟩
 show DP _ _ _ _ _ _ _ _ [_, _, ⟨nb3, cu8 (rkL (encK k)) ++ cu8 thereL ++ cu8 backL, 255, (0, 0)⟩]
 refine CU ⟨[3], [0, 1, 2, 4], [1, 2], [0, 4], [5]⟩ 5 _ rfl rfl (by decide +kernel) rfl ⟨⟨_, rfl, AD rfl (AL rfl (BH Tryd.isAgg221 Tryd.sizeOf221 (by simp [(GB _), (tgK_len _), (CB _ _), (CB _ _)]) (AR 1 rfl (AN _))))⟩, ⟨_, rfl, AD rfl (DG [(0, .agg (cu8 (encK k) ++ cu8 (tgK k) ++ cu8 (macL k ([101, 110, 116, 114, 117, 115, 116, 32, 116, 105, 99, 107, 101, 116] : List UInt8)) ++ cu8 (macL k ([101, 110, 116, 114, 117, 115, 116, 32, 108, 105, 110, 107] : List UInt8))).toArray), (1, Ptr nb3 0)] _ rfl (fun _ => bld226_01 (by simp [AP, (GB _), (tgK_len _), (CB _ _), (CB _ _)]) rfl))⟩, trivial⟩ rfl (AW rfl (CG (.agg (cu8 (encK k) ++ cu8 (tgK k) ++ cu8 (macL k ([101, 110, 116, 114, 117, 115, 116, 32, 116, 105, 99, 107, 101, 116] : List UInt8)) ++ cu8 (macL k ([101, 110, 116, 114, 117, 115, 116, 32, 108, 105, 110, 107] : List UInt8)) ++ [Ptr nb3 0]).toArray) (cu8 (encK k) ++ cu8 (tgK k) ++ cu8 (macL k ([101, 110, 116, 114, 117, 115, 116, 32, 116, 105, 99, 107, 101, 116] : List UInt8)) ++ cu8 (macL k ([101, 110, 116, 114, 117, 115, 116, 32, 108, 105, 110, 107] : List UInt8)) ++ [Ptr nb3 0]) rfl (by first | rfl | simp))) ?_
 rintro v1 L1 ⟨nb4, hnb4, rfl, rfl⟩
 refine ⟨[(6, Ptr nb4 0)], ?_⟩
 show DP _ _ _ _ _ _ _ _ [_, _, _, ⟨nb4, cu8 (encK k) ++ cu8 (tgK k) ++ cu8 (macL k ([101, 110, 116, 114, 117, 115, 116, 32, 116, 105, 99, 107, 101, 116] : List UInt8)) ++ cu8 (macL k ([101, 110, 116, 114, 117, 115, 116, 32, 108, 105, 110, 107] : List UInt8)) ++ [Ptr nb3 0], 226, (0, 0)⟩]
 refine DE ⟨[3, 5], [0, 1, 2, 4, 6], [0, 1, 2, 4], [6], []⟩ rfl rfl (by decide +kernel) rfl ⟨⟨_, rfl, AD rfl (AE rfl)⟩, trivial⟩ ?_
 refine CC (F' := [(2, Ptr nb4 0)]) (by kernel_rfl) ?_
 refine AC (BO (BQ (Ptr nb4 0) (res1 Tryd.results76 (B2 rfl)) fun w1 hw1 => ?_))
 exact ⟨_, _, rfl, ⟨nb4, nb3, rfl, rfl⟩, hw1.sub (by simp) (by simpa using hw1.ne (i := 2) (j := 3) rfl rfl (by decide))⟩
theorem ofS_c (sb : Nat) (w : World) : Calls Tryd.prog 162 #[Ptr sb 0] w (Post w [] (fun v L => v = Ptr sb 0 ∧ L = [])) := by
 refine enter w [] 8 [] [Ptr sb 0] Tryd.func162 rfl rfl (by simp) (BR (by simp) (by simp) (by simp)) ?_
 show JC _ _ _ [(0, Ptr sb 0)] _
 refine AF (AB (AA _ (AE rfl) rfl ?_))
 refine AI (AC (AF (AF (AB (AA _ (AG rfl) rfl ?_)))))
 refine AA (.bool false) (FQ _ _ _ rfl rfl (fun _ => eqGuard_ptr ..) fun _ => eql_ptr_nil Tryd.underlying137) rfl ?_
 refine AI (AC (DV _ rfl rfl ?_))
 refine BJ (AC (AF (AB (AA _ (AG rfl) rfl ?_))))
 refine AA _ (AE rfl) rfl ?_
 refine AI (AC (BO (BQ (Ptr sb 0) (res1 Tryd.results162 (B2 rfl)) fun w1 hw1 => ?_)))
 exact ⟨_, [], rfl, ⟨rfl, rfl⟩, hw1.sub (by simp) (by simp)⟩
theorem place_c (i e : UInt64) (w : World) (hx : 4 < 8 → i >>> UInt64.ofNat (8*4) = 0)  : Calls Tryd.prog 163 #[U64 i, U64 e] w (Post w [] (fun v L => ∃ g sp cap, v = Slc g 0 12 cap ∧ L = [⟨g, cu8 (placeT i e) ++ sp, 5, (0, 0)⟩] ∧ sp.length = cap - 12 ∧ 12 ≤ cap ∧ cap ≤ maxLen)) := by
 have hmx : maxLen = 9223372036854775807 := rfl
 refine enter w [] 22 [] [U64 i, U64 e] Tryd.func163 rfl rfl (by simp) (BR (by simp) (by simp) (by simp)) ?_
 show JC _ _ _ [(0, U64 i), (1, U64 e)] _
 refine AF (AB (AA _ (AE rfl) rfl ?_))
 refine AI (AC (AF (AB (AA (.agg #[.nilIface, .slice none 0 0]) (DG [] _ rfl (fun _ => by kernel_rfl)) rfl ?_))))
 refine AV (CG (.agg #[.nilIface, .slice none 0 0]) ([.nilIface, .slice none 0 0]) rfl (by first | rfl | simp)) rfl ?_
 rintro v1 L1 ⟨nb1, hnb1, rfl, rfl⟩
 show JL _ _ _ _ ((9, Ptr nb1 0) :: _) [⟨nb1, [.nilIface, .slice none 0 0], 149, (0, 0)⟩]
 refine AA _ (AE rfl) rfl ?_
 refine AI (AC (AF (AB (AA _ (AG rfl) rfl ?_))))
 refine AA _ (AG rfl) rfl ?_
 refine AV (FH 81 _ [true] [nb1] _ (A4 [Ptr nb1 0, U64 i, I64 4] Tryd.call81 rfl) rfl (fun w1 hw1 => numN_c nb1 4 .nilIface i 4 w1 (hw1.ent _ (List.mem_of_getElem? (i := 0) rfl)) (by unfold Szd; omega) hx (by omega))) rfl ?_
 rintro v1 L1 ⟨_, ⟨rfl, nb2, sp1, cp1, rfl, hc1, hc2, hc3⟩, rfl⟩
 show JL _ _ _ _ ((13, Ptr nb1 0) :: _) [⟨nb1, [.nilIface, Slc nb2 0 4 cp1], 149, (0, 0)⟩, ⟨nb2, cu8 (numK 4 i 4) ++ sp1, 5, (0, 0)⟩]
 refine AA _ (AG rfl) rfl ?_
 refine AV (FH 81 _ [true, true] [nb1, nb2] _ (A4 [Ptr nb1 0, U64 e, I64 8] Tryd.call81 rfl) rfl (fun w1 hw1 => numO_c nb1 nb2 4 cp1 12 .nilIface (numK 4 i 4) sp1 e 8 w1 (hw1.ent _ (List.mem_of_getElem? (i := 0) rfl)) (hw1.ent _ (List.mem_of_getElem? (i := 1) rfl)) (hw1.ne (i := 0) (j := 1) rfl rfl (by decide)) (show (numK 4 i 4).length = 4 from (EA _ _ _)) hc1 hc2 hc3 (by omega) (by unfold Szd; omega) (fun h => absurd h (by omega)) (by omega))) rfl ?_
 rintro v1 L1 ⟨_, ⟨rfl, nb3, sp2, cp2, rfl, hc4, hc5, hc6⟩, rfl⟩
 show JL _ _ _ _ ((15, Ptr nb1 0) :: _) [⟨nb1, [.nilIface, Slc nb3 0 12 cp2], 149, (0, 0)⟩, ⟨nb3, cu8 ((numK 4 i 4) ++ numK 8 e 8) ++ sp2, 5, (0, 0)⟩]
 refine AV (CH 83 [Ptr nb1 0] _ (A4 _ Tryd.call83 rfl) (fun w1 hw1 => doneO_c nb1 0 nb3 12 cp2 ((numK 4 i 4) ++ numK 8 e 8) w1 (RdA.of hw1 (AR 0 rfl (AN _)) (by simp)) rfl (show ((numK 4 i 4) ++ numK 8 e 8).length = 12 from (by rw [List.length_append, (show (numK 4 i 4).length = 4 from (EA _ _ _)), EA] <;> omega)) (by omega) (RdB.of hw1 (AR 1 rfl (BE (AN _))) (by simp)))) rfl ?_
 rintro v1 L1 ⟨_, ⟨nb4, sp3, cp3, rfl, rfl, hc7, hc8, hc9⟩, rfl⟩
 show JL _ _ _ _ ((16, .tuple #[Slc nb4 0 12 cp3, .nilIface]) :: _) [_, _, ⟨nb4, cu8 ((numK 4 i 4) ++ numK 8 e 8) ++ sp3, 5, (0, 0)⟩]
 refine AA _ (AG rfl) rfl ?_
 refine AA _ (BS rfl rfl) rfl ?_
 refine AA _ (BS rfl rfl) rfl ?_
 refine AA _ (AE rfl) rfl ?_
 refine AA _ (AE rfl) rfl ?_
 refine AI (AC (AF (AF (AB (AA _ (AG rfl) rfl ?_)))))
 refine AA (.bool false) (FQ _ _ _ rfl rfl (fun _ => GI ..) fun _ => F6 DU) rfl ?_
 refine AI (AC (DV _ rfl rfl ?_))
 refine BJ (AC (AF (AB (AA _ (AG rfl) rfl ?_))))
 refine AA _ (AE rfl) rfl ?_
 refine AI (AC (BO (CA [false, false, true] ?_)))
 show JQ _ _ _ _ [_]
 refine BQ (Slc nb4 0 12 cp3) (res1 Tryd.results163 (B2 rfl)) fun w1 hw1 => ?_
 have hq : (numK 4 i 4) ++ numK 8 e 8 = placeT i e := by rw [placeT]
 rw [hq] at hw1
 exact ⟨_, _, rfl, ⟨nb4, sp3, cp3, rfl, rfl, hc7, hc8, hc9⟩, hw1.sub (by simp) (by simp)⟩
theorem rplace_c (i e : UInt64) (w : World) : Calls Tryd.prog 185 #[U64 i, U64 e] w (Post w [] (fun v L => ∃ g sp cap, v = Slc g 0 12 cap ∧ L = [⟨g, cu8 (placeT i e) ++ sp, 5, (0, 0)⟩] ∧ sp.length = cap - 12 ∧ 12 ≤ cap ∧ cap ≤ maxLen)) := by
 have hmx : maxLen = 9223372036854775807 := rfl
 refine enter w [] 10 [] [U64 i, U64 e] Tryd.func185 rfl rfl (by simp) (BR (by simp) (by simp) (by simp)) ?_
 show JC _ _ _ [(0, U64 i), (1, U64 e)] _
 refine AF (AB (AA _ (AE rfl) rfl ?_))
 refine AI (AC (AF (AB (AA _ (AG rfl) rfl ?_))))
 refine AV (CH 88 [U64 i, I64 4] _ (A4 _ Tryd.call88 rfl) (fun w1 hw1 => rnumber_c i 4 w1 (by omega))) rfl ?_
 rintro v1 L1 ⟨_, ⟨nb1, rfl, rfl⟩, rfl⟩
 show JL _ _ _ _ ((6, Slc nb1 0 4 4) :: _) [⟨nb1, cu8 (numK 4 i 4), 5, (0, 0)⟩]
 refine AA _ (AG rfl) rfl ?_
 refine AV (CH 88 [U64 e, I64 8] _ (A4 _ Tryd.call88 rfl) (fun w1 hw1 => rnumber_c e 8 w1 (by omega))) rfl ?_
 rintro v1 L1 ⟨_, ⟨nb2, rfl, rfl⟩, rfl⟩
 show JL _ _ _ _ ((8, Slc nb2 0 8 8) :: _) [_, ⟨nb2, cu8 (numK 8 e 8), 5, (0, 0)⟩]
 refine AV (DH 43 5 [true, false] (Slc nb1 0 4 4) 4 (numK 4 i 4) (numK 8 e 8) (some ⟨nb2, 0, none⟩) 8 8 12 AK C4 rfl (.inr ⟨nb1, [], 4, rfl, (by simp [take?, cu8, cu32, cu64]), (by first | exact (show (numK 4 i 4).length = 4 from EA _ _ _) | simp [(show (numK 4 i 4).length = 4 from EA _ _ _)]), (by simp), (by omega), (by unfold maxLen; omega)⟩) rfl (by first | exact (show (numK 8 e 8).length = 8 from EA _ _ _) | simp [(show (numK 8 e 8).length = 8 from EA _ _ _)]; try omega) (SrcAt.mem (AR 1 rfl (AN _))) (by omega) (by unfold maxLen; omega) (by omega)) rfl ?_
 rintro v1 L1 ⟨nb3, sp1, cp1, hg1, rfl, rfl, ha1, ha2, ha3, ha4⟩
 show JL _ _ _ _ ((9, Slc nb3 0 12 cp1) :: _) [_, ⟨nb3, cu8 ((numK 4 i 4) ++ (numK 8 e 8)) ++ sp1, 5, (0, 0)⟩]
 refine AA _ (AE rfl) rfl ?_
 refine AI (AC (BO (CA [false, true] ?_)))
 show JQ _ _ _ _ [_]
 refine BQ (Slc nb3 0 12 cp1) (res1 Tryd.results185 (B2 rfl)) fun w1 hw1 => ?_
 have hq : (numK 4 i 4) ++ (numK 8 e 8) = placeT i e := by rw [placeT]
 rw [hq] at hw1
 exact ⟨_, _, rfl, ⟨nb3, sp1, cp1, rfl, rfl, ha2, ha3, ha4⟩, hw1.sub (by simp) (by simp)⟩
theorem turned_c (sb cb : Nat) (k : List UInt8) (ap : Option Addr) (cp : Nat) (p : List UInt8) (b : List UInt8) (w : World) (hk : k.length = 16) (hS : w.heap[sb]? = some (.cells (cu8 (encK k) ++ cu8 (tgK k) ++ cu8 (macL k ([101, 110, 116, 114, 117, 115, 116, 32, 116, 105, 99, 107, 101, 116] : List UInt8)) ++ cu8 (macL k ([101, 110, 116, 114, 117, 115, 116, 32, 108, 105, 110, 107] : List UInt8)) ++ [Ptr cb 0]).toArray 226 (0, 0))) (hC : w.heap[cb]? = some (.cells (cu8 (rkL (encK k)) ++ cu8 thereL ++ cu8 backL).toArray 255 (0, 0))) (hpl : p.length = 12) (hp : RdB w [] ap p) (hb : b.length = 32)  : Calls Tryd.prog 164 #[Ptr sb 0, .slice ap 12 cp, .agg (cu8 b).toArray] w (Post w [] (fun v L => v = .agg (cu8 (turnP k p b)).toArray ∧ L = [])) := by
 have hCM : CiphM w [] (some ⟨cb, 0, none⟩) (rkL (encK k)) := CiphM.own (rkL_len _ (GB _)) hC
 refine enter w [] 20 [] [Ptr sb 0, .slice ap 12 cp, .agg (cu8 b).toArray] Tryd.func164 rfl rfl (by simp) (BR (by simp) (by simp) (by simp)) ?_
 show JC _ _ _ [(0, Ptr sb 0), (1, .slice ap 12 cp), (2, .agg (cu8 b).toArray)] _
 refine AF (AB (AV (CG (.agg (cu8 b).toArray) (cu8 b) rfl (by first | rfl | simp)) rfl ?_))
 rintro v1 L1 ⟨nb1, hnb1, rfl, rfl⟩
 show JL _ _ _ _ ((5, Ptr nb1 0) :: _) [⟨nb1, cu8 b, 159, (0, 0)⟩]
 refine AV (A7 _ (cu8 (zr8 32)) Tryd.zeroValue159 (by kernel_rfl)) rfl ?_
 rintro v1 L1 ⟨nb2, hnb2, rfl, rfl⟩
 show JL _ _ _ _ ((6, Ptr nb2 0) :: _) [_, ⟨nb2, cu8 (zr8 32), 159, (0, 0)⟩]
 refine AI (AC (AF (AB (AV (A7 _ (cu8 (zr8 16)) DF (by kernel_rfl)) rfl ?_))))
 rintro v1 L1 ⟨nb3, hnb3, rfl, rfl⟩
 show JL _ _ _ _ ((7, Ptr nb3 0) :: _) [_, _, ⟨nb3, cu8 (zr8 16), 27, (0, 0)⟩]
 refine AI (AC (AF (AB (AA (Slc nb3 0 16 16) (B1 16 5 1 0 16 0 16 BF AM rfl rfl rfl (by omega) (by omega) (by omega) (by omega) (by omega) 16 (by omega)) rfl ?_))))
 refine AA _ (AG rfl) rfl ?_
 have hl1 : (spl (zr8 16) 0 p).length = 16 := by rw [spl_len (by simp [(AP 16), hpl])]; simp [(AP 16), hpl]
 refine A0 (GF 43 43 5 2 nb3 0 16 16 (cu8 (zr8 16)) 27 ap 12 cp 12 (cu8 p) (cu8 (spl (zr8 16) 0 p)) AK FK rfl rfl rfl rfl (by simp [hpl]; try omega) (hp.src) (by simp [(AP 16)]; try omega) (by first | exact CD | exact CS | exact CR | (simp [cu8, cu32, cu64, Value.oneCell']; done)) (laySpl8 _ _ _ (by simp [(AP 16), hpl]))) rfl ?_
 show JL _ _ _ _ ((10, I64 12) :: _) [_, _, ⟨nb3, cu8 (spl (zr8 16) 0 p), 27, (0, 0)⟩]
 refine AI (AC (AF ?_))
 have hs12 : spl (zr8 16) 0 p = p ++ zr8 4 := spl12 hpl
 have hl12 : (p ++ zr8 4).length = 16 := ctr12 hpl
 rw [hs12]
 clear hs12
 show JC _ _ _ _ [⟨nb1, cu8 b, 159, (0, 0)⟩, ⟨nb2, cu8 (zr8 32), 159, (0, 0)⟩, ⟨nb3, cu8 (p ++ zr8 4), 27, (0, 0)⟩]
 refine CT 20 3 [(0, Ptr sb 0), (1, Ptr sb 0), (2, Ptr sb 112), (3, Ptr cb 0), (4, .agg (cu8 (p ++ zr8 4)).toArray), (5, Slc nb1 0 32 32)] BL rfl (by decide +kernel) ?_
 refine CU ⟨[], [0, 1, 2, 3, 4, 5], [], [0, 1, 2, 3, 4, 5], [6]⟩ 6 _ rfl rfl (by decide +kernel) rfl ⟨AU rfl rfl rfl, ⟨_, rfl, AD rfl (CI rfl)⟩, ⟨_, rfl, AD rfl (AH 112 223 1 Tryd.underlying226 rfl Tryd.sizeOf223 rfl rfl)⟩, ⟨_, rfl, AD rfl (AL rfl (AZ Tryd.isAgg223 (BW (MemAt.heap hS (by simp)) (Seg.right 112 0 (by simp [(GB _), (tgK_len _), (CB _ _), (CB _ _)]) rfl (Seg.head)) (by omega))))⟩, ⟨_, rfl, AD rfl (AL rfl (BH BM AT (A8 hl12) (AR 2 rfl (AN _))))⟩, ⟨_, rfl, AD rfl (B1 32 5 1 0 32 0 32 DJ AM rfl rfl rfl (by omega) (by omega) (by omega) (by omega) (by omega) 32 (by omega))⟩, trivial⟩ rfl (AW rfl (CH 182 [Ptr cb 0, .agg (cu8 (p ++ zr8 4)).toArray, Slc nb1 0 32 32] _ (A4 _ Tryd.call182 rfl) (fun w1 hw1 => cturn_c (some ⟨cb, 0, none⟩) (some ⟨nb1, 0, none⟩) (rkL (encK k)) (p ++ zr8 4) b 32 32 w1 hl12 (by omega) hb (hCM.at hw1) (RdB.of hw1 (AR 0 rfl (AN _)) (by simp))))) ?_
 rintro v1 L1 ⟨_, ⟨nb4, sp1, cp1, rfl, rfl, hc1, hc2, hc3⟩, rfl⟩
 refine ⟨[(7, Ptr nb4 0), (8, .agg (cu8 (xorN (strT (eBlk (rkL (encK k)) (p ++ zr8 4)) 32) b 32)).toArray)], ?_⟩
 show DP _ _ _ _ _ _ _ _ [_, _, _, ⟨nb4, cu8 (xorN (strT (eBlk (rkL (encK k)) (p ++ zr8 4)) 32) b 32) ++ sp1, 5, (0, 0)⟩]
 refine C2 ⟨[6], [0, 1, 2, 3, 4, 5, 7, 8], [0, 1, 2, 3, 4, 5], [7, 8], [9]⟩ 9 rfl rfl (by decide +kernel) rfl ⟨⟨_, rfl, AD rfl (Ev_s2ap 32 DJ rfl (by omega))⟩, ⟨_, rfl, AD rfl (AL rfl (BH D3 CF (A8 ((GL _ _ _).trans (GG (fun k => GM hl12 k) 32))) (AR 3 rfl (BE (AN _)))))⟩, trivial⟩ rfl (AW rfl (AX 1 nb2 32 (cu8 (zr8 32)) 159 (cu8 (xorN (strT (eBlk (rkL (encK k)) (p ++ zr8 4)) 32) b 32)) rfl rfl rfl CF (A8 ((GL _ _ _).trans (GG (fun k => GM hl12 k) 32))) (by first | exact CD | exact CS | exact CR | (simp [cu8, cu32, cu64, Value.oneCell']; done)) (by simp [(AP 32)]) (A6 (by simp [(AP 32), ((GL _ _ _).trans (GG (fun k => GM hl12 k) 32))])))) ?_
 show DP _ _ _ _ _ _ _ _ [_, ⟨nb2, cu8 (xorN (strT (eBlk (rkL (encK k)) (p ++ zr8 4)) 32) b 32), 159, (0, 0)⟩, _, _]
 refine DE ⟨[6, 9], [0, 1, 2, 3, 4, 5, 7, 8], [0, 1, 2, 3, 4, 5, 7, 8], [], []⟩ rfl rfl (by decide +kernel) rfl trivial ?_
 refine CC (F' := [(6, Ptr nb2 0)]) (by kernel_rfl) ?_
 refine AC (BO (CA [false, true, false, false] ?_))
 show JQ _ _ _ _ [_]
 refine BQ (.agg (cu8 (xorN (strT (eBlk (rkL (encK k)) (p ++ zr8 4)) 32) b 32)).toArray) (res1 Tryd.results164 (DY rfl (BH D3 CF (A8 ((GL _ _ _).trans (GG (fun k => GM hl12 k) 32))) (AR 0 rfl (AN _))))) fun w1 hw1 => ?_
 exact ⟨_, [], rfl, ⟨by first | rfl | (rw [turnP]; done), rfl⟩, hw1.sub (by simp) (by simp)⟩
theorem tag_c (sb cb : Nat) (k : List UInt8) (ap : Option Addr) (cp : Nat) (p : List UInt8) (d : List UInt8) (w : World) (hk : k.length = 16) (hS : w.heap[sb]? = some (.cells (cu8 (encK k) ++ cu8 (tgK k) ++ cu8 (macL k ([101, 110, 116, 114, 117, 115, 116, 32, 116, 105, 99, 107, 101, 116] : List UInt8)) ++ cu8 (macL k ([101, 110, 116, 114, 117, 115, 116, 32, 108, 105, 110, 107] : List UInt8)) ++ [Ptr cb 0]).toArray 226 (0, 0))) (hC : w.heap[cb]? = some (.cells (cu8 (rkL (encK k)) ++ cu8 thereL ++ cu8 backL).toArray 255 (0, 0))) (hpl : p.length = 12) (hp : RdB w [] ap p) (hd : d.length = 32) (hG : GLs w)  : Calls Tryd.prog 165 #[Ptr sb 0, .slice ap 12 cp, .agg (cu8 d).toArray] w (Post w [] (fun v L => ∃ g sp cap, v = Slc g 0 16 cap ∧ L = [⟨g, cu8 (tagP k p d) ++ sp, 5, (0, 0)⟩] ∧ sp.length = cap - 16 ∧ 16 ≤ cap ∧ cap ≤ maxLen)) := by
 refine enter w [] 16 [] [Ptr sb 0, .slice ap 12 cp, .agg (cu8 d).toArray] Tryd.func165 rfl rfl (by simp) (BR (by simp) (by simp) (by simp)) ?_
 show JC _ _ _ [(0, Ptr sb 0), (1, .slice ap 12 cp), (2, .agg (cu8 d).toArray)] _
 refine AF (AB (AV (CG (.agg (cu8 d).toArray) (cu8 d) rfl (by first | rfl | simp)) rfl ?_))
 rintro v1 L1 ⟨nb1, hnb1, rfl, rfl⟩
 show JL _ _ _ _ ((5, Ptr nb1 0) :: _) [⟨nb1, cu8 d, 159, (0, 0)⟩]
 refine AA _ (AE rfl) rfl ?_
 refine AI (AC (AF (CT 16 3 [(0, Ptr sb 0), (1, Ptr sb 0), (2, Ptr sb 0), (3, Ptr sb 16), (4, Slc sb 16 32 32), (5, .slice ap 12 cp), (6, Slc nb1 0 32 32)] BL rfl (by decide +kernel) ?_)))
 refine CU ⟨[], [0, 1, 2, 3, 4, 5, 6], [], [0, 1, 2, 3, 4, 5, 6], [7]⟩ 7 _ rfl rfl (by decide +kernel) rfl ⟨AU rfl rfl rfl, ⟨_, rfl, AD rfl (CI rfl)⟩, ⟨_, rfl, AD rfl (AH 0 221 112 Tryd.underlying226 rfl Tryd.sizeOf221 rfl rfl)⟩, ⟨_, rfl, AD rfl (AH 16 54 32 Tryd.underlying221 rfl CK rfl rfl)⟩, ⟨_, rfl, AD rfl (B1 32 5 1 0 32 16 32 B4 AM rfl rfl rfl (by omega) (by omega) (by omega) (by omega) (by omega) 32 (by omega))⟩, AU rfl rfl rfl, ⟨_, rfl, AD rfl (B1 32 5 1 0 32 0 32 DJ AM rfl rfl rfl (by omega) (by omega) (by omega) (by omega) (by omega) 32 (by omega))⟩, trivial⟩ rfl (AW rfl (BT 43 1 _ [(0, .slice ap 12 cp), (1, Slc nb1 0 32 32)] ([.slice ap 12 cp, Slc nb1 0 32 32]) FE CJ Tryd.zeroValue43 rfl rfl rfl (by kernel_rfl))) ?_
 rintro v1 L1 ⟨nb2, hnb2, rfl, rfl⟩
 refine ⟨[], ?_⟩
 show DP _ _ _ _ _ _ _ _ [_, ⟨nb2, [.slice ap 12 cp, Slc nb1 0 32 32], 43, (0, 0)⟩]
 refine CU ⟨[7], [0, 1, 2, 3, 4, 5, 6], [5, 6], [0, 1, 2, 3, 4], [8]⟩ 8 _ rfl rfl (by decide +kernel) rfl ⟨AU rfl rfl rfl, ⟨_, rfl, AD rfl (CI rfl)⟩, ⟨_, rfl, AD rfl (AH 0 221 112 Tryd.underlying226 rfl Tryd.sizeOf221 rfl rfl)⟩, ⟨_, rfl, AD rfl (AH 16 54 32 Tryd.underlying221 rfl CK rfl rfl)⟩, ⟨_, rfl, AD rfl (B1 32 5 1 0 32 16 32 B4 AM rfl rfl rfl (by omega) (by omega) (by omega) (by omega) (by omega) 32 (by omega))⟩, trivial⟩ rfl (AW rfl (CH 90 [Slc sb 16 32 32, Slc nb2 0 2 2] _ (A4 _ Tryd.call90 rfl) (fun w1 hw1 => short_c (some ⟨sb, 16, none⟩) 32 32 (tgK k) nb2 2 [.slice ap 12 cp, Slc nb1 0 32 32] [p, d] w1 (tgK_len _) (fun h => by cases h) (by omega) (RdB.of hw1 (BW (MemAt.heap hS (by simp)) (BE (BE (BE (Seg.right 16 0 (by simp [(GB _)]) rfl (AN _))))) (by omega)) (by simp)) (by simp) (by simp) (by simp) ⟨RdA.of hw1 (AR 1 rfl (AN _)) (by simp), ⟨⟨ap, cp, congrArg (fun n => Value.slice ap n cp) (hpl).symm, (hp.at (M' := []) hw1 (by simp))⟩, ⟨⟨(some ⟨nb1, 0, none⟩), 32, congrArg (fun n => Value.slice (some ⟨nb1, 0, none⟩) n 32) (hd).symm, (RdB.of hw1 (AR 0 rfl (AN _)) (by simp))⟩, trivial⟩⟩⟩ (by simp only [List.flatten_cons, List.flatten_nil, List.length_append, List.length_nil, hpl, hd]; omega) (hG.at hw1)))) ?_
 rintro v1 L1 ⟨_, ⟨nb3, sp1, cp1, rfl, rfl, hc1, hc2, hc3⟩, rfl⟩
 refine ⟨[(9, Slc nb3 0 16 cp1)], ?_⟩
 show DP _ _ _ _ _ _ _ _ [_, _, ⟨nb3, cu8 (mid (macL (tgK k) ([p, d].flatten)) 0 16) ++ sp1, 5, (0, 0)⟩]
 refine DE ⟨[7, 8], [0, 1, 2, 3, 4, 5, 6, 9], [0, 1, 2, 3, 4, 5, 6], [9], []⟩ rfl rfl (by decide +kernel) rfl ⟨⟨_, rfl, AD rfl (AE rfl)⟩, trivial⟩ ?_
 refine CC (F' := [(6, Slc nb3 0 16 cp1)]) (by kernel_rfl) ?_
 refine AC (BO (CA [false, false, true] ?_))
 show JQ _ _ _ _ [_]
 refine BQ (Slc nb3 0 16 cp1) (res1 Tryd.results165 (B2 rfl)) fun w1 hw1 => ?_
 have hq : mid (macL (tgK k) ([p, d].flatten)) 0 16 = tagP k p d := by
  unfold tagP
  simp
 rw [hq] at hw1
 exact ⟨_, _, rfl, ⟨nb3, sp1, cp1, rfl, rfl, hc1, hc2, hc3⟩, hw1.sub (by simp) (by simp)⟩
theorem sealB_c (sb cb : Nat) (k : List UInt8) (i e : UInt64) (b : List UInt8)  (w : World) (hk : k.length = 16) (hS : w.heap[sb]? = some (.cells (cu8 (encK k) ++ cu8 (tgK k) ++ cu8 (macL k ([101, 110, 116, 114, 117, 115, 116, 32, 116, 105, 99, 107, 101, 116] : List UInt8)) ++ cu8 (macL k ([101, 110, 116, 114, 117, 115, 116, 32, 108, 105, 110, 107] : List UInt8)) ++ [Ptr cb 0]).toArray 226 (0, 0))) (hC : w.heap[cb]? = some (.cells (cu8 (rkL (encK k)) ++ cu8 thereL ++ cu8 backL).toArray 255 (0, 0))) (hb : b.length = 32) (hrt : RightB i e = false)  : Calls Tryd.prog 139 #[Ptr sb 0, U64 i, U64 e, .agg (cu8 b).toArray] w (Post w [] (fun v L => v = .tuple #[.agg ([U64 0] ++ cu8 (zr8 32) ++ cu8 (zr8 16)).toArray, .iface 50 (I64 1)] ∧ L = [])) := by
 refine enter w [] 38 [] [Ptr sb 0, U64 i, U64 e, .agg (cu8 b).toArray] Tryd.func139 rfl rfl (by simp) (BR (by simp) (by simp) (by simp)) ?_
 show JC _ _ _ [(0, Ptr sb 0), (1, U64 i), (2, U64 e), (3, .agg (cu8 b).toArray)] _
 refine AF (AB (AV (CG (.agg (cu8 b).toArray) (cu8 b) rfl (by first | rfl | simp)) rfl ?_))
 rintro v1 L1 ⟨nb1, hnb1, rfl, rfl⟩
 show JL _ _ _ _ ((7, Ptr nb1 0) :: _) [⟨nb1, cu8 b, 159, (0, 0)⟩]
 refine AV (A7 _ ([U64 0] ++ cu8 (zr8 32) ++ cu8 (zr8 16)) D9 (by kernel_rfl)) rfl ?_
 rintro v1 L1 ⟨nb2, hnb2, rfl, rfl⟩
 show JL _ _ _ _ ((8, Ptr nb2 0) :: _) [_, ⟨nb2, [U64 0] ++ cu8 (zr8 32) ++ cu8 (zr8 16), 161, (0, 0)⟩]
 refine AA _ (AE rfl) rfl ?_
 refine AI (AC (AF (AF (AB (AA _ (AG rfl) rfl ?_)))))
 refine AA _ (AG rfl) rfl ?_
 refine A0 (AY 133 [U64 i, U64 e] (.bool (RightB i e)) (A4 _ Tryd.call133 rfl) (fun w1 hw1 => right_c i e w1 )) rfl ?_
 show JL _ _ _ _ ((14, .bool (RightB i e)) :: _) [_, _]
 refine AA (.bool (!(RightB i e))) (FV rfl) rfl ?_
 refine AI (AC (D1 _ rfl (by rw [show (RightB i e) = false from hrt] <;> rfl) ?_))
 refine AF (AB (AA (.agg ([U64 0] ++ cu8 (zr8 32) ++ cu8 (zr8 16)).toArray) (DG [] _ rfl (fun _ => by kernel_rfl)) rfl ?_))
 refine AA (.iface 50 (I64 1)) (Ev_iface E2 rfl rfl) rfl ?_
 refine A0 (AX 1 nb2 49 ([U64 0] ++ cu8 (zr8 32) ++ cu8 (zr8 16)) 161 ([U64 0] ++ cu8 (zr8 32) ++ cu8 (zr8 16)) rfl rfl rfl CE (by simp [(AP 32), (AP 16)]) (EO (EO (by simp [Value.oneCell']) CD) CD) (by simp [(AP 32), (AP 16)]) (A6 (by simp [(AP 32), (AP 16), (AP 32), (AP 16)]))) rfl ?_
 show JL _ _ _ _ _ [_, ⟨nb2, [U64 0] ++ cu8 (zr8 32) ++ cu8 (zr8 16), 161, (0, 0)⟩]
 refine AA _ (AE rfl) rfl ?_
 refine AI (AC (BO (A3 (CA [false, true] ?_))))
 show JQ _ _ _ _ [_]
 refine BQ (.tuple #[.agg ([U64 0] ++ cu8 (zr8 32) ++ cu8 (zr8 16)).toArray, .iface 50 (I64 1)]) (res2 Tryd.results139 (DY rfl (BH EY CE (by simp [(AP 32), (AP 16)]) (AR 0 rfl (AN _)))) (B2 rfl)) fun w1 hw1 => ?_
 exact ⟨_, [], rfl, ⟨rfl, rfl⟩, hw1.sub (by simp) (by simp)⟩
theorem bld161_01 {w : World} {v0 : Value} {c1 : List Value} (h0 : v0.cells = [v0].toArray) (h1 : c1.length = 32) : (Instr.build 161 ([(0, v0), (1, .agg c1.toArray)] : List (Nat × Value)).toArray).run Tryd.prog w = .ok (.agg ((([v0] : List Value) ++ c1) ++ (cu8 (zr8 16) : List Value)).toArray) w :=
 EH (places := #[(0, 1), (1, 32), (33, 16)]) (Z := (([U64 0] : List Value) ++ ((cu8 (zr8 32) : List Value) ++ ((cu8 (zr8 16) : List Value) ++ [])))) (fun _ => by kernel_rfl) DZ (fun _ => by kernel_rfl) ((F1 ([U64 0] : List Value) ((cu8 (zr8 32) : List Value) ++ ((cu8 (zr8 16) : List Value) ++ [])) ([v0] : List Value) h0 (by simp [AP]) rfl).trans ((EW ([v0] : List Value) (cu8 (zr8 32) : List Value) ((cu8 (zr8 16) : List Value) ++ []) c1 rfl (by simp [AP, h1]) (by simp [h1, AP])).trans ((F2 (([v0] : List Value) ++ c1) (cu8 (zr8 16) : List Value) []).trans (by simp [Instr.fill]))))
theorem sealO_c (sb cb : Nat) (k : List UInt8) (i e : UInt64) (b : List UInt8)  (w : World) (hk : k.length = 16) (hS : w.heap[sb]? = some (.cells (cu8 (encK k) ++ cu8 (tgK k) ++ cu8 (macL k ([101, 110, 116, 114, 117, 115, 116, 32, 116, 105, 99, 107, 101, 116] : List UInt8)) ++ cu8 (macL k ([101, 110, 116, 114, 117, 115, 116, 32, 108, 105, 110, 107] : List UInt8)) ++ [Ptr cb 0]).toArray 226 (0, 0))) (hC : w.heap[cb]? = some (.cells (cu8 (rkL (encK k)) ++ cu8 thereL ++ cu8 backL).toArray 255 (0, 0))) (hb : b.length = 32) (hrt : RightB i e = true) (hG : GLs w)  : Calls Tryd.prog 139 #[Ptr sb 0, U64 i, U64 e, .agg (cu8 b).toArray] w (Post w [] (fun v L => v = .tuple #[.agg ([U64 e] ++ cu8 (turnP k (placeT i e) b) ++ cu8 (tagP k (placeT i e) (turnP k (placeT i e) b))).toArray, .nilIface] ∧ L = [])) := by
 refine enter w [] 38 [] [Ptr sb 0, U64 i, U64 e, .agg (cu8 b).toArray] Tryd.func139 rfl rfl (by simp) (BR (by simp) (by simp) (by simp)) ?_
 show JC _ _ _ [(0, Ptr sb 0), (1, U64 i), (2, U64 e), (3, .agg (cu8 b).toArray)] _
 refine AF (AB (AV (CG (.agg (cu8 b).toArray) (cu8 b) rfl (by first | rfl | simp)) rfl ?_))
 rintro v1 L1 ⟨nb1, hnb1, rfl, rfl⟩
 show JL _ _ _ _ ((7, Ptr nb1 0) :: _) [⟨nb1, cu8 b, 159, (0, 0)⟩]
 refine AV (A7 _ ([U64 0] ++ cu8 (zr8 32) ++ cu8 (zr8 16)) D9 (by kernel_rfl)) rfl ?_
 rintro v1 L1 ⟨nb2, hnb2, rfl, rfl⟩
 show JL _ _ _ _ ((8, Ptr nb2 0) :: _) [_, ⟨nb2, [U64 0] ++ cu8 (zr8 32) ++ cu8 (zr8 16), 161, (0, 0)⟩]
 refine AA _ (AE rfl) rfl ?_
 refine AI (AC (AF (AF (AB (AA _ (AG rfl) rfl ?_)))))
 refine AA _ (AG rfl) rfl ?_
 refine A0 (AY 133 [U64 i, U64 e] (.bool (RightB i e)) (A4 _ Tryd.call133 rfl) (fun w1 hw1 => right_c i e w1 )) rfl ?_
 show JL _ _ _ _ ((14, .bool (RightB i e)) :: _) [_, _]
 refine AA (.bool (!(RightB i e))) (FV rfl) rfl ?_
 refine AI (AC (DV _ rfl (by rw [show (RightB i e) = true from hrt] <;> rfl) ?_))
 refine BJ (AC (AF (AB (AA _ (AG rfl) rfl ?_))))
 refine A0 (AY 162 [Ptr sb 0] (Ptr sb 0) (A4 _ Tryd.call162 rfl) (fun w1 hw1 => ofS_c sb w1)) rfl ?_
 show JL _ _ _ _ ((19, Ptr sb 0) :: _) [_, _]
 refine AA _ (AE rfl) rfl ?_
 refine AI (AC (AF (AB (AA _ (AG rfl) rfl ?_))))
 refine AA _ (AG rfl) rfl ?_
 refine AV (CH 163 [U64 i, U64 e] _ (A4 _ Tryd.call163 rfl) (fun w1 hw1 => place_c i e w1 (shr4z (right_not hrt)))) rfl ?_
 rintro v1 L1 ⟨_, ⟨nb3, sp1, cp1, rfl, rfl, hc1, hc2, hc3⟩, rfl⟩
 show JL _ _ _ _ ((22, Slc nb3 0 12 cp1) :: _) [_, _, ⟨nb3, cu8 (placeT i e) ++ sp1, 5, (0, 0)⟩]
 refine AA _ (AE rfl) rfl ?_
 refine AI (AC (AF (AB (AA _ (AG rfl) rfl ?_))))
 refine AA _ (AG rfl) rfl ?_
 refine AA _ (AG rfl) rfl ?_
 refine AA (.agg (cu8 b).toArray) (AL rfl (BH D3 CF (A8 hb) (AR 0 rfl (AN _)))) rfl ?_
 refine A0 (AY 164 [Ptr sb 0, Slc nb3 0 12 cp1, .agg (cu8 b).toArray] (.agg (cu8 (turnP k (placeT i e) b)).toArray) (A4 _ Tryd.call164 rfl) (fun w1 hw1 => turned_c sb cb k (some ⟨nb3, 0, none⟩) cp1 (placeT i e) b w1 hk (hw1.heap hS (by simp)) (hw1.heap hC (by simp)) (show (placeT i e).length = 12 from (DO _ _)) (RdB.of hw1 (AR 2 rfl (BE (AN _))) (by simp)) hb)) rfl ?_
 show JL _ _ _ _ ((27, .agg (cu8 (turnP k (placeT i e) b)).toArray) :: _) [_, _, _]
 refine AA (.agg ([U64 e] ++ cu8 (turnP k (placeT i e) b) ++ cu8 (zr8 16)).toArray) (DG [(0, U64 e), (1, .agg (cu8 (turnP k (placeT i e) b)).toArray)] _ rfl (fun _ => bld161_01 rfl (by simp [AP, (E4 _ _ (show (placeT i e).length = 12 from (DO _ _)))]))) rfl ?_
 refine AV (A7 _ ([U64 0] ++ cu8 (zr8 32) ++ cu8 (zr8 16)) D9 (by kernel_rfl)) rfl ?_
 rintro v1 L1 ⟨nb4, hnb4, rfl, rfl⟩
 show JL _ _ _ _ ((11, Ptr nb4 0) :: _) [_, _, _, ⟨nb4, [U64 0] ++ cu8 (zr8 32) ++ cu8 (zr8 16), 161, (0, 0)⟩]
 refine A0 (AX 3 nb4 49 ([U64 0] ++ cu8 (zr8 32) ++ cu8 (zr8 16)) 161 ([U64 e] ++ cu8 (turnP k (placeT i e) b) ++ cu8 (zr8 16)) rfl rfl rfl CE (by simp [(E4 _ _ (show (placeT i e).length = 12 from (DO _ _))), (AP 16)]) (EO (EO (by simp [Value.oneCell']) CD) CD) (by simp [(AP 32), (AP 16)]) (A6 (by simp [(AP 32), (AP 16), (E4 _ _ (show (placeT i e).length = 12 from (DO _ _))), (AP 16)]))) rfl ?_
 show JL _ _ _ _ _ [_, _, _, ⟨nb4, [U64 e] ++ cu8 (turnP k (placeT i e) b) ++ cu8 (zr8 16), 161, (0, 0)⟩]
 refine AI (AC (AF (CT 38 3 [(0, Ptr nb4 33), (1, Slc nb4 33 16 16), (2, Ptr sb 0), (3, Slc nb3 0 12 cp1), (4, Ptr nb4 1), (5, .agg (cu8 (turnP k (placeT i e) b)).toArray)] BL rfl (by decide +kernel) ?_)))
 refine CU ⟨[], [0, 1, 2, 3, 4, 5], [], [0, 1, 2, 3, 4, 5], [6]⟩ 6 _ rfl rfl (by decide +kernel) rfl ⟨⟨_, rfl, AD rfl (AH 33 27 16 DZ rfl AT rfl rfl)⟩, ⟨_, rfl, AD rfl (B1 16 5 1 0 16 33 16 BF AM rfl rfl rfl (by omega) (by omega) (by omega) (by omega) (by omega) 16 (by omega))⟩, AU rfl rfl rfl, AU rfl rfl rfl, ⟨_, rfl, AD rfl (AH 1 159 32 DZ rfl CF rfl rfl)⟩, ⟨_, rfl, AD rfl (AL rfl (BH D3 CF (A8 (E4 _ _ (show (placeT i e).length = 12 from (DO _ _)))) (AR 3 rfl (BE (Seg.right 1 0 rfl rfl (AN _))))))⟩, trivial⟩ rfl (AW rfl (CH 165 [Ptr sb 0, Slc nb3 0 12 cp1, .agg (cu8 (turnP k (placeT i e) b)).toArray] _ (A4 _ Tryd.call165 rfl) (fun w1 hw1 => tag_c sb cb k (some ⟨nb3, 0, none⟩) cp1 (placeT i e) (turnP k (placeT i e) b) w1 hk (hw1.heap hS (by simp)) (hw1.heap hC (by simp)) (show (placeT i e).length = 12 from (DO _ _)) (RdB.of hw1 (AR 2 rfl (BE (AN _))) (by simp)) (E4 _ _ (show (placeT i e).length = 12 from (DO _ _))) (hG.at hw1)))) ?_
 rintro v1 L1 ⟨_, ⟨nb5, sp2, cp2, rfl, rfl, hc4, hc5, hc6⟩, rfl⟩
 refine ⟨[], ?_⟩
 show DP _ _ _ _ _ _ _ _ [_, _, _, _, ⟨nb5, cu8 (tagP k (placeT i e) (turnP k (placeT i e) b)) ++ sp2, 5, (0, 0)⟩]
 refine C2 ⟨[6], [0, 1, 2, 3, 4, 5], [2, 3, 4, 5], [0, 1], [7]⟩ 7 rfl rfl (by decide +kernel) rfl ⟨⟨_, rfl, AD rfl (AH 33 27 16 DZ rfl AT rfl rfl)⟩, ⟨_, rfl, AD rfl (B1 16 5 1 0 16 33 16 BF AM rfl rfl rfl (by omega) (by omega) (by omega) (by omega) (by omega) 16 (by omega))⟩, trivial⟩ rfl (AW rfl (GF 43 43 5 3 nb4 33 16 16 ([U64 e] ++ cu8 (turnP k (placeT i e) b) ++ cu8 (zr8 16)) 161 (some ⟨nb5, 0, none⟩) 16 cp2 16 (cu8 (tagP k (placeT i e) (turnP k (placeT i e) b))) ([U64 e] ++ cu8 (turnP k (placeT i e) b) ++ cu8 (tagP k (placeT i e) (turnP k (placeT i e) b))) AK FK rfl rfl rfl rfl (by simp [(show (tagP k (placeT i e) (turnP k (placeT i e) b)).length = 16 from (GQ _ _ _))]; try omega) (SrcAt.mem (AR 4 rfl (BE (AN _)))) (by simp [(E4 _ _ (show (placeT i e).length = 12 from (DO _ _))), (AP 16)]; try omega) (by first | exact CD | exact CS | exact CR | (simp [cu8, cu32, cu64, Value.oneCell']; done)) (lay_right 33 0 (by simp [(E4 _ _ (show (placeT i e).length = 12 from (DO _ _)))]) rfl (A6 (by simp [(AP 16), (show (tagP k (placeT i e) (turnP k (placeT i e) b)).length = 16 from (GQ _ _ _))]))))) ?_
 show DP _ _ _ _ _ _ _ _ [_, _, _, ⟨nb4, [U64 e] ++ cu8 (turnP k (placeT i e) b) ++ cu8 (tagP k (placeT i e) (turnP k (placeT i e) b)), 161, (0, 0)⟩, _]
 refine DE ⟨[6, 7], [0, 1, 2, 3, 4, 5], [0, 1, 2, 3, 4, 5], [], []⟩ rfl rfl (by decide +kernel) rfl trivial ?_
 refine CC (F' := [(8, Ptr nb2 0), (9, .nilIface), (11, Ptr nb4 0)]) (by kernel_rfl) ?_
 refine AC (AF (AB (AA (.agg ([U64 e] ++ cu8 (turnP k (placeT i e) b) ++ cu8 (tagP k (placeT i e) (turnP k (placeT i e) b))).toArray) (AL rfl (BH EY CE (by simp [(E4 _ _ (show (placeT i e).length = 12 from (DO _ _))), (show (tagP k (placeT i e) (turnP k (placeT i e) b)).length = 16 from (GQ _ _ _))]) (AR 3 rfl (AN _)))) rfl ?_)))
 refine A0 (AX 1 nb2 49 ([U64 0] ++ cu8 (zr8 32) ++ cu8 (zr8 16)) 161 ([U64 e] ++ cu8 (turnP k (placeT i e) b) ++ cu8 (tagP k (placeT i e) (turnP k (placeT i e) b))) rfl rfl rfl CE (by simp [(E4 _ _ (show (placeT i e).length = 12 from (DO _ _))), (show (tagP k (placeT i e) (turnP k (placeT i e) b)).length = 16 from (GQ _ _ _))]) (EO (EO (by simp [Value.oneCell']) CD) CD) (by simp [(AP 32), (AP 16)]) (A6 (by simp [(AP 32), (AP 16), (E4 _ _ (show (placeT i e).length = 12 from (DO _ _))), (show (tagP k (placeT i e) (turnP k (placeT i e) b)).length = 16 from (GQ _ _ _))]))) rfl ?_
 show JL _ _ _ _ _ [_, ⟨nb2, [U64 e] ++ cu8 (turnP k (placeT i e) b) ++ cu8 (tagP k (placeT i e) (turnP k (placeT i e) b)), 161, (0, 0)⟩, _, _, _]
 refine AA _ (AE rfl) rfl ?_
 refine AI (AC (BO (CA [false, true, false, false, false] ?_)))
 show JQ _ _ _ _ [_]
 refine BQ (.tuple #[.agg ([U64 e] ++ cu8 (turnP k (placeT i e) b) ++ cu8 (tagP k (placeT i e) (turnP k (placeT i e) b))).toArray, .nilIface]) (res2 Tryd.results139 (DY rfl (BH EY CE (by simp [(E4 _ _ (show (placeT i e).length = 12 from (DO _ _))), (show (tagP k (placeT i e) (turnP k (placeT i e) b)).length = 16 from (GQ _ _ _))]) (AR 0 rfl (AN _)))) (B2 rfl)) fun w1 hw1 => ?_
 exact ⟨_, [], rfl, ⟨by first | rfl | simp [spl], rfl⟩, hw1.sub (by simp) (by simp)⟩
theorem seal_w (sb cb : Nat) (k : List UInt8) (i e : UInt64) (b : List UInt8) (w : World) (hk : k.length = 16) (hS : w.heap[sb]? = some (.cells (cu8 (encK k) ++ cu8 (tgK k) ++ cu8 (macL k ([101, 110, 116, 114, 117, 115, 116, 32, 116, 105, 99, 107, 101, 116] : List UInt8)) ++ cu8 (macL k ([101, 110, 116, 114, 117, 115, 116, 32, 108, 105, 110, 107] : List UInt8)) ++ [Ptr cb 0]).toArray 226 (0, 0))) (hC : w.heap[cb]? = some (.cells (cu8 (rkL (encK k)) ++ cu8 thereL ++ cu8 backL).toArray 255 (0, 0))) (hb : b.length = 32) (hG : GLs w) : Calls Tryd.prog 139 #[Ptr sb 0, U64 i, U64 e, .agg (cu8 b).toArray] w (Post w [] (fun v L => v = .tuple #[.agg ([U64 (sE i e)] ++ cu8 (sD k i e b) ++ cu8 (sT k i e b)).toArray, errV 50 (sealN i e)] ∧ L = [])) := by
 cases hrt : RightB i e with
 | true =>
  have e1 : sE i e = e := by unfold sE; rw [if_pos hrt]
  have e2 : sD k i e b = turnP k (placeT i e) b := by unfold sD; rw [if_pos hrt]
  have e3 : sT k i e b = tagP k (placeT i e) (turnP k (placeT i e) b) := by unfold sT; rw [if_pos hrt]
  have e4 : sealN i e = 0 := by unfold sealN; rw [if_pos hrt]
  rw [e1, e2, e3, e4]
  exact sealO_c sb cb k i e b w hk hS hC hb hrt hG
 | false =>
  have hn : ¬ RightB i e = true := by rw [hrt]; decide
  have e1 : sE i e = 0 := by unfold sE; rw [if_neg hn]
  have e2 : sD k i e b = zr8 32 := by unfold sD; rw [if_neg hn]
  have e3 : sT k i e b = zr8 16 := by unfold sT; rw [if_neg hn]
  have e4 : sealN i e = 1 := by unfold sealN; rw [if_neg hn]
  rw [e1, e2, e3, e4, errV_pos (by decide)]
  exact sealB_c sb cb k i e b w hk hS hC hb hrt
theorem rencK_c (k : List UInt8) (w : World) (hk : k.length = 16) (hGr : GLr w) (hGi : GLi w) : Calls Tryd.prog 188 #[.agg (cu8 k).toArray] w (Post w [] (fun v L => v = .agg (cu8 (encK k)).toArray ∧ L = [])) := by
 unfold encK
 exact renc6_c k w hk hGr hGi
theorem rtgK_c (k : List UInt8) (w : World) (hk : k.length = 16) (hGr : GLr w) (hGi : GLi w) : Calls Tryd.prog 189 #[.agg (cu8 k).toArray] w (Post w [] (fun v L => v = .agg (cu8 (tgK k)).toArray ∧ L = [])) := by
 unfold tgK
 exact rtag_c k w hk hGr hGi
theorem rturned_c (k : List UInt8) (i e : UInt64) (b : List UInt8) (w : World) (hk : k.length = 16) (hb : b.length = 32) (hGr : GLr w) (hGi : GLi w)  : Calls Tryd.prog 169 #[.agg (cu8 k).toArray, U64 i, U64 e, .agg (cu8 b).toArray] w (Post w [] (fun v L => v = .agg (cu8 (turnP k (placeT i e) b)).toArray ∧ L = [])) := by
 have hmx : maxLen = 9223372036854775807 := rfl
 refine enter w [] 25 [] [.agg (cu8 k).toArray, U64 i, U64 e, .agg (cu8 b).toArray] Tryd.func169 rfl rfl (by simp) (BR (by simp) (by simp) (by simp)) ?_
 show JC _ _ _ [(0, .agg (cu8 k).toArray), (1, U64 i), (2, U64 e), (3, .agg (cu8 b).toArray)] _
 refine AF (AB (AV (CG (.agg (cu8 k).toArray) (cu8 k) rfl (by first | rfl | simp)) rfl ?_))
 rintro v1 L1 ⟨nb1, hnb1, rfl, rfl⟩
 show JL _ _ _ _ ((4, Ptr nb1 0) :: _) [⟨nb1, cu8 k, 131, (0, 0)⟩]
 refine AV (CG (.agg (cu8 b).toArray) (cu8 b) rfl (by first | rfl | simp)) rfl ?_
 rintro v1 L1 ⟨nb2, hnb2, rfl, rfl⟩
 show JL _ _ _ _ ((7, Ptr nb2 0) :: _) [_, ⟨nb2, cu8 b, 159, (0, 0)⟩]
 refine AV (A7 _ (cu8 (zr8 32)) Tryd.zeroValue159 (by kernel_rfl)) rfl ?_
 rintro v1 L1 ⟨nb3, hnb3, rfl, rfl⟩
 show JL _ _ _ _ ((8, Ptr nb3 0) :: _) [_, _, ⟨nb3, cu8 (zr8 32), 159, (0, 0)⟩]
 refine AI (AC (AF (AB (AV (A7 _ (cu8 (zr8 16)) DF (by kernel_rfl)) rfl ?_))))
 rintro v1 L1 ⟨nb4, hnb4, rfl, rfl⟩
 show JL _ _ _ _ ((9, Ptr nb4 0) :: _) [_, _, _, ⟨nb4, cu8 (zr8 16), 27, (0, 0)⟩]
 refine AI (AC (AF (CT 25 3 [(0, Slc nb4 0 16 16), (1, U64 i), (2, U64 e)] BL rfl (by decide +kernel) ?_)))
 refine CU ⟨[], [0, 1, 2], [], [0, 1, 2], [3]⟩ 3 _ rfl rfl (by decide +kernel) rfl ⟨⟨_, rfl, AD rfl (B1 16 5 1 0 16 0 16 BF AM rfl rfl rfl (by omega) (by omega) (by omega) (by omega) (by omega) 16 (by omega))⟩, AU rfl rfl rfl, AU rfl rfl rfl, trivial⟩ rfl (AW rfl (CH 185 [U64 i, U64 e] _ (A4 _ Tryd.call185 rfl) (fun w1 hw1 => rplace_c i e w1))) ?_
 rintro v1 L1 ⟨_, ⟨nb5, sp1, cp1, rfl, rfl, hc1, hc2, hc3⟩, rfl⟩
 refine ⟨[], ?_⟩
 show DP _ _ _ _ _ _ _ _ [_, _, _, _, ⟨nb5, cu8 (placeT i e) ++ sp1, 5, (0, 0)⟩]
 have hl1 : (spl (zr8 16) 0 (placeT i e)).length = 16 := by rw [spl_len (by simp [(AP 16), (show (placeT i e).length = 12 from (DO _ _))])]; simp [(AP 16), (show (placeT i e).length = 12 from (DO _ _))]
 refine C2 ⟨[3], [0, 1, 2], [1, 2], [0], [4]⟩ 4 rfl rfl (by decide +kernel) rfl ⟨⟨_, rfl, AD rfl (B1 16 5 1 0 16 0 16 BF AM rfl rfl rfl (by omega) (by omega) (by omega) (by omega) (by omega) 16 (by omega))⟩, trivial⟩ rfl (AW rfl (GF 43 43 5 3 nb4 0 16 16 (cu8 (zr8 16)) 27 (some ⟨nb5, 0, none⟩) 12 cp1 12 (cu8 (placeT i e)) (cu8 (spl (zr8 16) 0 (placeT i e))) AK FK rfl rfl rfl rfl (by simp [(show (placeT i e).length = 12 from (DO _ _))]; try omega) (SrcAt.mem (AR 4 rfl (BE (AN _)))) (by simp [(AP 16)]; try omega) (by first | exact CD | exact CS | exact CR | (simp [cu8, cu32, cu64, Value.oneCell']; done)) (laySpl8 _ _ _ (by simp [(AP 16), (show (placeT i e).length = 12 from (DO _ _))])))) ?_
 show DP _ _ _ _ _ _ _ _ [_, _, _, ⟨nb4, cu8 (spl (zr8 16) 0 (placeT i e)), 27, (0, 0)⟩, _]
 refine DE ⟨[3, 4], [0, 1, 2], [0, 1, 2], [], []⟩ rfl rfl (by decide +kernel) rfl trivial ?_
 refine CC (F' := [(4, Ptr nb1 0), (7, Ptr nb2 0), (8, Ptr nb3 0), (9, Ptr nb4 0)]) (by kernel_rfl) ?_
 refine AC (AF (AB (AV (A7 _ (cu8 (zr8 32)) Tryd.zeroValue159 (by kernel_rfl)) rfl ?_)))
 rintro v1 L1 ⟨nb6, hnb6, rfl, rfl⟩
 show JL _ _ _ _ ((10, Ptr nb6 0) :: _) [_, _, _, _, _, ⟨nb6, cu8 (zr8 32), 159, (0, 0)⟩]
 refine AI (AC (AF ?_))
 have hs12 : spl (zr8 16) 0 (placeT i e) = placeT i e ++ zr8 4 := spl12 (DO i e)
 have hl12 : (placeT i e ++ zr8 4).length = 16 := ctr12 (DO i e)
 rw [hs12]
 clear hs12
 show JC _ _ _ _ [⟨nb1, cu8 k, 131, (0, 0)⟩, ⟨nb2, cu8 b, 159, (0, 0)⟩, ⟨nb3, cu8 (zr8 32), 159, (0, 0)⟩, ⟨nb4, cu8 (placeT i e ++ zr8 4), 27, (0, 0)⟩, ⟨nb5, cu8 (placeT i e) ++ sp1, 5, (0, 0)⟩, ⟨nb6, cu8 (zr8 32), 159, (0, 0)⟩]
 refine CT 25 5 [(0, Slc nb6 0 32 32), (1, .agg (cu8 k).toArray), (4, .agg (cu8 (placeT i e ++ zr8 4)).toArray), (5, Slc nb2 0 32 32)] BL rfl (by decide +kernel) ?_
 refine C2 ⟨[], [0, 1, 4, 5], [], [0, 1, 4, 5], [2]⟩ 2 rfl rfl (by decide +kernel) rfl ⟨⟨_, rfl, AD rfl (B1 32 5 1 0 32 0 32 DJ AM rfl rfl rfl (by omega) (by omega) (by omega) (by omega) (by omega) 32 (by omega))⟩, ⟨_, rfl, AD rfl (AL rfl (BH C7 CO (A8 hk) (AR 0 rfl (AN _))))⟩, ⟨_, rfl, AD rfl (AL rfl (BH BM AT (A8 hl12) (AR 3 rfl (AN _))))⟩, ⟨_, rfl, AD rfl (B1 32 5 1 0 32 0 32 DJ AM rfl rfl rfl (by omega) (by omega) (by omega) (by omega) (by omega) 32 (by omega))⟩, trivial⟩ rfl (AW rfl (AY 188 [.agg (cu8 k).toArray] (.agg (cu8 (encK k)).toArray) (A4 _ Tryd.call188 rfl) (fun w1 hw1 => rencK_c k w1 hk (GLr.at hw1 hGr) (GLi.at hw1 hGi)))) ?_
 show DP _ _ _ _ _ _ _ _ [_, _, _, _, _, _]
 refine CU ⟨[2], [0, 1, 4, 5], [1], [0, 4, 5], [3]⟩ 3 _ rfl rfl (by decide +kernel) rfl ⟨⟨_, rfl, AD rfl (B1 32 5 1 0 32 0 32 DJ AM rfl rfl rfl (by omega) (by omega) (by omega) (by omega) (by omega) 32 (by omega))⟩, ⟨_, rfl, AD rfl (AL rfl (BH BM AT (A8 hl12) (AR 3 rfl (AN _))))⟩, ⟨_, rfl, AD rfl (B1 32 5 1 0 32 0 32 DJ AM rfl rfl rfl (by omega) (by omega) (by omega) (by omega) (by omega) 32 (by omega))⟩, trivial⟩ rfl (AW rfl (CH 187 [.agg (cu8 (encK k)).toArray] _ (A4 _ Tryd.call187 rfl) (fun w1 hw1 => rkeys_c (encK k) w1 (GB _)))) ?_
 rintro v1 L1 ⟨_, ⟨nb7, sp2, cp2, hc4, hs1, rfl, rfl⟩, rfl⟩
 refine ⟨[], ?_⟩
 show DP _ _ _ _ _ _ _ _ [_, _, _, _, _, _, ⟨nb7, cu8 (rkeysL (encK k)) ++ sp2, 5, (0, 0)⟩]
 refine CU ⟨[2, 3], [0, 1, 4, 5], [1], [0, 4, 5], [6]⟩ 6 _ rfl rfl (by decide +kernel) rfl ⟨⟨_, rfl, AD rfl (B1 32 5 1 0 32 0 32 DJ AM rfl rfl rfl (by omega) (by omega) (by omega) (by omega) (by omega) 32 (by omega))⟩, ⟨_, rfl, AD rfl (AL rfl (BH BM AT (A8 hl12) (AR 3 rfl (AN _))))⟩, ⟨_, rfl, AD rfl (B1 32 5 1 0 32 0 32 DJ AM rfl rfl rfl (by omega) (by omega) (by omega) (by omega) (by omega) 32 (by omega))⟩, trivial⟩ rfl (AW rfl (CH 186 [Slc nb7 0 176 cp2, .agg (cu8 (placeT i e ++ zr8 4)).toArray, Slc nb2 0 32 32] _ (A4 _ Tryd.call186 rfl) (fun w1 hw1 => crturn_c (rkeysL (encK k)) (placeT i e ++ zr8 4) b nb7 cp2 32 32 (some ⟨nb2, 0, none⟩) w1 hl12 (by omega) (by omega) hb (RdB.of hw1 (AR 1 rfl (AN _)) (by simp)) (rkeysL_len (encK k) (GB _)) (RdA.of hw1 (AR 6 rfl (BE (AN _))) (by simp [(rkeysL_len (encK k) (GB _))]))))) ?_
 rintro v1 L1 ⟨_, ⟨nb8, sp3, cp3, rfl, rfl, hc5, hc6, hc7⟩, rfl⟩
 refine ⟨[], ?_⟩
 show DP _ _ _ _ _ _ _ _ [_, _, _, _, _, _, _, ⟨nb8, cu8 (xorN (strT (rBlk (rkeysL (encK k)) (placeT i e ++ zr8 4)) 32) b 32) ++ sp3, 5, (0, 0)⟩]
 refine C2 ⟨[2, 3, 6], [0, 1, 4, 5], [1, 4, 5], [0], [7]⟩ 7 rfl rfl (by decide +kernel) rfl ⟨⟨_, rfl, AD rfl (B1 32 5 1 0 32 0 32 DJ AM rfl rfl rfl (by omega) (by omega) (by omega) (by omega) (by omega) 32 (by omega))⟩, trivial⟩ rfl (AW rfl (GF 43 43 5 5 nb6 0 32 32 (cu8 (zr8 32)) 159 (some ⟨nb8, 0, none⟩) 32 cp3 32 (cu8 (xorN (strT (rBlk (rkeysL (encK k)) (placeT i e ++ zr8 4)) 32) b 32)) (cu8 (xorN (strT (rBlk (rkeysL (encK k)) (placeT i e ++ zr8 4)) 32) b 32)) AK FK rfl rfl rfl rfl (by simp [((GL _ _ _).trans (GG (fun k => GT hl12 k) 32))]; try omega) (SrcAt.mem (AR 7 rfl (BE (AN _)))) (by simp [(AP 32)]; try omega) (by first | exact CD | exact CS | exact CR | (simp [cu8, cu32, cu64, Value.oneCell']; done)) (A6 (by simp [(AP 32), ((GL _ _ _).trans (GG (fun k => GT hl12 k) 32))])))) ?_
 show DP _ _ _ _ _ _ _ _ [_, _, _, _, _, ⟨nb6, cu8 (xorN (strT (rBlk (rkeysL (encK k)) (placeT i e ++ zr8 4)) 32) b 32), 159, (0, 0)⟩, _, _]
 refine DE ⟨[2, 3, 6, 7], [0, 1, 4, 5], [0, 1, 4, 5], [], []⟩ rfl rfl (by decide +kernel) rfl trivial ?_
 refine CC (F' := [(8, Ptr nb3 0), (10, Ptr nb6 0)]) (by kernel_rfl) ?_
 refine AC (AF (AB (AA (.agg (cu8 (xorN (strT (rBlk (rkeysL (encK k)) (placeT i e ++ zr8 4)) 32) b 32)).toArray) (AL rfl (BH D3 CF (A8 ((GL _ _ _).trans (GG (fun k => GT hl12 k) 32))) (AR 5 rfl (AN _)))) rfl ?_)))
 refine A0 (AX 2 nb3 32 (cu8 (zr8 32)) 159 (cu8 (xorN (strT (rBlk (rkeysL (encK k)) (placeT i e ++ zr8 4)) 32) b 32)) rfl rfl rfl CF (A8 ((GL _ _ _).trans (GG (fun k => GT hl12 k) 32))) (by first | exact CD | exact CS | exact CR | (simp [cu8, cu32, cu64, Value.oneCell']; done)) (by simp [(AP 32)]) (A6 (by simp [(AP 32), ((GL _ _ _).trans (GG (fun k => GT hl12 k) 32))]))) rfl ?_
 show JL _ _ _ _ _ [_, _, ⟨nb3, cu8 (xorN (strT (rBlk (rkeysL (encK k)) (placeT i e ++ zr8 4)) 32) b 32), 159, (0, 0)⟩, _, _, _, _, _]
 refine AI (AC (BO (CA [false, false, true, false, false, false, false, false] ?_)))
 show JQ _ _ _ _ [_]
 refine BQ (.agg (cu8 (xorN (strT (rBlk (rkeysL (encK k)) (placeT i e ++ zr8 4)) 32) b 32)).toArray) (res1 Tryd.results169 (DY rfl (BH D3 CF (A8 ((GL _ _ _).trans (GG (fun k => GT hl12 k) 32))) (AR 0 rfl (AN _))))) fun w1 hw1 => ?_
 exact ⟨_, [], rfl, ⟨by rw [turnP_ref k b (DO i e)], rfl⟩, hw1.sub (by simp) (by simp)⟩
theorem rtagP_c (k : List UInt8) (i e : UInt64) (d : List UInt8) (w : World) (hk : k.length = 16) (hd : d.length = 32) (hGr : GLr w) (hGi : GLi w)  : Calls Tryd.prog 170 #[.agg (cu8 k).toArray, U64 i, U64 e, .agg (cu8 d).toArray] w (Post w [] (fun v L => v = .agg (cu8 (tagP k (placeT i e) d)).toArray ∧ L = [])) := by
 have hmx : maxLen = 9223372036854775807 := rfl
 refine enter w [] 25 [] [.agg (cu8 k).toArray, U64 i, U64 e, .agg (cu8 d).toArray] Tryd.func170 rfl rfl (by simp) (BR (by simp) (by simp) (by simp)) ?_
 show JC _ _ _ [(0, .agg (cu8 k).toArray), (1, U64 i), (2, U64 e), (3, .agg (cu8 d).toArray)] _
 refine AF (AB (AV (CG (.agg (cu8 k).toArray) (cu8 k) rfl (by first | rfl | simp)) rfl ?_))
 rintro v1 L1 ⟨nb1, hnb1, rfl, rfl⟩
 show JL _ _ _ _ ((4, Ptr nb1 0) :: _) [⟨nb1, cu8 k, 131, (0, 0)⟩]
 refine AV (CG (.agg (cu8 d).toArray) (cu8 d) rfl (by first | rfl | simp)) rfl ?_
 rintro v1 L1 ⟨nb2, hnb2, rfl, rfl⟩
 show JL _ _ _ _ ((7, Ptr nb2 0) :: _) [_, ⟨nb2, cu8 d, 159, (0, 0)⟩]
 refine AV (A7 _ (cu8 (zr8 16)) DF (by kernel_rfl)) rfl ?_
 rintro v1 L1 ⟨nb3, hnb3, rfl, rfl⟩
 show JL _ _ _ _ ((8, Ptr nb3 0) :: _) [_, _, ⟨nb3, cu8 (zr8 16), 27, (0, 0)⟩]
 refine AI (AC (AF (AB (AA (.agg (cu8 k).toArray) (AL rfl (BH C7 CO (A8 hk) (AR 0 rfl (AN _)))) rfl ?_))))
 refine A0 (AY 189 [.agg (cu8 k).toArray] (.agg (cu8 (tgK k)).toArray) (A4 _ Tryd.call189 rfl) (fun w1 hw1 => rtgK_c k w1 hk (GLr.at hw1 hGr) (GLi.at hw1 hGi))) rfl ?_
 show JL _ _ _ _ ((13, .agg (cu8 (tgK k)).toArray) :: _) [_, _, _]
 refine AV (A7 _ (cu8 (zr8 32)) C6 (by kernel_rfl)) rfl ?_
 rintro v1 L1 ⟨nb4, hnb4, rfl, rfl⟩
 show JL _ _ _ _ ((9, Ptr nb4 0) :: _) [_, _, _, ⟨nb4, cu8 (zr8 32), 54, (0, 0)⟩]
 refine A0 (AX 3 nb4 32 (cu8 (zr8 32)) 54 (cu8 (tgK k)) rfl rfl rfl CK (A8 (tgK_len _)) (by first | exact CD | exact CS | exact CR | (simp [cu8, cu32, cu64, Value.oneCell']; done)) (by simp [(AP 32)]) (A6 (by simp [(AP 32), (tgK_len _)]))) rfl ?_
 show JL _ _ _ _ _ [_, _, _, ⟨nb4, cu8 (tgK k), 54, (0, 0)⟩]
 refine AI (AC (AF (JC_cut (ι := Nat) (fun ynb0 => [(8, Ptr nb3 0), (10, Ptr ynb0 0)]) (fun ynb0 => [⟨nb3, cu8 (zr8 16), 27, (0, 0)⟩, ⟨ynb0, cu8 (macL (tgK k) ((placeT i e) ++ d)), 54, (0, 0)⟩]) (fun ynb0 => True) ?_ ?_)))
 ·
  refine CT 25 6 [(0, Slc nb4 0 32 32), (1, U64 i), (2, U64 e), (4, Slc nb2 0 32 32)] BL rfl (by decide +kernel) ?_
  refine DP_two ⟨[], [0, 1, 2, 4], [], [0, 1, 2, 4], [3, 7]⟩ 3 7 _ _ rfl rfl (by decide +kernel) rfl ⟨⟨_, rfl, AD rfl (B1 32 5 1 0 32 0 32 B4 AM rfl rfl rfl (by omega) (by omega) (by omega) (by omega) (by omega) 32 (by omega))⟩, AU rfl rfl rfl, AU rfl rfl rfl, ⟨_, rfl, AD rfl (B1 32 5 1 0 32 0 32 DJ AM rfl rfl rfl (by omega) (by omega) (by omega) (by omega) (by omega) 32 (by omega))⟩, trivial⟩ rfl rfl (AW rfl (CH 185 [U64 i, U64 e] _ (A4 _ Tryd.call185 rfl) (fun w1 hw1 => rplace_c i e w1))) (AW rfl (A7 _ (cu8 (zr8 32)) C6 (by kernel_rfl))) ?_ ?_
  ·
   rintro v1 L1 ⟨_, ⟨nb5, sp1, cp1, rfl, rfl, hc1, hc2, hc3⟩, rfl⟩
   refine ⟨[], ?_⟩
   show DP _ _ _ _ _ _ _ _ [_, _, _, _, ⟨nb5, cu8 (placeT i e) ++ sp1, 5, (0, 0)⟩]
   refine DP_two ⟨[3], [0, 1, 2, 4], [1, 2], [0, 4], [5, 7]⟩ 5 7 _ _ rfl rfl (by decide +kernel) rfl ⟨⟨_, rfl, AD rfl (B1 32 5 1 0 32 0 32 B4 AM rfl rfl rfl (by omega) (by omega) (by omega) (by omega) (by omega) 32 (by omega))⟩, ⟨_, rfl, AD rfl (B1 32 5 1 0 32 0 32 DJ AM rfl rfl rfl (by omega) (by omega) (by omega) (by omega) (by omega) 32 (by omega))⟩, trivial⟩ rfl rfl (AW rfl (DH 43 5 [false, false, false, false, true] (Slc nb5 0 12 cp1) 12 (placeT i e) d (some ⟨nb2, 0, none⟩) 32 32 44 AK C4 rfl (.inr ⟨nb5, sp1, cp1, rfl, rfl, (by first | exact (show (placeT i e).length = 12 from (DO _ _)) | simp [(show (placeT i e).length = 12 from (DO _ _))]), hc1, (by omega), (by omega)⟩) rfl (by first | exact hd | simp [hd]; try omega) (SrcAt.mem (AR 1 rfl (AN _))) (by omega) (by unfold maxLen; omega) (by omega))) (AW rfl (A7 _ (cu8 (zr8 32)) C6 (by kernel_rfl))) ?_ ?_
   ·
    rintro v1 L1 ⟨nb7, sp2, cp2, hg1, rfl, rfl, ha1, ha2, ha3, ha4⟩
    refine ⟨[], ?_⟩
    show DP _ _ _ _ _ _ _ _ [_, _, _, _, ⟨nb7, cu8 ((placeT i e) ++ d) ++ sp2, 5, (0, 0)⟩]
    refine DP_two ⟨[3, 5], [0, 1, 2, 4], [1, 2, 4], [0], [6, 7]⟩ 6 7 _ _ rfl rfl (by decide +kernel) rfl ⟨⟨_, rfl, AD rfl (B1 32 5 1 0 32 0 32 B4 AM rfl rfl rfl (by omega) (by omega) (by omega) (by omega) (by omega) 32 (by omega))⟩, trivial⟩ rfl rfl (AW rfl (AY 92 [Slc nb4 0 32 32, Slc nb7 0 44 cp2] (.agg (cu8 (macL (tgK k) ((placeT i e) ++ d))).toArray) (A4 _ Tryd.call92 rfl) (fun w1 hw1 => rmac_c (some ⟨nb4, 0, none⟩) 32 32 (tgK k) (some ⟨nb7, 0, none⟩) 44 cp2 ((placeT i e) ++ d) w1 (tgK_len _) (fun h => by cases h) (by omega) (RdB.of hw1 (AR 3 rfl (AN _)) (by simp)) ha1 (by omega) (RdB.of hw1 (AR 4 rfl (BE (AN _))) (by simp)) (GLr.at hw1 hGr) (GLi.at hw1 hGi)))) (AW rfl (A7 _ (cu8 (zr8 32)) C6 (by kernel_rfl))) ?_ ?_
    ·
     rintro v1 L1 ⟨rfl, rfl⟩
     refine ⟨[], ?_⟩
     show DP _ _ _ _ _ _ _ _ [_, _, _, _, _]
     refine CU ⟨[3, 5, 6], [0, 1, 2, 4], [0, 1, 2, 4], [], [7]⟩ 7 _ rfl rfl (by decide +kernel) rfl trivial rfl (AW rfl (A7 _ (cu8 (zr8 32)) C6 (by kernel_rfl))) ?_
     rintro v1 L1 ⟨nb10, hnb10, rfl, rfl⟩
     refine ⟨[], ?_⟩
     show DP _ _ _ _ _ _ _ _ [_, _, _, _, _, ⟨nb10, cu8 (zr8 32), 54, (0, 0)⟩]
     refine C2 ⟨[3, 5, 6, 7], [0, 1, 2, 4], [0, 1, 2, 4], [], [8]⟩ 8 rfl rfl (by decide +kernel) rfl trivial rfl (AW rfl (AX 5 nb10 32 (cu8 (zr8 32)) 54 (cu8 (macL (tgK k) ((placeT i e) ++ d))) rfl rfl rfl CK (A8 (CB _ _)) (by first | exact CD | exact CS | exact CR | (simp [cu8, cu32, cu64, Value.oneCell']; done)) (by simp [(AP 32)]) (A6 (by simp [(AP 32), (CB _ _)])))) ?_
     show DP _ _ _ _ _ _ _ _ [_, _, _, _, _, ⟨nb10, cu8 (macL (tgK k) ((placeT i e) ++ d)), 54, (0, 0)⟩]
     refine DE ⟨[3, 5, 6, 7, 8], [0, 1, 2, 4], [0, 1, 2, 4], [], []⟩ rfl rfl (by decide +kernel) rfl trivial ?_
     refine CC (F' := [(10, Ptr nb10 0), (8, Ptr nb3 0)]) (by kernel_rfl) ?_
     refine GP [2, 5] (by decide) ?_
     show JQ _ _ _ _ [_, _]
     refine JQ_cut nb10 trivial (Sub.all rfl) rfl
    ·
     rintro v1 L1 ⟨nb9, hnb9, rfl, rfl⟩
     refine ⟨[], ?_⟩
     show DP _ _ _ _ _ _ _ _ [_, _, _, _, _, ⟨nb9, cu8 (zr8 32), 54, (0, 0)⟩]
     refine C2 ⟨[3, 5, 7], [0, 1, 2, 4], [1, 2, 4], [0], [6]⟩ 6 rfl rfl (by decide +kernel) rfl ⟨⟨_, rfl, AD rfl (B1 32 5 1 0 32 0 32 B4 AM rfl rfl rfl (by omega) (by omega) (by omega) (by omega) (by omega) 32 (by omega))⟩, trivial⟩ rfl (AW rfl (AY 92 [Slc nb4 0 32 32, Slc nb7 0 44 cp2] (.agg (cu8 (macL (tgK k) ((placeT i e) ++ d))).toArray) (A4 _ Tryd.call92 rfl) (fun w1 hw1 => rmac_c (some ⟨nb4, 0, none⟩) 32 32 (tgK k) (some ⟨nb7, 0, none⟩) 44 cp2 ((placeT i e) ++ d) w1 (tgK_len _) (fun h => by cases h) (by omega) (RdB.of hw1 (AR 3 rfl (AN _)) (by simp)) ha1 (by omega) (RdB.of hw1 (AR 4 rfl (BE (AN _))) (by simp)) (GLr.at hw1 hGr) (GLi.at hw1 hGi)))) ?_
     show DP _ _ _ _ _ _ _ _ [_, _, _, _, _, _]
     refine C2 ⟨[3, 5, 7, 6], [0, 1, 2, 4], [0, 1, 2, 4], [], [8]⟩ 8 rfl rfl (by decide +kernel) rfl trivial rfl (AW rfl (AX 5 nb9 32 (cu8 (zr8 32)) 54 (cu8 (macL (tgK k) ((placeT i e) ++ d))) rfl rfl rfl CK (A8 (CB _ _)) (by first | exact CD | exact CS | exact CR | (simp [cu8, cu32, cu64, Value.oneCell']; done)) (by simp [(AP 32)]) (A6 (by simp [(AP 32), (CB _ _)])))) ?_
     show DP _ _ _ _ _ _ _ _ [_, _, _, _, _, ⟨nb9, cu8 (macL (tgK k) ((placeT i e) ++ d)), 54, (0, 0)⟩]
     refine DE ⟨[3, 5, 7, 6, 8], [0, 1, 2, 4], [0, 1, 2, 4], [], []⟩ rfl rfl (by decide +kernel) rfl trivial ?_
     refine CC (F' := [(10, Ptr nb9 0), (8, Ptr nb3 0)]) (by kernel_rfl) ?_
     refine GP [2, 5] (by decide) ?_
     show JQ _ _ _ _ [_, _]
     refine JQ_cut nb9 trivial (Sub.all rfl) rfl
   ·
    rintro v1 L1 ⟨nb8, hnb8, rfl, rfl⟩
    refine ⟨[], ?_⟩
    show DP _ _ _ _ _ _ _ _ [_, _, _, _, _, ⟨nb8, cu8 (zr8 32), 54, (0, 0)⟩]
    refine CU ⟨[3, 7], [0, 1, 2, 4], [1, 2], [0, 4], [5]⟩ 5 _ rfl rfl (by decide +kernel) rfl ⟨⟨_, rfl, AD rfl (B1 32 5 1 0 32 0 32 B4 AM rfl rfl rfl (by omega) (by omega) (by omega) (by omega) (by omega) 32 (by omega))⟩, ⟨_, rfl, AD rfl (B1 32 5 1 0 32 0 32 DJ AM rfl rfl rfl (by omega) (by omega) (by omega) (by omega) (by omega) 32 (by omega))⟩, trivial⟩ rfl (AW rfl (DH 43 5 [false, false, false, false, true, false] (Slc nb5 0 12 cp1) 12 (placeT i e) d (some ⟨nb2, 0, none⟩) 32 32 44 AK C4 rfl (.inr ⟨nb5, sp1, cp1, rfl, rfl, (by first | exact (show (placeT i e).length = 12 from (DO _ _)) | simp [(show (placeT i e).length = 12 from (DO _ _))]), hc1, (by omega), (by omega)⟩) rfl (by first | exact hd | simp [hd]; try omega) (SrcAt.mem (AR 1 rfl (AN _))) (by omega) (by unfold maxLen; omega) (by omega))) ?_
    rintro v1 L1 ⟨nb11, sp3, cp3, hg2, rfl, rfl, ha5, ha6, ha7, ha8⟩
    refine ⟨[], ?_⟩
    show DP _ _ _ _ _ _ _ _ [_, _, _, _, _, ⟨nb11, cu8 ((placeT i e) ++ d) ++ sp3, 5, (0, 0)⟩]
    refine C2 ⟨[3, 7, 5], [0, 1, 2, 4], [1, 2, 4], [0], [6]⟩ 6 rfl rfl (by decide +kernel) rfl ⟨⟨_, rfl, AD rfl (B1 32 5 1 0 32 0 32 B4 AM rfl rfl rfl (by omega) (by omega) (by omega) (by omega) (by omega) 32 (by omega))⟩, trivial⟩ rfl (AW rfl (AY 92 [Slc nb4 0 32 32, Slc nb11 0 44 cp3] (.agg (cu8 (macL (tgK k) ((placeT i e) ++ d))).toArray) (A4 _ Tryd.call92 rfl) (fun w1 hw1 => rmac_c (some ⟨nb4, 0, none⟩) 32 32 (tgK k) (some ⟨nb11, 0, none⟩) 44 cp3 ((placeT i e) ++ d) w1 (tgK_len _) (fun h => by cases h) (by omega) (RdB.of hw1 (AR 3 rfl (AN _)) (by simp)) ha5 (by omega) (RdB.of hw1 (AR 5 rfl (BE (AN _))) (by simp)) (GLr.at hw1 hGr) (GLi.at hw1 hGi)))) ?_
    show DP _ _ _ _ _ _ _ _ [_, _, _, _, _, _]
    refine C2 ⟨[3, 7, 5, 6], [0, 1, 2, 4], [0, 1, 2, 4], [], [8]⟩ 8 rfl rfl (by decide +kernel) rfl trivial rfl (AW rfl (AX 4 nb8 32 (cu8 (zr8 32)) 54 (cu8 (macL (tgK k) ((placeT i e) ++ d))) rfl rfl rfl CK (A8 (CB _ _)) (by first | exact CD | exact CS | exact CR | (simp [cu8, cu32, cu64, Value.oneCell']; done)) (by simp [(AP 32)]) (A6 (by simp [(AP 32), (CB _ _)])))) ?_
    show DP _ _ _ _ _ _ _ _ [_, _, _, _, ⟨nb8, cu8 (macL (tgK k) ((placeT i e) ++ d)), 54, (0, 0)⟩, _]
    refine DE ⟨[3, 7, 5, 6, 8], [0, 1, 2, 4], [0, 1, 2, 4], [], []⟩ rfl rfl (by decide +kernel) rfl trivial ?_
    refine CC (F' := [(10, Ptr nb8 0), (8, Ptr nb3 0)]) (by kernel_rfl) ?_
    refine GP [2, 4] (by decide) ?_
    show JQ _ _ _ _ [_, _]
    refine JQ_cut nb8 trivial (Sub.all rfl) rfl
  ·
   rintro v1 L1 ⟨nb6, hnb6, rfl, rfl⟩
   refine ⟨[], ?_⟩
   show DP _ _ _ _ _ _ _ _ [_, _, _, _, ⟨nb6, cu8 (zr8 32), 54, (0, 0)⟩]
   refine CU ⟨[7], [0, 1, 2, 4], [], [0, 1, 2, 4], [3]⟩ 3 _ rfl rfl (by decide +kernel) rfl ⟨⟨_, rfl, AD rfl (B1 32 5 1 0 32 0 32 B4 AM rfl rfl rfl (by omega) (by omega) (by omega) (by omega) (by omega) 32 (by omega))⟩, AU rfl rfl rfl, AU rfl rfl rfl, ⟨_, rfl, AD rfl (B1 32 5 1 0 32 0 32 DJ AM rfl rfl rfl (by omega) (by omega) (by omega) (by omega) (by omega) 32 (by omega))⟩, trivial⟩ rfl (AW rfl (CH 185 [U64 i, U64 e] _ (A4 _ Tryd.call185 rfl) (fun w1 hw1 => rplace_c i e w1))) ?_
   rintro v1 L1 ⟨_, ⟨nb12, sp4, cp4, rfl, rfl, hc4, hc5, hc6⟩, rfl⟩
   refine ⟨[], ?_⟩
   show DP _ _ _ _ _ _ _ _ [_, _, _, _, _, ⟨nb12, cu8 (placeT i e) ++ sp4, 5, (0, 0)⟩]
   refine CU ⟨[7, 3], [0, 1, 2, 4], [1, 2], [0, 4], [5]⟩ 5 _ rfl rfl (by decide +kernel) rfl ⟨⟨_, rfl, AD rfl (B1 32 5 1 0 32 0 32 B4 AM rfl rfl rfl (by omega) (by omega) (by omega) (by omega) (by omega) 32 (by omega))⟩, ⟨_, rfl, AD rfl (B1 32 5 1 0 32 0 32 DJ AM rfl rfl rfl (by omega) (by omega) (by omega) (by omega) (by omega) 32 (by omega))⟩, trivial⟩ rfl (AW rfl (DH 43 5 [false, false, false, false, false, true] (Slc nb12 0 12 cp4) 12 (placeT i e) d (some ⟨nb2, 0, none⟩) 32 32 44 AK C4 rfl (.inr ⟨nb12, sp4, cp4, rfl, rfl, (by first | exact (show (placeT i e).length = 12 from (DO _ _)) | simp [(show (placeT i e).length = 12 from (DO _ _))]), hc4, (by omega), (by omega)⟩) rfl (by first | exact hd | simp [hd]; try omega) (SrcAt.mem (AR 1 rfl (AN _))) (by omega) (by unfold maxLen; omega) (by omega))) ?_
   rintro v1 L1 ⟨nb13, sp5, cp5, hg3, rfl, rfl, ha9, ha10, ha11, ha12⟩
   refine ⟨[], ?_⟩
   show DP _ _ _ _ _ _ _ _ [_, _, _, _, _, ⟨nb13, cu8 ((placeT i e) ++ d) ++ sp5, 5, (0, 0)⟩]
   refine C2 ⟨[7, 3, 5], [0, 1, 2, 4], [1, 2, 4], [0], [6]⟩ 6 rfl rfl (by decide +kernel) rfl ⟨⟨_, rfl, AD rfl (B1 32 5 1 0 32 0 32 B4 AM rfl rfl rfl (by omega) (by omega) (by omega) (by omega) (by omega) 32 (by omega))⟩, trivial⟩ rfl (AW rfl (AY 92 [Slc nb4 0 32 32, Slc nb13 0 44 cp5] (.agg (cu8 (macL (tgK k) ((placeT i e) ++ d))).toArray) (A4 _ Tryd.call92 rfl) (fun w1 hw1 => rmac_c (some ⟨nb4, 0, none⟩) 32 32 (tgK k) (some ⟨nb13, 0, none⟩) 44 cp5 ((placeT i e) ++ d) w1 (tgK_len _) (fun h => by cases h) (by omega) (RdB.of hw1 (AR 3 rfl (AN _)) (by simp)) ha9 (by omega) (RdB.of hw1 (AR 5 rfl (BE (AN _))) (by simp)) (GLr.at hw1 hGr) (GLi.at hw1 hGi)))) ?_
   show DP _ _ _ _ _ _ _ _ [_, _, _, _, _, _]
   refine C2 ⟨[7, 3, 5, 6], [0, 1, 2, 4], [0, 1, 2, 4], [], [8]⟩ 8 rfl rfl (by decide +kernel) rfl trivial rfl (AW rfl (AX 4 nb6 32 (cu8 (zr8 32)) 54 (cu8 (macL (tgK k) ((placeT i e) ++ d))) rfl rfl rfl CK (A8 (CB _ _)) (by first | exact CD | exact CS | exact CR | (simp [cu8, cu32, cu64, Value.oneCell']; done)) (by simp [(AP 32)]) (A6 (by simp [(AP 32), (CB _ _)])))) ?_
   show DP _ _ _ _ _ _ _ _ [_, _, _, _, ⟨nb6, cu8 (macL (tgK k) ((placeT i e) ++ d)), 54, (0, 0)⟩, _]
   refine DE ⟨[7, 3, 5, 6, 8], [0, 1, 2, 4], [0, 1, 2, 4], [], []⟩ rfl rfl (by decide +kernel) rfl trivial ?_
   refine CC (F' := [(10, Ptr nb6 0), (8, Ptr nb3 0)]) (by kernel_rfl) ?_
   refine GP [2, 4] (by decide) ?_
   show JQ _ _ _ _ [_, _]
   refine JQ_cut nb6 trivial (Sub.all rfl) rfl
 ·
  rintro ynb0 _
  show JQ _ _ _ [(8, Ptr nb3 0), (10, Ptr ynb0 0)] [⟨nb3, cu8 (zr8 16), 27, (0, 0)⟩, ⟨ynb0, cu8 (macL (tgK k) ((placeT i e) ++ d)), 54, (0, 0)⟩]
  refine AC (AF (AB (AV (A7 _ (cu8 (zr8 16)) DF (by kernel_rfl)) rfl ?_)))
  rintro v1 L1 ⟨nb14, hnb14, rfl, rfl⟩
  show JL _ _ _ _ ((11, Ptr nb14 0) :: _) [_, _, ⟨nb14, cu8 (zr8 16), 27, (0, 0)⟩]
  refine AI (AC (AF (CT 25 2 [(0, Slc nb14 0 16 16), (1, Slc ynb0 0 32 32)] BL rfl (by decide +kernel) ?_)))
  have hl1 : (mid (macL (tgK k) ((placeT i e) ++ d)) 0 16).length = 16 := D8 (by rw [(CB _ _)]; omega)
  refine C2 ⟨[], [0, 1], [], [0, 1], [2]⟩ 2 rfl rfl (by decide +kernel) rfl ⟨⟨_, rfl, AD rfl (B1 16 5 1 0 16 0 16 BF AM rfl rfl rfl (by omega) (by omega) (by omega) (by omega) (by omega) 16 (by omega))⟩, ⟨_, rfl, AD rfl (B1 32 5 1 0 32 0 32 B4 AM rfl rfl rfl (by omega) (by omega) (by omega) (by omega) (by omega) 32 (by omega))⟩, trivial⟩ rfl (AW rfl (GF 43 43 5 2 nb14 0 16 16 (cu8 (zr8 16)) 27 (some ⟨ynb0, 0, none⟩) 32 32 16 (cu8 (mid (macL (tgK k) ((placeT i e) ++ d)) 0 16)) (cu8 (mid (macL (tgK k) ((placeT i e) ++ d)) 0 16)) AK FK rfl rfl rfl (by rfl) (by simp [hl1]; try omega) (SrcAt.mem (AR 1 rfl (FB 0 16 (by rw [(CB _ _)]; omega)))) (by simp [(AP 16)]; try omega) (by first | exact CD | exact CS | exact CR | (simp [cu8, cu32, cu64, Value.oneCell']; done)) (A6 (by simp [(AP 16), hl1])))) ?_
  show DP _ _ _ _ _ _ _ _ [_, _, ⟨nb14, cu8 (mid (macL (tgK k) ((placeT i e) ++ d)) 0 16), 27, (0, 0)⟩]
  refine DE ⟨[2], [0, 1], [0, 1], [], []⟩ rfl rfl (by decide +kernel) rfl trivial ?_
  refine CC (F' := [(8, Ptr nb3 0), (11, Ptr nb14 0)]) (by kernel_rfl) ?_
  refine AC (AF (AB (AA (.agg (cu8 (mid (macL (tgK k) ((placeT i e) ++ d)) 0 16)).toArray) (AL rfl (BH BM AT (A8 hl1) (AR 2 rfl (AN _)))) rfl ?_)))
  refine A0 (AX 0 nb3 16 (cu8 (zr8 16)) 27 (cu8 (mid (macL (tgK k) ((placeT i e) ++ d)) 0 16)) rfl rfl rfl AT (A8 hl1) (by first | exact CD | exact CS | exact CR | (simp [cu8, cu32, cu64, Value.oneCell']; done)) (by simp [(AP 16)]) (A6 (by simp [(AP 16), hl1]))) rfl ?_
  show JL _ _ _ _ _ [⟨nb3, cu8 (mid (macL (tgK k) ((placeT i e) ++ d)) 0 16), 27, (0, 0)⟩, _, _]
  refine AI (AC (BO (CA [true, false, false] ?_)))
  show JQ _ _ _ _ [_]
  refine BQ (.agg (cu8 (mid (macL (tgK k) ((placeT i e) ++ d)) 0 16)).toArray) (res1 Tryd.results170 (DY rfl (BH BM AT (A8 hl1) (AR 0 rfl (AN _))))) fun w1 hw1 => ?_
  exact ⟨_, [], rfl, ⟨by first | rfl | (rw [tagP]; done), rfl⟩, hw1.sub (by simp) (by simp)⟩
theorem rsealB_c (k : List UInt8) (i e : UInt64) (b : List UInt8)  (w : World) (hk : k.length = 16) (hb : b.length = 32) (hrt : RightB i e = false)  : Calls Tryd.prog 142 #[.agg (cu8 k).toArray, U64 i, U64 e, .agg (cu8 b).toArray] w (Post w [] (fun v L => v = .tuple #[.agg ([U64 0] ++ cu8 (zr8 32) ++ cu8 (zr8 16)).toArray, .bool false] ∧ L = [])) := by
 refine enter w [] 29 [] [.agg (cu8 k).toArray, U64 i, U64 e, .agg (cu8 b).toArray] Tryd.func142 rfl rfl (by simp) (BR (by simp) (by simp) (by simp)) ?_
 show JC _ _ _ [(0, .agg (cu8 k).toArray), (1, U64 i), (2, U64 e), (3, .agg (cu8 b).toArray)] _
 refine AF (AB (AV (CG (.agg (cu8 k).toArray) (cu8 k) rfl (by first | rfl | simp)) rfl ?_))
 rintro v1 L1 ⟨nb1, hnb1, rfl, rfl⟩
 show JL _ _ _ _ ((4, Ptr nb1 0) :: _) [⟨nb1, cu8 k, 131, (0, 0)⟩]
 refine AV (CG (.agg (cu8 b).toArray) (cu8 b) rfl (by first | rfl | simp)) rfl ?_
 rintro v1 L1 ⟨nb2, hnb2, rfl, rfl⟩
 show JL _ _ _ _ ((7, Ptr nb2 0) :: _) [_, ⟨nb2, cu8 b, 159, (0, 0)⟩]
 refine AV (A7 _ ([U64 0] ++ cu8 (zr8 32) ++ cu8 (zr8 16)) EI (by kernel_rfl)) rfl ?_
 rintro v1 L1 ⟨nb3, hnb3, rfl, rfl⟩
 show JL _ _ _ _ ((8, Ptr nb3 0) :: _) [_, _, ⟨nb3, [U64 0] ++ cu8 (zr8 32) ++ cu8 (zr8 16), 164, (0, 0)⟩]
 refine AA _ (AE rfl) rfl ?_
 refine AI (AC (AF (AF (AB (AA _ (AG rfl) rfl ?_)))))
 refine AA _ (AG rfl) rfl ?_
 refine A0 (AY 111 [U64 i, U64 e] (.bool (RightB i e)) (A4 _ Tryd.call111 rfl) (fun w1 hw1 => rright_c i e w1 )) rfl ?_
 show JL _ _ _ _ ((13, .bool (RightB i e)) :: _) [_, _, _]
 refine AA (.bool (!(RightB i e))) (FV rfl) rfl ?_
 refine AI (AC (D1 _ rfl (by rw [show (RightB i e) = false from hrt] <;> rfl) ?_))
 refine AF (AB (AA (.agg ([U64 0] ++ cu8 (zr8 32) ++ cu8 (zr8 16)).toArray) (DG [] _ rfl (fun _ => by kernel_rfl)) rfl ?_))
 refine A0 (AX 2 nb3 49 ([U64 0] ++ cu8 (zr8 32) ++ cu8 (zr8 16)) 164 ([U64 0] ++ cu8 (zr8 32) ++ cu8 (zr8 16)) rfl rfl rfl C9 (by simp [(AP 32), (AP 16)]) (EO (EO (by simp [Value.oneCell']) CD) CD) (by simp [(AP 32), (AP 16)]) (A6 (by simp [(AP 32), (AP 16), (AP 32), (AP 16)]))) rfl ?_
 show JL _ _ _ _ _ [_, _, ⟨nb3, [U64 0] ++ cu8 (zr8 32) ++ cu8 (zr8 16), 164, (0, 0)⟩]
 refine AA _ (AE rfl) rfl ?_
 refine AI (AC (BO (A3 (CA [false, false, true] ?_))))
 show JQ _ _ _ _ [_]
 refine BQ (.tuple #[.agg ([U64 0] ++ cu8 (zr8 32) ++ cu8 (zr8 16)).toArray, .bool false]) (res2 Tryd.results142 (DY rfl (BH Tryd.isAgg164 C9 (by simp [(AP 32), (AP 16)]) (AR 0 rfl (AN _)))) (B2 rfl)) fun w1 hw1 => ?_
 exact ⟨_, [], rfl, ⟨rfl, rfl⟩, hw1.sub (by simp) (by simp)⟩
theorem bld164_012 {w : World} {v0 : Value} {c1 : List Value} {c2 : List Value} (h0 : v0.cells = [v0].toArray) (h1 : c1.length = 32) (h2 : c2.length = 16) : (Instr.build 164 ([(0, v0), (1, .agg c1.toArray), (2, .agg c2.toArray)] : List (Nat × Value)).toArray).run Tryd.prog w = .ok (.agg ((([v0] : List Value) ++ c1) ++ c2).toArray) w :=
 EH (places := #[(0, 1), (1, 32), (33, 16)]) (Z := (([U64 0] : List Value) ++ ((cu8 (zr8 32) : List Value) ++ ((cu8 (zr8 16) : List Value) ++ [])))) (fun _ => by kernel_rfl) Tryd.underlying164 (fun _ => by kernel_rfl) ((F1 ([U64 0] : List Value) ((cu8 (zr8 32) : List Value) ++ ((cu8 (zr8 16) : List Value) ++ [])) ([v0] : List Value) h0 (by simp [AP]) rfl).trans ((EW ([v0] : List Value) (cu8 (zr8 32) : List Value) ((cu8 (zr8 16) : List Value) ++ []) c1 rfl (by simp [AP, h1]) (by simp [h1, AP])).trans ((EW (([v0] : List Value) ++ c1) (cu8 (zr8 16) : List Value) [] c2 rfl (by simp [AP, h1, h2]) (by simp [h2, AP])).trans (by simp [Instr.fill]))))
theorem rsealO_c (k : List UInt8) (i e : UInt64) (b : List UInt8)  (w : World) (hk : k.length = 16) (hb : b.length = 32) (hrt : RightB i e = true) (hGr : GLr w) (hGi : GLi w)  : Calls Tryd.prog 142 #[.agg (cu8 k).toArray, U64 i, U64 e, .agg (cu8 b).toArray] w (Post w [] (fun v L => v = .tuple #[.agg ([U64 e] ++ cu8 (turnP k (placeT i e) b) ++ cu8 (tagP k (placeT i e) (turnP k (placeT i e) b))).toArray, .bool true] ∧ L = [])) := by
 refine enter w [] 29 [] [.agg (cu8 k).toArray, U64 i, U64 e, .agg (cu8 b).toArray] Tryd.func142 rfl rfl (by simp) (BR (by simp) (by simp) (by simp)) ?_
 show JC _ _ _ [(0, .agg (cu8 k).toArray), (1, U64 i), (2, U64 e), (3, .agg (cu8 b).toArray)] _
 refine AF (AB (AV (CG (.agg (cu8 k).toArray) (cu8 k) rfl (by first | rfl | simp)) rfl ?_))
 rintro v1 L1 ⟨nb1, hnb1, rfl, rfl⟩
 show JL _ _ _ _ ((4, Ptr nb1 0) :: _) [⟨nb1, cu8 k, 131, (0, 0)⟩]
 refine AV (CG (.agg (cu8 b).toArray) (cu8 b) rfl (by first | rfl | simp)) rfl ?_
 rintro v1 L1 ⟨nb2, hnb2, rfl, rfl⟩
 show JL _ _ _ _ ((7, Ptr nb2 0) :: _) [_, ⟨nb2, cu8 b, 159, (0, 0)⟩]
 refine AV (A7 _ ([U64 0] ++ cu8 (zr8 32) ++ cu8 (zr8 16)) EI (by kernel_rfl)) rfl ?_
 rintro v1 L1 ⟨nb3, hnb3, rfl, rfl⟩
 show JL _ _ _ _ ((8, Ptr nb3 0) :: _) [_, _, ⟨nb3, [U64 0] ++ cu8 (zr8 32) ++ cu8 (zr8 16), 164, (0, 0)⟩]
 refine AA _ (AE rfl) rfl ?_
 refine AI (AC (AF (AF (AB (AA _ (AG rfl) rfl ?_)))))
 refine AA _ (AG rfl) rfl ?_
 refine A0 (AY 111 [U64 i, U64 e] (.bool (RightB i e)) (A4 _ Tryd.call111 rfl) (fun w1 hw1 => rright_c i e w1 )) rfl ?_
 show JL _ _ _ _ ((13, .bool (RightB i e)) :: _) [_, _, _]
 refine AA (.bool (!(RightB i e))) (FV rfl) rfl ?_
 refine AI (AC (DV _ rfl (by rw [show (RightB i e) = true from hrt] <;> rfl) ?_))
 refine BJ (AC (AF (AB (AA (.agg (cu8 k).toArray) (AL rfl (BH C7 CO (A8 hk) (AR 0 rfl (AN _)))) rfl ?_))))
 refine AA _ (AG rfl) rfl ?_
 refine AA _ (AG rfl) rfl ?_
 refine AA (.agg (cu8 b).toArray) (AL rfl (BH D3 CF (A8 hb) (AR 1 rfl (AN _)))) rfl ?_
 refine A0 (AY 169 [.agg (cu8 k).toArray, U64 i, U64 e, .agg (cu8 b).toArray] (.agg (cu8 (turnP k (placeT i e) b)).toArray) (A4 _ Tryd.call169 rfl) (fun w1 hw1 => rturned_c k i e b w1 hk hb (GLr.at hw1 hGr) (GLi.at hw1 hGi))) rfl ?_
 show JL _ _ _ _ ((20, .agg (cu8 (turnP k (placeT i e) b)).toArray) :: _) [_, _, _]
 refine AV (A7 _ (cu8 (zr8 32)) Tryd.zeroValue159 (by kernel_rfl)) rfl ?_
 rintro v1 L1 ⟨nb4, hnb4, rfl, rfl⟩
 show JL _ _ _ _ ((10, Ptr nb4 0) :: _) [_, _, _, ⟨nb4, cu8 (zr8 32), 159, (0, 0)⟩]
 refine A0 (AX 3 nb4 32 (cu8 (zr8 32)) 159 (cu8 (turnP k (placeT i e) b)) rfl rfl rfl CF (A8 (E4 _ _ (DO _ _))) (by first | exact CD | exact CS | exact CR | (simp [cu8, cu32, cu64, Value.oneCell']; done)) (by simp [(AP 32)]) (A6 (by simp [(AP 32), (E4 _ _ (DO _ _))]))) rfl ?_
 show JL _ _ _ _ _ [_, _, _, ⟨nb4, cu8 (turnP k (placeT i e) b), 159, (0, 0)⟩]
 refine AI (AC (AF (CT 29 3 [(0, U64 e), (1, .agg (cu8 (turnP k (placeT i e) b)).toArray), (2, .agg (cu8 k).toArray), (3, U64 i), (4, U64 e), (5, .agg (cu8 (turnP k (placeT i e) b)).toArray)] BL rfl (by decide +kernel) ?_)))
 refine CU ⟨[], [0, 1, 2, 3, 4, 5], [], [0, 1, 2, 3, 4, 5], [6]⟩ 6 _ rfl rfl (by decide +kernel) rfl ⟨AU rfl rfl rfl, ⟨_, rfl, AD rfl (AL rfl (BH D3 CF (A8 (E4 _ _ (DO _ _))) (AR 3 rfl (AN _))))⟩, ⟨_, rfl, AD rfl (AL rfl (BH C7 CO (A8 hk) (AR 0 rfl (AN _))))⟩, AU rfl rfl rfl, AU rfl rfl rfl, ⟨_, rfl, AD rfl (AL rfl (BH D3 CF (A8 (E4 _ _ (DO _ _))) (AR 3 rfl (AN _))))⟩, trivial⟩ rfl (AW rfl (AY 170 [.agg (cu8 k).toArray, U64 i, U64 e, .agg (cu8 (turnP k (placeT i e) b)).toArray] (.agg (cu8 (tagP k (placeT i e) (turnP k (placeT i e) b))).toArray) (A4 _ Tryd.call170 rfl) (fun w1 hw1 => rtagP_c k i e (turnP k (placeT i e) b) w1 hk (E4 _ _ (DO _ _)) (GLr.at hw1 hGr) (GLi.at hw1 hGi)))) ?_
 rintro v1 L1 ⟨rfl, rfl⟩
 refine ⟨[(7, .agg ([U64 e] ++ cu8 (turnP k (placeT i e) b) ++ cu8 (tagP k (placeT i e) (turnP k (placeT i e) b))).toArray)], ?_⟩
 show DP _ _ _ _ _ _ _ _ [_, _, _, _]
 refine CU ⟨[6], [0, 1, 2, 3, 4, 5, 7], [2, 3, 4, 5], [0, 1, 7], [8]⟩ 8 _ rfl rfl (by decide +kernel) rfl ⟨AU rfl rfl rfl, ⟨_, rfl, AD rfl (AL rfl (BH D3 CF (A8 (E4 _ _ (DO _ _))) (AR 3 rfl (AN _))))⟩, ⟨_, rfl, AD rfl (DG [(0, U64 e), (1, .agg (cu8 (turnP k (placeT i e) b)).toArray), (2, .agg (cu8 (tagP k (placeT i e) (turnP k (placeT i e) b))).toArray)] _ rfl (fun _ => bld164_012 rfl (by simp [AP, (E4 _ _ (DO _ _))]) (by simp [AP, (GQ _ _ _)])))⟩, trivial⟩ rfl (AW rfl (AX 2 nb3 49 ([U64 0] ++ cu8 (zr8 32) ++ cu8 (zr8 16)) 164 ([U64 e] ++ cu8 (turnP k (placeT i e) b) ++ cu8 (tagP k (placeT i e) (turnP k (placeT i e) b))) rfl rfl rfl C9 (by simp [(E4 _ _ (DO _ _)), (GQ _ _ _)]) (EO (EO (by simp [Value.oneCell']) CD) CD) (by simp [(AP 32), (AP 16)]) (A6 (by simp [(AP 32), (AP 16), (E4 _ _ (DO _ _)), (GQ _ _ _)])))) ?_
 rintro v1 L1 ⟨rfl, rfl⟩
 refine ⟨[(9, .bool true)], ?_⟩
 show DP _ _ _ _ _ _ _ _ [_, _, ⟨nb3, [U64 e] ++ cu8 (turnP k (placeT i e) b) ++ cu8 (tagP k (placeT i e) (turnP k (placeT i e) b)), 164, (0, 0)⟩, _]
 refine DE ⟨[6, 8], [0, 1, 2, 3, 4, 5, 7, 9], [0, 1, 2, 3, 4, 5, 7], [9], []⟩ rfl rfl (by decide +kernel) rfl ⟨⟨_, rfl, AD rfl (AE rfl)⟩, trivial⟩ ?_
 refine CC (F' := [(9, .bool true), (8, Ptr nb3 0)]) (by kernel_rfl) ?_
 refine AC (BO (CA [false, false, true, false] ?_))
 show JQ _ _ _ _ [_]
 refine BQ (.tuple #[.agg ([U64 e] ++ cu8 (turnP k (placeT i e) b) ++ cu8 (tagP k (placeT i e) (turnP k (placeT i e) b))).toArray, .bool true]) (res2 Tryd.results142 (DY rfl (BH Tryd.isAgg164 C9 (by simp [(E4 _ _ (DO _ _)), (GQ _ _ _)]) (AR 0 rfl (AN _)))) (B2 rfl)) fun w1 hw1 => ?_
 exact ⟨_, [], rfl, ⟨rfl, rfl⟩, hw1.sub (by simp) (by simp)⟩
theorem rseal_w (k : List UInt8) (i e : UInt64) (b : List UInt8) (w : World) (hk : k.length = 16) (hb : b.length = 32) (hGr : GLr w) (hGi : GLi w) : Calls Tryd.prog 142 #[.agg (cu8 k).toArray, U64 i, U64 e, .agg (cu8 b).toArray] w (Post w [] (fun v L => v = .tuple #[.agg ([U64 (sE i e)] ++ cu8 (sD k i e b) ++ cu8 (sT k i e b)).toArray, .bool (RightB i e)] ∧ L = [])) := by
 cases hrt : RightB i e with
 | true =>
  have e1 : sE i e = e := by unfold sE; rw [if_pos hrt]
  have e2 : sD k i e b = turnP k (placeT i e) b := by unfold sD; rw [if_pos hrt]
  have e3 : sT k i e b = tagP k (placeT i e) (turnP k (placeT i e) b) := by unfold sT; rw [if_pos hrt]
  rw [e1, e2, e3]
  exact rsealO_c k i e b w hk hb hrt hGr hGi
 | false =>
  have hn : ¬ RightB i e = true := by rw [hrt]; decide
  have e1 : sE i e = 0 := by unfold sE; rw [if_neg hn]
  have e2 : sD k i e b = zr8 32 := by unfold sD; rw [if_neg hn]
  have e3 : sT k i e b = zr8 16 := by unfold sT; rw [if_neg hn]
  rw [e1, e2, e3]
  exact rsealB_c k i e b w hk hb hrt
end Go.Proofs.YtkdpdgpphpngeaaDoor
namespace Go.Proofs.YtkdpdgpphpngeaaDoor
open Go Go.Sx
attribute [local irreducible] mid zr8 zr32 numK rnK rotr wordL spreadL comprL cpN adN spN wrdN constL initL padL stN outN routN sumG putL RightB tktT mayN idxT selT macL
theorem text_w (pv ep : UInt64) (k : Nat) (ai : Option Addr) (ni ci : Nat) (l : List UInt64) (sa : Option Addr) (ns sc : Nat) (ls : List SealR) (bl : UInt64) (tg : List UInt8) (tot : Nat) (w : World) (hl : l.length = ni) (hnm : ni ≤ 2000000) (hnc : ni ≤ ci) (hcm : ci ≤ maxLen) (hv : RdV w ai (cu64 l)) (hls : ls.length = ns) (hnn : ns ≤ 2000000) (hnd : ns ≤ sc) (hcn : sc ≤ maxLen) (hs : RdV w sa (ls.flatMap sealC)) (htg : tg.length = 16) (hmay : mayN pv ep (k:Int) l ls bl = 0) (hk : k = 1 ∨ k = 2 ∨ k = 3) (hsm : ns ≤ 300) (htot : tktN k ni ns = tot) : Calls Tryd.prog 114 #[.agg ([U64 pv, U64 ep, I64 k, .slice ai ni ci, .slice sa ns sc, U64 bl] ++ cu8 tg).toArray] w (Post w [] (fun v L => ∃ g sp cap, v = .tuple #[Slc g 0 tot cap, .nilIface] ∧ L = [⟨g, cu8 (tktT pv ep k l ls bl) ++ sp, 5, (0, 0)⟩] ∧ sp.length = cap - tot ∧ tot ≤ cap ∧ cap ≤ maxLen)) := by
  by_cases h3 : k = 3
  · have e : tot = 25 := by rw [← htot]; unfold tktN; rw [if_pos h3]
    subst e
    exact text3_c pv ep k ai ni ci l sa ns sc ls bl tg w hl hnm hnc hcm hv hls hnn hnd hcn hs htg hmay h3
  · exact text12_c pv ep k ai ni ci l sa ns sc ls bl tg tot w hl hnm hnc hcm hv hls hnn hnd hcn hs htg hmay (by omega) hsm (by rw [← htot]; unfold tktN; rw [if_neg h3])
theorem put13_c (pv ep : UInt64) (k : Nat) (ai : Option Addr) (ni ci : Nat) (l : List UInt64) (sa : Option Addr) (ns sc : Nat) (ls : List SealR) (bl : UInt64) (tg : List UInt8) (tot : Nat)  (w : World) (hl : l.length = ni) (hnm : ni ≤ 2000000) (hnc : ni ≤ ci) (hcm : ci ≤ maxLen) (hv : RdV w ai (cu64 l)) (hls : ls.length = ns) (hnn : ns ≤ 2000000) (hnd : ns ≤ sc) (hcn : sc ≤ maxLen) (hs : RdV w sa (ls.flatMap sealC)) (htg : tg.length = 16) (hmay : mayN pv ep (k:Int) l ls bl = 0) (hk : k = 1 ∨ k = 2 ∨ k = 3) (hsm : ns ≤ 300) (htot : tktN k ni ns = tot) (htb : tot ≤ 30000)  : Calls Tryd.prog 47 #[.agg ([U64 pv, U64 ep, I64 k, .slice ai ni ci, .slice sa ns sc, U64 bl] ++ cu8 tg).toArray] w (Post w [] (fun v L => ∃ g sp cap, v = .tuple #[Slc g 0 (tot + 16) cap, .nilIface] ∧ L = [⟨g, cu8 ((tktT pv ep k l ls bl) ++ tg) ++ sp, 5, (0, 0)⟩] ∧ sp.length = cap - (tot + 16) ∧ (tot + 16) ≤ cap ∧ cap ≤ maxLen)) := by
 have hmx : maxLen = 9223372036854775807 := rfl
 refine enter (P := Tryd.prog) (f := 47) (fn := Tryd.f47) w [] 18 [] [.agg ([U64 pv, U64 ep, I64 k, .slice ai ni ci, .slice sa ns sc, U64 bl] ++ cu8 tg).toArray] Tryd.func47 rfl rfl (by simp) (BR (by simp) (by simp) (by simp)) ?_
 show JC _ _ _ [(0, .agg ([U64 pv, U64 ep, I64 k, .slice ai ni ci, .slice sa ns sc, U64 bl] ++ cu8 tg).toArray)] _
 refine AF (AB (AV (CG (.agg ([U64 pv, U64 ep, I64 k, .slice ai ni ci, .slice sa ns sc, U64 bl] ++ cu8 tg).toArray) ([U64 pv, U64 ep, I64 k, .slice ai ni ci, .slice sa ns sc, U64 bl] ++ cu8 tg) rfl (by first | rfl | simp)) rfl ?_))
 rintro v1 L1 ⟨nb1, hnb1, rfl, rfl⟩
 show JL _ _ _ _ ((1, Ptr nb1 0) :: _) [⟨nb1, [U64 pv, U64 ep, I64 k, .slice ai ni ci, .slice sa ns sc, U64 bl] ++ cu8 tg, 29, (0, 0)⟩]
 refine AA _ (AE rfl) rfl ?_
 refine AA _ (AE rfl) rfl ?_
 refine AI (AC (AF (AB (AA (.agg ([U64 pv, U64 ep, I64 k, .slice ai ni ci, .slice sa ns sc, U64 bl] ++ cu8 tg).toArray) (AL rfl (BH Tryd.isAgg29 E3 (by simp [htg]) (AR 0 rfl (AN _)))) rfl ?_))))
 refine AV (CH 114 [.agg ([U64 pv, U64 ep, I64 k, .slice ai ni ci, .slice sa ns sc, U64 bl] ++ cu8 tg).toArray] _ (A4 _ Tryd.call114 rfl) (fun w1 hw1 => text_w pv ep k ai ni ci l sa ns sc ls bl tg tot w1 hl (by omega) (by omega) (by omega) (FT hw1 rfl hv) hls (by omega) (by omega) (by omega) (FT hw1 rfl hs) htg hmay hk hsm htot)) rfl ?_
 rintro v1 L1 ⟨_, ⟨nb2, sp1, cp1, rfl, rfl, hc1, hc2, hc3⟩, rfl⟩
 show JL _ _ _ _ ((8, .tuple #[Slc nb2 0 tot cp1, .nilIface]) :: _) [_, ⟨nb2, cu8 (tktT pv ep k l ls bl) ++ sp1, 5, (0, 0)⟩]
 refine AA _ (AG rfl) rfl ?_
 refine AA _ (BS rfl rfl) rfl ?_
 refine AA _ (BS rfl rfl) rfl ?_
 refine AA _ (AE rfl) rfl ?_
 refine AA _ (AE rfl) rfl ?_
 refine AI (AC (AF (AF (AB (AA _ (AG rfl) rfl ?_)))))
 refine AA (.bool false) (FQ _ _ _ rfl rfl (fun _ => GI ..) fun _ => F6 DU) rfl ?_
 refine AI (AC (DV _ rfl rfl ?_))
 refine BJ (AC (AF (AB (AA _ (AG rfl) rfl ?_))))
 refine AA (Ptr nb1 6) (AH 6 27 16 BN rfl AT rfl rfl) rfl ?_
 refine AA (Slc nb1 6 16 16) (B1 16 5 1 0 16 6 16 BF AM rfl rfl rfl (by omega) (by omega) (by omega) (by omega) (by omega) 16 (by omega)) rfl ?_
 refine AV (DH 43 5 [false, true] (Slc nb2 0 tot cp1) tot (tktT pv ep k l ls bl) tg (some ⟨nb1, 6, none⟩) 16 16 (tot + 16) AK C4 rfl (.inr ⟨nb2, sp1, cp1, rfl, rfl, (by first | exact (show (tktT pv ep k l ls bl).length = tot from ((tktT_len hl hls).trans htot)) | simp [(show (tktT pv ep k l ls bl).length = tot from ((tktT_len hl hls).trans htot))]), hc1, (by omega), (by omega)⟩) rfl (by first | exact htg | simp [htg]; try omega) (SrcAt.mem (AR 0 rfl (Seg.right 6 0 rfl rfl (AN _)))) (by omega) (by unfold maxLen; omega) (by omega)) rfl ?_
 rintro v1 L1 ⟨nb3, sp2, cp2, hg1, rfl, rfl, ha1, ha2, ha3, ha4⟩
 show JL _ _ _ _ ((17, Slc nb3 0 (tot + 16) cp2) :: _) [_, ⟨nb3, cu8 ((tktT pv ep k l ls bl) ++ tg) ++ sp2, 5, (0, 0)⟩]
 refine AA _ (AE rfl) rfl ?_
 refine AA _ (AE rfl) rfl ?_
 refine AI (AC (BO (CA [false, true] ?_)))
 show JQ _ _ _ _ [_]
 refine BQ (.tuple #[Slc nb3 0 (tot + 16) cp2, .nilIface]) (res2 Tryd.results47 (B2 rfl) (B2 rfl)) fun w1 hw1 => ?_
 exact ⟨_, _, rfl, ⟨nb3, sp2, cp2, rfl, rfl, ha2, ha3, ha4⟩, hw1.sub (by simp) (by simp)⟩
theorem cloneSN_c  (w : World) : Calls Tryd.prog 113 #[.slice none 0 0] w (Post w [] (fun v L => v = .slice none 0 0 ∧ L = [])) := by
 refine enter w [] 8 [] [.slice none 0 0] Tryd.func113 rfl rfl (by simp) (BR (by simp) (by simp) (by simp)) ?_
 show JC _ _ _ [(0, .slice none 0 0)] _
 refine AF (AB (AA _ (AE rfl) rfl ?_))
 refine AI (AC (AF (AF (AB (AA _ (AG rfl) rfl ?_)))))
 refine AA (.bool true) (FQ _ _ _ rfl rfl (fun _ => eqGuard_sl ..) fun _ => eql_sl_nil_nil CQ) rfl ?_
 refine AI (AC (D1 _ rfl rfl ?_))
 refine AF (AB (AA _ (AE rfl) rfl ?_))
 refine AI (AC (BO (A3 (BQ (.slice none 0 0) (res1 Tryd.results113 (B2 rfl)) fun w1 hw1 => ?_))))
 exact ⟨_, [], rfl, ⟨rfl, rfl⟩, hw1.sub (by simp) (by simp)⟩
theorem cloneS_c (sa : Option Addr) (ns sc : Nat) (ls : List SealR)  (w : World) (hls : ls.length = ns) (hnn : ns ≤ 2000000) (hnd : ns ≤ sc) (hcn : sc ≤ maxLen) (hs : RdV w sa (ls.flatMap sealC)) (ha : sa.isNone = false)  : Calls Tryd.prog 113 #[.slice sa ns sc] w (Post w [] (fun v L => ∃ g sp cap, v = Slc g 0 ns cap ∧ L = [⟨g, ls.flatMap sealC ++ sp, 161, (0, 0)⟩] ∧ sp.length = cap * 49 - ns * 49 ∧ ns ≤ cap ∧ cap ≤ maxLen)) := by
 have hmx : maxLen = 9223372036854775807 := rfl
 refine enter w [] 8 [] [.slice sa ns sc] Tryd.func113 rfl rfl (by simp) (BR (by simp) (by simp) (by simp)) ?_
 show JC _ _ _ [(0, .slice sa ns sc)] _
 refine AF (AB (AA _ (AE rfl) rfl ?_))
 refine AI (AC (AF (AF (AB (AA _ (AG rfl) rfl ?_)))))
 refine AA (.bool sa.isNone) (FQ _ _ _ rfl rfl (fun _ => eqGuard_sl ..) fun _ => eql_sl_any CQ) rfl ?_
 refine AI (AC (DV _ rfl ha ?_))
 refine BJ (AC (AF (AB (AV (FF 161 49 CQ CE) rfl ?_))))
 rintro v1 L1 ⟨nb1, hnb1, rfl, rfl⟩
 show JL _ _ _ _ ((5, Slc nb1 0 0 0) :: _) [⟨nb1, [], 161, (0, 0)⟩]
 refine AA _ (AG rfl) rfl ?_
 refine AV (Step_cloneS 24 161 56 (.agg ([U64 0] ++ cu8 (zr8 32) ++ cu8 (zr8 16)).toArray) [true] nb1 ls sa ns sc CQ (by kernel_rfl) (by kernel_rfl) rfl rfl rfl hls (RdV.src hs rfl) (by omega) (by unfold maxLen; omega)) rfl ?_
 rintro v1 L1 ⟨nb2, sp1, cp1, hg1, rfl, rfl, ha1, ha2, ha3⟩
 show JL _ _ _ _ ((7, Slc nb2 0 ns cp1) :: _) [⟨nb2, ls.flatMap sealC ++ sp1, 161, (0, 0)⟩]
 refine AA _ (AE rfl) rfl ?_
 refine AI (AC (BO (BQ (Slc nb2 0 ns cp1) (res1 Tryd.results113 (B2 rfl)) fun w1 hw1 => ?_)))
 exact ⟨_, _, rfl, ⟨nb2, sp1, cp1, rfl, rfl, ha1, ha2, ha3⟩, hw1.sub (by simp) (by simp)⟩
theorem clone64Z_w (ai : Option Addr) (ci : Nat) (w : World) (hc : ci ≤ maxLen) (hn : ai = none → ci = 0) : Calls Tryd.prog 112 #[.slice ai 0 ci] w (Post w [] (fun v L => ∃ ao c, v = .slice ao 0 c ∧ L = [] ∧ c ≤ maxLen ∧ (ao = none → c = 0))) := by
  by_cases ha : ai = none
  · subst ha
    rw [hn rfl]
    refine (clone64N_c w).mono ?_
    rintro E W ⟨v, L, rfl, ⟨rfl, rfl⟩, hw⟩
    exact ⟨_, _, rfl, ⟨none, 0, rfl, rfl, Nat.zero_le _, fun _ => rfl⟩, hw⟩
  · have ha' : ai.isNone = false := by cases ai with
      | none => exact absurd rfl ha
      | some x => rfl
    refine (clone64_c ai 0 ci ([] : List UInt64) w rfl (by omega) (by omega) hc RdV.nil ha').mono ?_
    rintro E W ⟨v, L, rfl, ⟨g, sp, cap, rfl, rfl, h1, h2, h3⟩, hw⟩
    exact ⟨_, [], rfl, ⟨_, _, rfl, rfl, h3, fun h => by cases h⟩, hw.sub (by simp) (by simp)⟩
theorem clone64P_w (ai : Option Addr) (ni ci : Nat) (l : List UInt64) (w : World) (hl : l.length = ni) (hnm : ni ≤ 2000000) (hnc : ni ≤ ci) (hcm : ci ≤ maxLen) (hv : RdV w ai (cu64 l)) (hp : 0 < ni) : Calls Tryd.prog 112 #[.slice ai ni ci] w (Post w [] (fun v L => ∃ g sp cap, v = Slc g 0 ni cap ∧ L = [⟨g, cu64 l ++ sp, 22, (0, 0)⟩] ∧ sp.length = cap - ni ∧ ni ≤ cap ∧ cap ≤ maxLen)) := by
 have ha : ai.isNone = false := by
  obtain ⟨b, off, h, _⟩ := RdV.pos hv (by first | (rw [FO]; omega) | (rw [rows_len]; omega))
  rw [h]; rfl
 exact clone64_c ai ni ci l w hl hnm hnc hcm hv ha
theorem cloneSZ_w (sa : Option Addr) (sc : Nat) (w : World) (hc : sc ≤ maxLen) (hn : sa = none → sc = 0) : Calls Tryd.prog 113 #[.slice sa 0 sc] w (Post w [] (fun v L => ∃ ao c, v = .slice ao 0 c ∧ L = [] ∧ c ≤ maxLen ∧ (ao = none → c = 0))) := by
  by_cases ha : sa = none
  · subst ha
    rw [hn rfl]
    refine (cloneSN_c w).mono ?_
    rintro E W ⟨v, L, rfl, ⟨rfl, rfl⟩, hw⟩
    exact ⟨_, _, rfl, ⟨none, 0, rfl, rfl, Nat.zero_le _, fun _ => rfl⟩, hw⟩
  · have ha' : sa.isNone = false := by cases sa with
      | none => exact absurd rfl ha
      | some x => rfl
    refine (cloneS_c sa 0 sc ([] : List SealR) w rfl (by omega) (by omega) hc RdV.nil ha').mono ?_
    rintro E W ⟨v, L, rfl, ⟨g, sp, cap, rfl, rfl, h1, h2, h3⟩, hw⟩
    exact ⟨_, [], rfl, ⟨_, _, rfl, rfl, h3, fun h => by cases h⟩, hw.sub (by simp) (by simp)⟩
attribute [local irreducible] tkG
theorem chkK_c (key : List UInt8) (pv ep : UInt64) (k : Nat) (ai : Option Addr) (ni ci : Nat) (l : List UInt64) (sa : Option Addr) (ns sc : Nat) (ls : List SealR) (bl : UInt64) (tg : List UInt8) (tot : Nat)  (w : World) (hk32 : key.length = 32) (hl : l.length = ni) (hnm : ni ≤ 2000000) (hnc : ni ≤ ci) (hcm : ci ≤ maxLen) (hv : RdV w ai (cu64 l)) (hls : ls.length = ns) (hnn : ns ≤ 2000000) (hnd : ns ≤ sc) (hcn : sc ≤ maxLen) (hs : RdV w sa (ls.flatMap sealC)) (htg : tg.length = 16) (hmay : mayN pv ep (k:Int) l ls bl = 0) (hk : k = 1 ∨ k = 2 ∨ k = 3) (hsm : ns ≤ 300) (htot : tktN k ni ns = tot) (htb : tot ≤ 30000) (hG : GLs w) (hau : tg = tkG key pv ep k l ls bl)  : Calls Tryd.prog 48 #[.agg (cu8 key).toArray, .agg ([U64 pv, U64 ep, I64 k, .slice ai ni ci, .slice sa ns sc, U64 bl] ++ cu8 tg).toArray] w (Post w [] (fun v L => v = .nilIface ∧ L = [])) := by
 have hmx : maxLen = 9223372036854775807 := rfl
 refine enter (P := Tryd.prog) (f := 48) (fn := Tryd.f48) w [] 25 [] [.agg (cu8 key).toArray, .agg ([U64 pv, U64 ep, I64 k, .slice ai ni ci, .slice sa ns sc, U64 bl] ++ cu8 tg).toArray] Tryd.func48 rfl rfl (by simp) (BR (by simp) (by simp) (by simp)) ?_
 show JC _ _ _ [(0, .agg (cu8 key).toArray), (1, .agg ([U64 pv, U64 ep, I64 k, .slice ai ni ci, .slice sa ns sc, U64 bl] ++ cu8 tg).toArray)] _
 refine AF (AB (AV (CG (.agg (cu8 key).toArray) (cu8 key) rfl (by first | rfl | simp)) rfl ?_))
 rintro v1 L1 ⟨nb1, hnb1, rfl, rfl⟩
 show JL _ _ _ _ ((2, Ptr nb1 0) :: _) [⟨nb1, cu8 key, 54, (0, 0)⟩]
 refine AV (CG (.agg ([U64 pv, U64 ep, I64 k, .slice ai ni ci, .slice sa ns sc, U64 bl] ++ cu8 tg).toArray) ([U64 pv, U64 ep, I64 k, .slice ai ni ci, .slice sa ns sc, U64 bl] ++ cu8 tg) rfl (by first | rfl | simp)) rfl ?_
 rintro v1 L1 ⟨nb2, hnb2, rfl, rfl⟩
 show JL _ _ _ _ ((3, Ptr nb2 0) :: _) [_, ⟨nb2, [U64 pv, U64 ep, I64 k, .slice ai ni ci, .slice sa ns sc, U64 bl] ++ cu8 tg, 29, (0, 0)⟩]
 refine AA _ (AE rfl) rfl ?_
 refine AI (AC (AF (AB (AA (.agg ([U64 pv, U64 ep, I64 k, .slice ai ni ci, .slice sa ns sc, U64 bl] ++ cu8 tg).toArray) (AL rfl (BH Tryd.isAgg29 E3 (by simp [htg]) (AR 1 rfl (AN _)))) rfl ?_))))
 refine AV (CH 114 [.agg ([U64 pv, U64 ep, I64 k, .slice ai ni ci, .slice sa ns sc, U64 bl] ++ cu8 tg).toArray] _ (A4 _ Tryd.call114 rfl) (fun w1 hw1 => text_w pv ep k ai ni ci l sa ns sc ls bl tg tot w1 hl (by omega) (by omega) (by omega) (FT hw1 rfl hv) hls (by omega) (by omega) (by omega) (FT hw1 rfl hs) htg hmay hk hsm htot)) rfl ?_
 rintro v1 L1 ⟨_, ⟨nb3, sp1, cp1, rfl, rfl, hc1, hc2, hc3⟩, rfl⟩
 show JL _ _ _ _ ((9, .tuple #[Slc nb3 0 tot cp1, .nilIface]) :: _) [_, _, ⟨nb3, cu8 (tktT pv ep k l ls bl) ++ sp1, 5, (0, 0)⟩]
 refine AA _ (AG rfl) rfl ?_
 refine AA _ (BS rfl rfl) rfl ?_
 refine AA _ (BS rfl rfl) rfl ?_
 refine AA _ (AE rfl) rfl ?_
 refine AA _ (AE rfl) rfl ?_
 refine AI (AC (AF (A9 (AF (AB (AA _ (AG rfl) rfl ?_))))))
 refine AA (.bool false) (FQ _ _ _ rfl rfl (fun _ => GI ..) fun _ => F6 DU) rfl ?_
 refine AA _ (AE rfl) rfl ?_
 refine AI (AC (DV _ rfl rfl ?_))
 refine AF (CT 25 3 [(0, Ptr nb2 6), (1, Slc nb2 6 16 16), (2, Slc nb1 0 32 32), (3, Slc nb3 0 tot cp1)] BL rfl (by decide +kernel) ?_)
 refine CU ⟨[], [0, 1, 2, 3], [], [0, 1, 2, 3], [4]⟩ 4 _ rfl rfl (by decide +kernel) rfl ⟨⟨_, rfl, AD rfl (AH 6 27 16 BN rfl AT rfl rfl)⟩, ⟨_, rfl, AD rfl (B1 16 5 1 0 16 6 16 BF AM rfl rfl rfl (by omega) (by omega) (by omega) (by omega) (by omega) 16 (by omega))⟩, ⟨_, rfl, AD rfl (B1 32 5 1 0 32 0 32 B4 AM rfl rfl rfl (by omega) (by omega) (by omega) (by omega) (by omega) 32 (by omega))⟩, AU rfl rfl rfl, trivial⟩ rfl (AW rfl (BT 43 1 _ [(0, Slc nb3 0 tot cp1)] ([Slc nb3 0 tot cp1]) FE CJ Tryd.zeroValue43 rfl rfl rfl (by kernel_rfl))) ?_
 rintro v1 L1 ⟨nb4, hnb4, rfl, rfl⟩
 refine ⟨[], ?_⟩
 show DP _ _ _ _ _ _ _ _ [_, _, _, ⟨nb4, [Slc nb3 0 tot cp1], 43, (0, 0)⟩]
 refine CU ⟨[4], [0, 1, 2, 3], [3], [0, 1, 2], [5]⟩ 5 _ rfl rfl (by decide +kernel) rfl ⟨⟨_, rfl, AD rfl (AH 6 27 16 BN rfl AT rfl rfl)⟩, ⟨_, rfl, AD rfl (B1 16 5 1 0 16 6 16 BF AM rfl rfl rfl (by omega) (by omega) (by omega) (by omega) (by omega) 16 (by omega))⟩, ⟨_, rfl, AD rfl (B1 32 5 1 0 32 0 32 B4 AM rfl rfl rfl (by omega) (by omega) (by omega) (by omega) (by omega) 32 (by omega))⟩, trivial⟩ rfl (AW rfl (AY 107 [Slc nb2 6 16 16, Slc nb1 0 32 32, Slc nb4 0 1 1] (.bool (decide (tg = macL key ([tktT pv ep k l ls bl].flatten)) || decide (tg = mid (macL key ([tktT pv ep k l ls bl].flatten)) 0 16))) (A4 _ Tryd.call107 rfl) (fun w1 hw1 => check_c (some ⟨nb2, 6, none⟩) 16 16 tg (some ⟨nb1, 0, none⟩) 32 32 key nb4 1 [Slc nb3 0 tot cp1] [tktT pv ep k l ls bl] w1 htg (by omega) (RdB.of hw1 (AR 1 rfl (Seg.right 6 0 rfl rfl (AN _))) (by simp)) hk32 (fun h => by cases h) (by omega) (RdB.of hw1 (AR 0 rfl (AN _)) (by simp)) (by simp) (by simp) (by simp) ⟨RdA.of hw1 (AR 3 rfl (Seg.head)) (by simp), ⟨⟨(some ⟨nb3, 0, none⟩), cp1, congrArg (fun n => Value.slice (some ⟨nb3, 0, none⟩) n cp1) ((show (tktT pv ep k l ls bl).length = tot from ((tktT_len hl hls).trans htot))).symm, (RdB.of hw1 (AR 2 rfl (BE (AN _))) (by simp))⟩, trivial⟩⟩ (by simp only [List.flatten_cons, List.flatten_nil, List.length_append, List.length_nil, (show (tktT pv ep k l ls bl).length = tot from ((tktT_len hl hls).trans htot))]; omega) (hG.at hw1)))) ?_
 rintro v1 L1 ⟨rfl, rfl⟩
 refine ⟨[(6, .bool (!(decide (tg = macL key ([tktT pv ep k l ls bl].flatten)) || decide (tg = mid (macL key ([tktT pv ep k l ls bl].flatten)) 0 16)))), (7, .bool (!(decide (tg = macL key ([tktT pv ep k l ls bl].flatten)) || decide (tg = mid (macL key ([tktT pv ep k l ls bl].flatten)) 0 16))))], ?_⟩
 show DP _ _ _ _ _ _ _ _ [_, _, _, _]
 refine DE ⟨[4, 5], [0, 1, 2, 3, 6, 7], [0, 1, 2, 3], [6, 7], []⟩ rfl rfl (by decide +kernel) rfl ⟨⟨_, rfl, AD rfl (FV rfl)⟩, ⟨_, rfl, AD rfl (AE rfl)⟩, trivial⟩ ?_
 refine CC (F' := [(16, .bool (!(decide (tg = macL key ([tktT pv ep k l ls bl].flatten)) || decide (tg = mid (macL key ([tktT pv ep k l ls bl].flatten)) 0 16)))), (4, .nilIface)]) (by kernel_rfl) ?_
 refine AC (DV _ rfl (by rw [show ((decide (tg = macL key ([tktT pv ep k l ls bl].flatten)) || decide (tg = mid (macL key ([tktT pv ep k l ls bl].flatten)) 0 16))) = true from (by rw [chk_tk _ _ _ _ _ _ _ htg]; exact decide_eq_true hau)] <;> rfl) ?_)
 refine BJ (A5 (AC (AF (AB (AA _ (AE rfl) rfl ?_)))))
 refine AI (AC (BO (CA [false, false, false, false] ?_)))
 show JQ _ _ _ _ []
 refine BQ (.nilIface) (res1 Tryd.results48 (B2 rfl)) fun w1 hw1 => ?_
 exact ⟨_, [], rfl, ⟨rfl, rfl⟩, hw1.sub (by simp) (by simp)⟩
theorem bld26_0123 {w : World} {v0 : Value} {v1 : Value} {v2 : Value} {v3 : Value} (h0 : v0.cells = [v0].toArray) (h1 : v1.cells = [v1].toArray) (h2 : v2.cells = [v2].toArray) (h3 : v3.cells = [v3].toArray) : (Instr.build 26 ([(0, v0), (1, v1), (2, v2), (3, v3)] : List (Nat × Value)).toArray).run Tryd.prog w = .ok (.agg (((([v0] : List Value) ++ ([v1] : List Value)) ++ ([v2] : List Value)) ++ ([v3] : List Value)).toArray) w :=
 EH (places := #[(0, 1), (1, 1), (2, 1), (3, 1)]) (Z := (([I64 0] : List Value) ++ (([.slice none 0 0] : List Value) ++ (([.slice none 0 0] : List Value) ++ (([U64 0] : List Value) ++ []))))) (fun _ => by kernel_rfl) A2 (fun _ => by kernel_rfl) ((F1 ([I64 0] : List Value) (([.slice none 0 0] : List Value) ++ (([.slice none 0 0] : List Value) ++ (([U64 0] : List Value) ++ []))) ([v0] : List Value) h0 (by simp [AP]) rfl).trans ((EW ([v0] : List Value) ([.slice none 0 0] : List Value) (([.slice none 0 0] : List Value) ++ (([U64 0] : List Value) ++ [])) ([v1] : List Value) h1 (by simp [AP]) rfl).trans ((EW (([v0] : List Value) ++ ([v1] : List Value)) ([.slice none 0 0] : List Value) (([U64 0] : List Value) ++ []) ([v2] : List Value) h2 (by simp [AP]) rfl).trans ((EW ((([v0] : List Value) ++ ([v1] : List Value)) ++ ([v2] : List Value)) ([U64 0] : List Value) [] ([v3] : List Value) h3 (by simp [AP]) rfl).trans (by simp [Instr.fill])))))
theorem bld29_012 {w : World} {v0 : Value} {v1 : Value} {c2 : List Value} (h0 : v0.cells = [v0].toArray) (h1 : v1.cells = [v1].toArray) (h2 : c2.length = 4) : (Instr.build 29 ([(0, v0), (1, v1), (2, .agg c2.toArray)] : List (Nat × Value)).toArray).run Tryd.prog w = .ok (.agg (((([v0] : List Value) ++ ([v1] : List Value)) ++ c2) ++ (cu8 (zr8 16) : List Value)).toArray) w :=
 EH (places := #[(0, 1), (1, 1), (2, 4), (6, 16)]) (Z := (([U64 0] : List Value) ++ (([U64 0] : List Value) ++ (([I64 0, .slice none 0 0, .slice none 0 0, U64 0] : List Value) ++ ((cu8 (zr8 16) : List Value) ++ []))))) (fun _ => by kernel_rfl) BN (fun _ => by kernel_rfl) ((F1 ([U64 0] : List Value) (([U64 0] : List Value) ++ (([I64 0, .slice none 0 0, .slice none 0 0, U64 0] : List Value) ++ ((cu8 (zr8 16) : List Value) ++ []))) ([v0] : List Value) h0 (by simp [AP]) rfl).trans ((EW ([v0] : List Value) ([U64 0] : List Value) (([I64 0, .slice none 0 0, .slice none 0 0, U64 0] : List Value) ++ ((cu8 (zr8 16) : List Value) ++ [])) ([v1] : List Value) h1 (by simp [AP]) rfl).trans ((EW (([v0] : List Value) ++ ([v1] : List Value)) ([I64 0, .slice none 0 0, .slice none 0 0, U64 0] : List Value) ((cu8 (zr8 16) : List Value) ++ []) c2 rfl (by simp [AP, h2]) (by simp [h2, AP])).trans ((F2 ((([v0] : List Value) ++ ([v1] : List Value)) ++ c2) (cu8 (zr8 16) : List Value) []).trans (by simp [Instr.fill])))))
theorem sign3_c (key : List UInt8) (pv ep : UInt64) (k : Nat) (ai : Option Addr) (ci : Nat) (sa : Option Addr) (sc : Nat) (bl : UInt64) (tot : Nat)  (w : World) (hk32 : key.length = 32) (hci : ci ≤ maxLen) (hnI : ai = none → ci = 0) (hcs : sc ≤ maxLen) (hnS : sa = none → sc = 0) (hmay : mayN pv ep (k:Int) ([] : List UInt64) ([] : List SealR) bl = 0) (hk : k = 3) (htot : tktN k 0 0 = tot) (htb : tot ≤ 30000) (hG : GLs w)  : Calls Tryd.prog 46 #[.agg (cu8 key).toArray, U64 pv, U64 ep, .agg #[I64 k, .slice ai 0 ci, .slice sa 0 sc, U64 bl]] w (Post w [] (fun v L => ∃ a1 c1 a2 c2, v = .tuple #[.agg ([U64 pv, U64 ep, I64 k, .slice a1 0 c1, .slice a2 0 c2, U64 bl] ++ cu8 (tkG key pv ep k ([] : List UInt64) ([] : List SealR) bl)).toArray, .nilIface] ∧ L = [] ∧ c1 ≤ maxLen ∧ (a1 = none → c1 = 0) ∧ c2 ≤ maxLen ∧ (a2 = none → c2 = 0))) := by
 have hmx : maxLen = 9223372036854775807 := rfl
 refine enter (P := Tryd.prog) (f := 46) (fn := Tryd.f46) w [] 44 [] [.agg (cu8 key).toArray, U64 pv, U64 ep, .agg #[I64 k, .slice ai 0 ci, .slice sa 0 sc, U64 bl]] Tryd.func46 rfl rfl (by simp) (BR (by simp) (by simp) (by simp)) ?_
 show JC _ _ _ [(0, .agg (cu8 key).toArray), (1, U64 pv), (2, U64 ep), (3, .agg #[I64 k, .slice ai 0 ci, .slice sa 0 sc, U64 bl])] _
 refine AF (AB (AV (CG (.agg (cu8 key).toArray) (cu8 key) rfl (by first | rfl | simp)) rfl ?_))
 rintro v1 L1 ⟨nb1, hnb1, rfl, rfl⟩
 show JL _ _ _ _ ((4, Ptr nb1 0) :: _) [⟨nb1, cu8 key, 54, (0, 0)⟩]
 refine AV (CG (.agg #[I64 k, .slice ai 0 ci, .slice sa 0 sc, U64 bl]) ([I64 k, .slice ai 0 ci, .slice sa 0 sc, U64 bl]) rfl (by first | rfl | simp)) rfl ?_
 rintro v1 L1 ⟨nb2, hnb2, rfl, rfl⟩
 show JL _ _ _ _ ((7, Ptr nb2 0) :: _) [_, ⟨nb2, [I64 k, .slice ai 0 ci, .slice sa 0 sc, U64 bl], 26, (0, 0)⟩]
 refine AV (A7 _ ([U64 0, U64 0, I64 0, .slice none 0 0, .slice none 0 0, U64 0] ++ cu8 (zr8 16)) Tryd.zeroValue29 (by kernel_rfl)) rfl ?_
 rintro v1 L1 ⟨nb3, hnb3, rfl, rfl⟩
 show JL _ _ _ _ ((8, Ptr nb3 0) :: _) [_, _, ⟨nb3, [U64 0, U64 0, I64 0, .slice none 0 0, .slice none 0 0, U64 0] ++ cu8 (zr8 16), 29, (0, 0)⟩]
 refine AA _ (AE rfl) rfl ?_
 refine AI (AC (AF (JC_cut (ι := Nat × Option Addr × Nat × Option Addr × Nat) (fun ⟨ynb0, yao1, yca2, yao3, yca4⟩ => [(4, Ptr nb1 0), (8, Ptr nb3 0), (9, .nilIface), (10, Ptr ynb0 0)]) (fun ⟨ynb0, yao1, yca2, yao3, yca4⟩ => [⟨nb1, cu8 key, 54, (0, 0)⟩, ⟨nb3, [U64 0, U64 0, I64 0, .slice none 0 0, .slice none 0 0, U64 0] ++ cu8 (zr8 16), 29, (0, 0)⟩, ⟨ynb0, [U64 pv, U64 ep, I64 k, .slice yao1 0 yca2, .slice yao3 0 yca4, U64 bl] ++ cu8 (zr8 16), 29, (0, 0)⟩]) (fun ⟨ynb0, yao1, yca2, yao3, yca4⟩ => yca2 ≤ maxLen ∧ (yao1 = none → yca2 = 0) ∧ yca4 ≤ maxLen ∧ (yao3 = none → yca4 = 0)) ?_ ?_)))
 ·
  refine CT 44 5 [(0, U64 pv), (1, U64 ep), (2, Ptr nb2 0), (3, I64 k), (4, Ptr nb2 1), (5, .slice ai 0 ci), (7, Ptr nb2 2), (8, .slice sa 0 sc), (10, Ptr nb2 3), (11, U64 bl)] BL rfl (by decide +kernel) ?_
  refine DP_two ⟨[], [0, 1, 2, 3, 4, 5, 7, 8, 10, 11], [], [0, 1, 2, 3, 4, 5, 7, 8, 10, 11], [6, 14]⟩ 6 14 _ _ rfl rfl (by decide +kernel) rfl ⟨AU rfl rfl rfl, AU rfl rfl rfl, ⟨_, rfl, AD rfl (AH 0 3 1 A2 rfl DR rfl rfl)⟩, ⟨_, rfl, AD rfl (AL rfl (AZ DC (AR 1 rfl (Seg.head))))⟩, ⟨_, rfl, AD rfl (AH 1 23 1 A2 rfl CV rfl rfl)⟩, ⟨_, rfl, AD rfl (AL rfl (AZ DB (AR 1 rfl (AS (Seg.head)))))⟩, ⟨_, rfl, AD rfl (AH 2 24 1 A2 rfl DS rfl rfl)⟩, ⟨_, rfl, AD rfl (AL rfl (AZ ER (AR 1 rfl (AS (AS (Seg.head))))))⟩, ⟨_, rfl, AD rfl (AH 3 22 1 A2 rfl BC rfl rfl)⟩, ⟨_, rfl, AD rfl (AL rfl (AZ BG (AR 1 rfl (AS (AS (AS (Seg.head)))))))⟩, trivial⟩ rfl rfl (AW rfl (CH 112 [.slice ai 0 ci] _ (A4 _ Tryd.call112 rfl) (fun w1 hw1 => clone64Z_w ai ci w1 (by omega) hnI))) (AW rfl (A7 _ ([U64 0, U64 0, I64 0, .slice none 0 0, .slice none 0 0, U64 0] ++ cu8 (zr8 16)) Tryd.zeroValue29 (by kernel_rfl))) ?_ ?_
  ·
   rintro v1 L1 ⟨_, ⟨ao1, ca1, rfl, rfl, hc1, hc2⟩, rfl⟩
   refine ⟨[], ?_⟩
   show DP _ _ _ _ _ _ _ _ [_, _, _]
   refine DP_two ⟨[6], [0, 1, 2, 3, 4, 5, 7, 8, 10, 11], [4, 5], [0, 1, 2, 3, 7, 8, 10, 11], [9, 14]⟩ 9 14 _ _ rfl rfl (by decide +kernel) rfl ⟨AU rfl rfl rfl, AU rfl rfl rfl, ⟨_, rfl, AD rfl (AH 0 3 1 A2 rfl DR rfl rfl)⟩, ⟨_, rfl, AD rfl (AL rfl (AZ DC (AR 1 rfl (Seg.head))))⟩, ⟨_, rfl, AD rfl (AH 2 24 1 A2 rfl DS rfl rfl)⟩, ⟨_, rfl, AD rfl (AL rfl (AZ ER (AR 1 rfl (AS (AS (Seg.head))))))⟩, ⟨_, rfl, AD rfl (AH 3 22 1 A2 rfl BC rfl rfl)⟩, ⟨_, rfl, AD rfl (AL rfl (AZ BG (AR 1 rfl (AS (AS (AS (Seg.head)))))))⟩, trivial⟩ rfl rfl (AW rfl (CH 113 [.slice sa 0 sc] _ (A4 _ Tryd.call113 rfl) (fun w1 hw1 => cloneSZ_w sa sc w1 (by omega) hnS))) (AW rfl (A7 _ ([U64 0, U64 0, I64 0, .slice none 0 0, .slice none 0 0, U64 0] ++ cu8 (zr8 16)) Tryd.zeroValue29 (by kernel_rfl))) ?_ ?_
   ·
    rintro v1 L1 ⟨_, ⟨ao2, ca2, rfl, rfl, hc3, hc4⟩, rfl⟩
    refine ⟨[(12, .agg #[I64 k, .slice ao1 0 ca1, .slice ao2 0 ca2, U64 bl]), (13, .agg ([U64 pv, U64 ep, I64 k, .slice ao1 0 ca1, .slice ao2 0 ca2, U64 bl] ++ cu8 (zr8 16)).toArray)], ?_⟩
    show DP _ _ _ _ _ _ _ _ [_, _, _]
    refine CU ⟨[6, 9], [0, 1, 2, 3, 4, 5, 7, 8, 10, 11, 12, 13], [4, 5, 7, 8], [0, 1, 2, 3, 10, 11, 12, 13], [14]⟩ 14 _ rfl rfl (by decide +kernel) rfl ⟨AU rfl rfl rfl, AU rfl rfl rfl, ⟨_, rfl, AD rfl (AH 0 3 1 A2 rfl DR rfl rfl)⟩, ⟨_, rfl, AD rfl (AL rfl (AZ DC (AR 1 rfl (Seg.head))))⟩, ⟨_, rfl, AD rfl (AH 3 22 1 A2 rfl BC rfl rfl)⟩, ⟨_, rfl, AD rfl (AL rfl (AZ BG (AR 1 rfl (AS (AS (AS (Seg.head)))))))⟩, ⟨_, rfl, AD rfl (DG [(0, I64 k), (1, .slice ao1 0 ca1), (2, .slice ao2 0 ca2), (3, U64 bl)] _ rfl (fun _ => bld26_0123 rfl rfl rfl rfl))⟩, ⟨_, rfl, AD rfl (DG [(0, U64 pv), (1, U64 ep), (2, .agg #[I64 k, .slice ao1 0 ca1, .slice ao2 0 ca2, U64 bl])] _ rfl (fun _ => bld29_012 rfl rfl (by simp [AP])))⟩, trivial⟩ rfl (AW rfl (A7 _ ([U64 0, U64 0, I64 0, .slice none 0 0, .slice none 0 0, U64 0] ++ cu8 (zr8 16)) Tryd.zeroValue29 (by kernel_rfl))) ?_
    rintro v1 L1 ⟨nb6, hnb6, rfl, rfl⟩
    refine ⟨[], ?_⟩
    show DP _ _ _ _ _ _ _ _ [_, _, _, ⟨nb6, [U64 0, U64 0, I64 0, .slice none 0 0, .slice none 0 0, U64 0] ++ cu8 (zr8 16), 29, (0, 0)⟩]
    refine C2 ⟨[6, 9, 14], [0, 1, 2, 3, 4, 5, 7, 8, 10, 11, 12, 13], [4, 5, 7, 8], [0, 1, 2, 3, 10, 11, 12, 13], [15]⟩ 15 rfl rfl (by decide +kernel) rfl ⟨AU rfl rfl rfl, AU rfl rfl rfl, ⟨_, rfl, AD rfl (AH 0 3 1 A2 rfl DR rfl rfl)⟩, ⟨_, rfl, AD rfl (AL rfl (AZ DC (AR 1 rfl (Seg.head))))⟩, ⟨_, rfl, AD rfl (AH 3 22 1 A2 rfl BC rfl rfl)⟩, ⟨_, rfl, AD rfl (AL rfl (AZ BG (AR 1 rfl (AS (AS (AS (Seg.head)))))))⟩, ⟨_, rfl, AD rfl (DG [(0, I64 k), (1, .slice ao1 0 ca1), (2, .slice ao2 0 ca2), (3, U64 bl)] _ rfl (fun _ => bld26_0123 rfl rfl rfl rfl))⟩, ⟨_, rfl, AD rfl (DG [(0, U64 pv), (1, U64 ep), (2, .agg #[I64 k, .slice ao1 0 ca1, .slice ao2 0 ca2, U64 bl])] _ rfl (fun _ => bld29_012 rfl rfl (by simp [AP])))⟩, trivial⟩ rfl (AW rfl (AX 3 nb6 22 ([U64 0, U64 0, I64 0, .slice none 0 0, .slice none 0 0, U64 0] ++ cu8 (zr8 16)) 29 ([U64 pv, U64 ep, I64 k, .slice ao1 0 ca1, .slice ao2 0 ca2, U64 bl] ++ cu8 (zr8 16)) rfl rfl rfl E3 (by simp [(AP 16)]) (EO (by simp [Value.oneCell']) CD) (by simp [(AP 16)]) (A6 (by simp [(AP 16), (AP 16)])))) ?_
    show DP _ _ _ _ _ _ _ _ [_, _, _, ⟨nb6, [U64 pv, U64 ep, I64 k, .slice ao1 0 ca1, .slice ao2 0 ca2, U64 bl] ++ cu8 (zr8 16), 29, (0, 0)⟩]
    refine DE ⟨[6, 9, 14, 15], [0, 1, 2, 3, 4, 5, 7, 8, 10, 11, 12, 13], [0, 1, 2, 3, 4, 5, 7, 8, 10, 11, 12, 13], [], []⟩ rfl rfl (by decide +kernel) rfl trivial ?_
    refine CC (F' := [(10, Ptr nb6 0), (4, Ptr nb1 0), (8, Ptr nb3 0), (9, .nilIface)]) (by kernel_rfl) ?_
    refine GP [0, 2, 3] (by decide) ?_
    show JQ _ _ _ _ [_, _, _]
    refine JQ_cut (nb6, ao1, ca1, ao2, ca2) ⟨(by first | omega | (simp; done)), (by first | exact hc2 | omega | (simp; done)), (by first | omega | (simp; done)), (by first | exact hc4 | omega | (simp; done))⟩ (Sub.all rfl) rfl
   ·
    rintro v1 L1 ⟨nb5, hnb5, rfl, rfl⟩
    refine ⟨[], ?_⟩
    show DP _ _ _ _ _ _ _ _ [_, _, _, ⟨nb5, [U64 0, U64 0, I64 0, .slice none 0 0, .slice none 0 0, U64 0] ++ cu8 (zr8 16), 29, (0, 0)⟩]
    refine CU ⟨[6, 14], [0, 1, 2, 3, 4, 5, 7, 8, 10, 11], [4, 5], [0, 1, 2, 3, 7, 8, 10, 11], [9]⟩ 9 _ rfl rfl (by decide +kernel) rfl ⟨AU rfl rfl rfl, AU rfl rfl rfl, ⟨_, rfl, AD rfl (AH 0 3 1 A2 rfl DR rfl rfl)⟩, ⟨_, rfl, AD rfl (AL rfl (AZ DC (AR 1 rfl (Seg.head))))⟩, ⟨_, rfl, AD rfl (AH 2 24 1 A2 rfl DS rfl rfl)⟩, ⟨_, rfl, AD rfl (AL rfl (AZ ER (AR 1 rfl (AS (AS (Seg.head))))))⟩, ⟨_, rfl, AD rfl (AH 3 22 1 A2 rfl BC rfl rfl)⟩, ⟨_, rfl, AD rfl (AL rfl (AZ BG (AR 1 rfl (AS (AS (AS (Seg.head)))))))⟩, trivial⟩ rfl (AW rfl (CH 113 [.slice sa 0 sc] _ (A4 _ Tryd.call113 rfl) (fun w1 hw1 => cloneSZ_w sa sc w1 (by omega) hnS))) ?_
    rintro v1 L1 ⟨_, ⟨ao3, ca3, rfl, rfl, hc5, hc6⟩, rfl⟩
    refine ⟨[(12, .agg #[I64 k, .slice ao1 0 ca1, .slice ao3 0 ca3, U64 bl]), (13, .agg ([U64 pv, U64 ep, I64 k, .slice ao1 0 ca1, .slice ao3 0 ca3, U64 bl] ++ cu8 (zr8 16)).toArray)], ?_⟩
    show DP _ _ _ _ _ _ _ _ [_, _, _, _]
    refine C2 ⟨[6, 14, 9], [0, 1, 2, 3, 4, 5, 7, 8, 10, 11, 12, 13], [4, 5, 7, 8], [0, 1, 2, 3, 10, 11, 12, 13], [15]⟩ 15 rfl rfl (by decide +kernel) rfl ⟨AU rfl rfl rfl, AU rfl rfl rfl, ⟨_, rfl, AD rfl (AH 0 3 1 A2 rfl DR rfl rfl)⟩, ⟨_, rfl, AD rfl (AL rfl (AZ DC (AR 1 rfl (Seg.head))))⟩, ⟨_, rfl, AD rfl (AH 3 22 1 A2 rfl BC rfl rfl)⟩, ⟨_, rfl, AD rfl (AL rfl (AZ BG (AR 1 rfl (AS (AS (AS (Seg.head)))))))⟩, ⟨_, rfl, AD rfl (DG [(0, I64 k), (1, .slice ao1 0 ca1), (2, .slice ao3 0 ca3), (3, U64 bl)] _ rfl (fun _ => bld26_0123 rfl rfl rfl rfl))⟩, ⟨_, rfl, AD rfl (DG [(0, U64 pv), (1, U64 ep), (2, .agg #[I64 k, .slice ao1 0 ca1, .slice ao3 0 ca3, U64 bl])] _ rfl (fun _ => bld29_012 rfl rfl (by simp [AP])))⟩, trivial⟩ rfl (AW rfl (AX 3 nb5 22 ([U64 0, U64 0, I64 0, .slice none 0 0, .slice none 0 0, U64 0] ++ cu8 (zr8 16)) 29 ([U64 pv, U64 ep, I64 k, .slice ao1 0 ca1, .slice ao3 0 ca3, U64 bl] ++ cu8 (zr8 16)) rfl rfl rfl E3 (by simp [(AP 16)]) (EO (by simp [Value.oneCell']) CD) (by simp [(AP 16)]) (A6 (by simp [(AP 16), (AP 16)])))) ?_
    show DP _ _ _ _ _ _ _ _ [_, _, _, ⟨nb5, [U64 pv, U64 ep, I64 k, .slice ao1 0 ca1, .slice ao3 0 ca3, U64 bl] ++ cu8 (zr8 16), 29, (0, 0)⟩]
    refine DE ⟨[6, 14, 9, 15], [0, 1, 2, 3, 4, 5, 7, 8, 10, 11, 12, 13], [0, 1, 2, 3, 4, 5, 7, 8, 10, 11, 12, 13], [], []⟩ rfl rfl (by decide +kernel) rfl trivial ?_
    refine CC (F' := [(10, Ptr nb5 0), (4, Ptr nb1 0), (8, Ptr nb3 0), (9, .nilIface)]) (by kernel_rfl) ?_
    refine GP [0, 2, 3] (by decide) ?_
    show JQ _ _ _ _ [_, _, _]
    refine JQ_cut (nb5, ao1, ca1, ao3, ca3) ⟨(by first | omega | (simp; done)), (by first | exact hc2 | omega | (simp; done)), (by first | omega | (simp; done)), (by first | exact hc6 | omega | (simp; done))⟩ (Sub.all rfl) rfl
  ·
   rintro v1 L1 ⟨nb4, hnb4, rfl, rfl⟩
   refine ⟨[], ?_⟩
   show DP _ _ _ _ _ _ _ _ [_, _, _, ⟨nb4, [U64 0, U64 0, I64 0, .slice none 0 0, .slice none 0 0, U64 0] ++ cu8 (zr8 16), 29, (0, 0)⟩]
   refine CU ⟨[14], [0, 1, 2, 3, 4, 5, 7, 8, 10, 11], [], [0, 1, 2, 3, 4, 5, 7, 8, 10, 11], [6]⟩ 6 _ rfl rfl (by decide +kernel) rfl ⟨AU rfl rfl rfl, AU rfl rfl rfl, ⟨_, rfl, AD rfl (AH 0 3 1 A2 rfl DR rfl rfl)⟩, ⟨_, rfl, AD rfl (AL rfl (AZ DC (AR 1 rfl (Seg.head))))⟩, ⟨_, rfl, AD rfl (AH 1 23 1 A2 rfl CV rfl rfl)⟩, ⟨_, rfl, AD rfl (AL rfl (AZ DB (AR 1 rfl (AS (Seg.head)))))⟩, ⟨_, rfl, AD rfl (AH 2 24 1 A2 rfl DS rfl rfl)⟩, ⟨_, rfl, AD rfl (AL rfl (AZ ER (AR 1 rfl (AS (AS (Seg.head))))))⟩, ⟨_, rfl, AD rfl (AH 3 22 1 A2 rfl BC rfl rfl)⟩, ⟨_, rfl, AD rfl (AL rfl (AZ BG (AR 1 rfl (AS (AS (AS (Seg.head)))))))⟩, trivial⟩ rfl (AW rfl (CH 112 [.slice ai 0 ci] _ (A4 _ Tryd.call112 rfl) (fun w1 hw1 => clone64Z_w ai ci w1 (by omega) hnI))) ?_
   rintro v1 L1 ⟨_, ⟨ao4, ca4, rfl, rfl, hc7, hc8⟩, rfl⟩
   refine ⟨[], ?_⟩
   show DP _ _ _ _ _ _ _ _ [_, _, _, _]
   refine CU ⟨[14, 6], [0, 1, 2, 3, 4, 5, 7, 8, 10, 11], [4, 5], [0, 1, 2, 3, 7, 8, 10, 11], [9]⟩ 9 _ rfl rfl (by decide +kernel) rfl ⟨AU rfl rfl rfl, AU rfl rfl rfl, ⟨_, rfl, AD rfl (AH 0 3 1 A2 rfl DR rfl rfl)⟩, ⟨_, rfl, AD rfl (AL rfl (AZ DC (AR 1 rfl (Seg.head))))⟩, ⟨_, rfl, AD rfl (AH 2 24 1 A2 rfl DS rfl rfl)⟩, ⟨_, rfl, AD rfl (AL rfl (AZ ER (AR 1 rfl (AS (AS (Seg.head))))))⟩, ⟨_, rfl, AD rfl (AH 3 22 1 A2 rfl BC rfl rfl)⟩, ⟨_, rfl, AD rfl (AL rfl (AZ BG (AR 1 rfl (AS (AS (AS (Seg.head)))))))⟩, trivial⟩ rfl (AW rfl (CH 113 [.slice sa 0 sc] _ (A4 _ Tryd.call113 rfl) (fun w1 hw1 => cloneSZ_w sa sc w1 (by omega) hnS))) ?_
   rintro v1 L1 ⟨_, ⟨ao5, ca5, rfl, rfl, hc9, hc10⟩, rfl⟩
   refine ⟨[(12, .agg #[I64 k, .slice ao4 0 ca4, .slice ao5 0 ca5, U64 bl]), (13, .agg ([U64 pv, U64 ep, I64 k, .slice ao4 0 ca4, .slice ao5 0 ca5, U64 bl] ++ cu8 (zr8 16)).toArray)], ?_⟩
   show DP _ _ _ _ _ _ _ _ [_, _, _, _]
   refine C2 ⟨[14, 6, 9], [0, 1, 2, 3, 4, 5, 7, 8, 10, 11, 12, 13], [4, 5, 7, 8], [0, 1, 2, 3, 10, 11, 12, 13], [15]⟩ 15 rfl rfl (by decide +kernel) rfl ⟨AU rfl rfl rfl, AU rfl rfl rfl, ⟨_, rfl, AD rfl (AH 0 3 1 A2 rfl DR rfl rfl)⟩, ⟨_, rfl, AD rfl (AL rfl (AZ DC (AR 1 rfl (Seg.head))))⟩, ⟨_, rfl, AD rfl (AH 3 22 1 A2 rfl BC rfl rfl)⟩, ⟨_, rfl, AD rfl (AL rfl (AZ BG (AR 1 rfl (AS (AS (AS (Seg.head)))))))⟩, ⟨_, rfl, AD rfl (DG [(0, I64 k), (1, .slice ao4 0 ca4), (2, .slice ao5 0 ca5), (3, U64 bl)] _ rfl (fun _ => bld26_0123 rfl rfl rfl rfl))⟩, ⟨_, rfl, AD rfl (DG [(0, U64 pv), (1, U64 ep), (2, .agg #[I64 k, .slice ao4 0 ca4, .slice ao5 0 ca5, U64 bl])] _ rfl (fun _ => bld29_012 rfl rfl (by simp [AP])))⟩, trivial⟩ rfl (AW rfl (AX 3 nb4 22 ([U64 0, U64 0, I64 0, .slice none 0 0, .slice none 0 0, U64 0] ++ cu8 (zr8 16)) 29 ([U64 pv, U64 ep, I64 k, .slice ao4 0 ca4, .slice ao5 0 ca5, U64 bl] ++ cu8 (zr8 16)) rfl rfl rfl E3 (by simp [(AP 16)]) (EO (by simp [Value.oneCell']) CD) (by simp [(AP 16)]) (A6 (by simp [(AP 16), (AP 16)])))) ?_
   show DP _ _ _ _ _ _ _ _ [_, _, _, ⟨nb4, [U64 pv, U64 ep, I64 k, .slice ao4 0 ca4, .slice ao5 0 ca5, U64 bl] ++ cu8 (zr8 16), 29, (0, 0)⟩]
   refine DE ⟨[14, 6, 9, 15], [0, 1, 2, 3, 4, 5, 7, 8, 10, 11, 12, 13], [0, 1, 2, 3, 4, 5, 7, 8, 10, 11, 12, 13], [], []⟩ rfl rfl (by decide +kernel) rfl trivial ?_
   refine CC (F' := [(10, Ptr nb4 0), (4, Ptr nb1 0), (8, Ptr nb3 0), (9, .nilIface)]) (by kernel_rfl) ?_
   refine GP [0, 2, 3] (by decide) ?_
   show JQ _ _ _ _ [_, _, _]
   refine JQ_cut (nb4, ao4, ca4, ao5, ca5) ⟨(by first | omega | (simp; done)), (by first | exact hc8 | omega | (simp; done)), (by first | omega | (simp; done)), (by first | exact hc10 | omega | (simp; done))⟩ (Sub.all rfl) rfl
 ·
  rintro ⟨ynb0, yao1, yca2, yao3, yca4⟩ ⟨hy1, hy2, hy3, hy4⟩
  show JQ _ _ _ [(4, Ptr nb1 0), (8, Ptr nb3 0), (9, .nilIface), (10, Ptr ynb0 0)] [⟨nb1, cu8 key, 54, (0, 0)⟩, ⟨nb3, [U64 0, U64 0, I64 0, .slice none 0 0, .slice none 0 0, U64 0] ++ cu8 (zr8 16), 29, (0, 0)⟩, ⟨ynb0, [U64 pv, U64 ep, I64 k, .slice yao1 0 yca2, .slice yao3 0 yca4, U64 bl] ++ cu8 (zr8 16), 29, (0, 0)⟩]
  refine AC (AF (AB (AA (.agg ([U64 pv, U64 ep, I64 k, .slice yao1 0 yca2, .slice yao3 0 yca4, U64 bl] ++ cu8 (zr8 16)).toArray) (AL rfl (BH Tryd.isAgg29 E3 (by simp [(AP 16)]) (AR 2 rfl (AN _)))) rfl ?_)))
  refine AV (CH 114 [.agg ([U64 pv, U64 ep, I64 k, .slice yao1 0 yca2, .slice yao3 0 yca4, U64 bl] ++ cu8 (zr8 16)).toArray] _ (A4 _ Tryd.call114 rfl) (fun w1 hw1 => text_w pv ep k yao1 0 yca2 ([] : List UInt64) yao3 0 yca4 ([] : List SealR) bl (zr8 16) tot w1 rfl (by omega) (by omega) (by omega) RdV.nil rfl (by omega) (by omega) (by omega) RdV.nil (AP 16) hmay (by omega) (by omega) htot)) rfl ?_
  rintro v1 L1 ⟨_, ⟨nb7, sp1, cp1, rfl, rfl, hc11, hc12, hc13⟩, rfl⟩
  show JL _ _ _ _ ((29, .tuple #[Slc nb7 0 tot cp1, .nilIface]) :: _) [_, _, _, ⟨nb7, cu8 (tktT pv ep k ([] : List UInt64) ([] : List SealR) bl) ++ sp1, 5, (0, 0)⟩]
  refine AA _ (AG rfl) rfl ?_
  refine AA _ (BS rfl rfl) rfl ?_
  refine AA _ (BS rfl rfl) rfl ?_
  refine AA _ (AE rfl) rfl ?_
  refine AA _ (AE rfl) rfl ?_
  refine AI (AC (AF (AF (AB (AA _ (AG rfl) rfl ?_)))))
  refine AA (.bool false) (FQ _ _ _ rfl rfl (fun _ => GI ..) fun _ => F6 DU) rfl ?_
  refine AI (AC (DV _ rfl rfl ?_))
  refine BJ (AC (AF (CT 44 4 [(0, Ptr ynb0 6), (1, Slc ynb0 6 16 16), (2, Slc nb1 0 32 32), (3, Slc nb7 0 tot cp1)] BL rfl (by decide +kernel) ?_)))
  refine CU ⟨[], [0, 1, 2, 3], [], [0, 1, 2, 3], [4]⟩ 4 _ rfl rfl (by decide +kernel) rfl ⟨⟨_, rfl, AD rfl (AH 6 27 16 BN rfl AT rfl rfl)⟩, ⟨_, rfl, AD rfl (B1 16 5 1 0 16 6 16 BF AM rfl rfl rfl (by omega) (by omega) (by omega) (by omega) (by omega) 16 (by omega))⟩, ⟨_, rfl, AD rfl (B1 32 5 1 0 32 0 32 B4 AM rfl rfl rfl (by omega) (by omega) (by omega) (by omega) (by omega) 32 (by omega))⟩, AU rfl rfl rfl, trivial⟩ rfl (AW rfl (BT 43 1 _ [(0, Slc nb7 0 tot cp1)] ([Slc nb7 0 tot cp1]) FE CJ Tryd.zeroValue43 rfl rfl rfl (by kernel_rfl))) ?_
  rintro v1 L1 ⟨nb8, hnb8, rfl, rfl⟩
  refine ⟨[], ?_⟩
  show DP _ _ _ _ _ _ _ _ [_, _, _, _, ⟨nb8, [Slc nb7 0 tot cp1], 43, (0, 0)⟩]
  refine CU ⟨[4], [0, 1, 2, 3], [3], [0, 1, 2], [5]⟩ 5 _ rfl rfl (by decide +kernel) rfl ⟨⟨_, rfl, AD rfl (AH 6 27 16 BN rfl AT rfl rfl)⟩, ⟨_, rfl, AD rfl (B1 16 5 1 0 16 6 16 BF AM rfl rfl rfl (by omega) (by omega) (by omega) (by omega) (by omega) 16 (by omega))⟩, ⟨_, rfl, AD rfl (B1 32 5 1 0 32 0 32 B4 AM rfl rfl rfl (by omega) (by omega) (by omega) (by omega) (by omega) 32 (by omega))⟩, trivial⟩ rfl (AW rfl (CH 90 [Slc nb1 0 32 32, Slc nb8 0 1 1] _ (A4 _ Tryd.call90 rfl) (fun w1 hw1 => short_c (some ⟨nb1, 0, none⟩) 32 32 key nb8 1 [Slc nb7 0 tot cp1] [tktT pv ep k ([] : List UInt64) ([] : List SealR) bl] w1 hk32 (fun h => by cases h) (by omega) (RdB.of hw1 (AR 0 rfl (AN _)) (by simp)) (by simp) (by simp) (by simp) ⟨RdA.of hw1 (AR 4 rfl (Seg.head)) (by simp), ⟨⟨(some ⟨nb7, 0, none⟩), cp1, congrArg (fun n => Value.slice (some ⟨nb7, 0, none⟩) n cp1) ((show (tktT pv ep k ([] : List UInt64) ([] : List SealR) bl).length = tot from ((tktT_len rfl rfl).trans htot))).symm, (RdB.of hw1 (AR 3 rfl (BE (AN _))) (by simp))⟩, trivial⟩⟩ (by simp only [List.flatten_cons, List.flatten_nil, List.length_append, List.length_nil, (show (tktT pv ep k ([] : List UInt64) ([] : List SealR) bl).length = tot from ((tktT_len rfl rfl).trans htot))]; omega) (hG.at hw1)))) ?_
  rintro v1 L1 ⟨_, ⟨nb9, sp2, cp2, rfl, rfl, hc14, hc15, hc16⟩, rfl⟩
  refine ⟨[], ?_⟩
  show DP _ _ _ _ _ _ _ _ [_, _, _, _, _, ⟨nb9, cu8 (mid (macL key ([tktT pv ep k ([] : List UInt64) ([] : List SealR) bl].flatten)) 0 16) ++ sp2, 5, (0, 0)⟩]
  refine C2 ⟨[4, 5], [0, 1, 2, 3], [2, 3], [0, 1], [6]⟩ 6 rfl rfl (by decide +kernel) rfl ⟨⟨_, rfl, AD rfl (AH 6 27 16 BN rfl AT rfl rfl)⟩, ⟨_, rfl, AD rfl (B1 16 5 1 0 16 6 16 BF AM rfl rfl rfl (by omega) (by omega) (by omega) (by omega) (by omega) 16 (by omega))⟩, trivial⟩ rfl (AW rfl (GF 43 43 5 2 ynb0 6 16 16 ([U64 pv, U64 ep, I64 k, .slice yao1 0 yca2, .slice yao3 0 yca4, U64 bl] ++ cu8 (zr8 16)) 29 (some ⟨nb9, 0, none⟩) 16 cp2 16 (cu8 (mid (macL key ([tktT pv ep k ([] : List UInt64) ([] : List SealR) bl].flatten)) 0 16)) ([U64 pv, U64 ep, I64 k, .slice yao1 0 yca2, .slice yao3 0 yca4, U64 bl] ++ cu8 (mid (macL key ([tktT pv ep k ([] : List UInt64) ([] : List SealR) bl].flatten)) 0 16)) AK FK rfl rfl rfl rfl (by rw [cu8_length]; exact (show (mid (macL key ([tktT pv ep k ([] : List UInt64) ([] : List SealR) bl].flatten)) 0 16).length = 16 from D8 (by rw [CB]; omega))) (SrcAt.mem (AR 5 rfl (BE (AN _)))) (by simp [(AP 16)]; try omega) (by first | exact CD | exact CS | exact CR | (simp [cu8, cu32, cu64, Value.oneCell']; done)) (lay_right 6 0 rfl rfl (A6 (by rw [cu8_length, cu8_length]; first | exact ((show (mid (macL key ([tktT pv ep k ([] : List UInt64) ([] : List SealR) bl].flatten)) 0 16).length = 16 from D8 (by rw [CB]; omega))).trans ((AP 16)).symm | exact ((AP 16)).trans ((show (mid (macL key ([tktT pv ep k ([] : List UInt64) ([] : List SealR) bl].flatten)) 0 16).length = 16 from D8 (by rw [CB]; omega))).symm))))) ?_
  show DP _ _ _ _ _ _ _ _ [_, _, ⟨ynb0, [U64 pv, U64 ep, I64 k, .slice yao1 0 yca2, .slice yao3 0 yca4, U64 bl] ++ cu8 (mid (macL key ([tktT pv ep k ([] : List UInt64) ([] : List SealR) bl].flatten)) 0 16), 29, (0, 0)⟩, _, _, _]
  refine DE ⟨[4, 5, 6], [0, 1, 2, 3], [0, 1, 2, 3], [], []⟩ rfl rfl (by decide +kernel) rfl trivial ?_
  refine CC (F' := [(8, Ptr nb3 0), (9, .nilIface), (10, Ptr ynb0 0)]) (by kernel_rfl) ?_
  refine AC (AF ?_)
  rw [tkG_of key pv ep k ([] : List UInt64) ([] : List SealR) bl]
  show JC _ _ _ _ [⟨nb1, cu8 key, 54, (0, 0)⟩, ⟨nb3, [U64 0, U64 0, I64 0, .slice none 0 0, .slice none 0 0, U64 0] ++ cu8 (zr8 16), 29, (0, 0)⟩, ⟨ynb0, [U64 pv, U64 ep, I64 k, .slice yao1 0 yca2, .slice yao3 0 yca4, U64 bl] ++ cu8 (tkG key pv ep k ([] : List UInt64) ([] : List SealR) bl), 29, (0, 0)⟩, ⟨nb7, cu8 (tktT pv ep k ([] : List UInt64) ([] : List SealR) bl) ++ sp1, 5, (0, 0)⟩, ⟨nb8, [Slc nb7 0 tot cp1], 43, (0, 0)⟩, ⟨nb9, cu8 (tkG key pv ep k ([] : List UInt64) ([] : List SealR) bl) ++ sp2, 5, (0, 0)⟩]
  refine AB (AA (.agg ([U64 pv, U64 ep, I64 k, .slice yao1 0 yca2, .slice yao3 0 yca4, U64 bl] ++ cu8 (tkG key pv ep k ([] : List UInt64) ([] : List SealR) bl)).toArray) (AL rfl (BH Tryd.isAgg29 E3 (by simp [(tkG_len _ _ _ _ _ _ _)]) (AR 2 rfl (AN _)))) rfl ?_)
  refine A0 (AX 1 nb3 22 ([U64 0, U64 0, I64 0, .slice none 0 0, .slice none 0 0, U64 0] ++ cu8 (zr8 16)) 29 ([U64 pv, U64 ep, I64 k, .slice yao1 0 yca2, .slice yao3 0 yca4, U64 bl] ++ cu8 (tkG key pv ep k ([] : List UInt64) ([] : List SealR) bl)) rfl rfl rfl E3 (by simp [(tkG_len _ _ _ _ _ _ _)]) (EO (by simp [Value.oneCell']) CD) (by simp [(AP 16)]) (A6 (by simp [(AP 16), (tkG_len _ _ _ _ _ _ _)]))) rfl ?_
  show JL _ _ _ _ _ [_, ⟨nb3, [U64 pv, U64 ep, I64 k, .slice yao1 0 yca2, .slice yao3 0 yca4, U64 bl] ++ cu8 (tkG key pv ep k ([] : List UInt64) ([] : List SealR) bl), 29, (0, 0)⟩, _, _, _, _]
  refine AA _ (AE rfl) rfl ?_
  refine AI (AC (BO (CA [false, true, false, false, false, false] ?_)))
  show JQ _ _ _ _ [_]
  refine BQ (.tuple #[.agg ([U64 pv, U64 ep, I64 k, .slice yao1 0 yca2, .slice yao3 0 yca4, U64 bl] ++ cu8 (tkG key pv ep k ([] : List UInt64) ([] : List SealR) bl)).toArray, .nilIface]) (res2 Tryd.results46 (DY rfl (BH Tryd.isAgg29 E3 (by simp [(tkG_len _ _ _ _ _ _ _)]) (AR 0 rfl (AN _)))) (B2 rfl)) fun w1 hw1 => ?_
  exact ⟨_, _, rfl, ⟨yao1, yca2, yao3, yca4, rfl, rfl, (by omega), hy2, (by omega), hy4⟩, hw1.sub (by simp) (by simp)⟩
theorem bld38_0123 {w : World} {v0 : Value} {v1 : Value} {c2 : List Value} {c3 : List Value} (h0 : v0.cells = [v0].toArray) (h1 : v1.cells = [v1].toArray) (h2 : c2.length = 4) (h3 : c3.length = 16) : (Instr.build 38 ([(0, v0), (1, v1), (2, .agg c2.toArray), (3, .agg c3.toArray)] : List (Nat × Value)).toArray).run Tryd.prog w = .ok (.agg (((([v0] : List Value) ++ ([v1] : List Value)) ++ c2) ++ c3).toArray) w :=
 EH (places := #[(0, 1), (1, 1), (2, 4), (6, 16)]) (Z := (([U64 0] : List Value) ++ (([U64 0] : List Value) ++ (([I64 0, .slice none 0 0, .slice none 0 0, U64 0] : List Value) ++ ((cu8 (zr8 16) : List Value) ++ []))))) (fun _ => by kernel_rfl) C8 (fun _ => by kernel_rfl) ((F1 ([U64 0] : List Value) (([U64 0] : List Value) ++ (([I64 0, .slice none 0 0, .slice none 0 0, U64 0] : List Value) ++ ((cu8 (zr8 16) : List Value) ++ []))) ([v0] : List Value) h0 (by simp [AP]) rfl).trans ((EW ([v0] : List Value) ([U64 0] : List Value) (([I64 0, .slice none 0 0, .slice none 0 0, U64 0] : List Value) ++ ((cu8 (zr8 16) : List Value) ++ [])) ([v1] : List Value) h1 (by simp [AP]) rfl).trans ((EW (([v0] : List Value) ++ ([v1] : List Value)) ([I64 0, .slice none 0 0, .slice none 0 0, U64 0] : List Value) ((cu8 (zr8 16) : List Value) ++ []) c2 rfl (by simp [AP, h2]) (by simp [h2, AP])).trans ((EW ((([v0] : List Value) ++ ([v1] : List Value)) ++ c2) (cu8 (zr8 16) : List Value) [] c3 rfl (by simp [AP, h2, h3]) (by simp [h3, AP])).trans (by simp [Instr.fill])))))
theorem docTZ_c (pv ep : UInt64) (kd : Int) (ai : Option Addr) (ni ci : Nat) (l : List UInt64) (sa : Option Addr) (sc : Nat) (bl : UInt64) (tg : List UInt8)  (w : World) (hl : l.length = ni) (hnm : ni ≤ 2000000) (hnc : ni ≤ ci) (hcm : ci ≤ maxLen) (hv : RdV w ai (cu64 l)) (hcs : sc ≤ maxLen) (hnS : sa = none → sc = 0) (htg : tg.length = 16)  : Calls Tryd.prog 44 #[.agg ([U64 pv, U64 ep, I64 (kd), .slice ai ni ci, .slice sa 0 sc, U64 bl] ++ cu8 tg).toArray] w (Post w [] (fun v L => v = .agg ([U64 pv, U64 ep, I64 kd, .slice ai ni ci, .slice none 0 0, U64 bl] ++ cu8 tg).toArray ∧ L = [])) := by
 have hmx : maxLen = 9223372036854775807 := rfl
 refine enter (P := Tryd.prog) (f := 44) (fn := Tryd.f44) w [] 13 [] [.agg ([U64 pv, U64 ep, I64 (kd), .slice ai ni ci, .slice sa 0 sc, U64 bl] ++ cu8 tg).toArray] Tryd.func44 rfl rfl (by simp) (BR (by simp) (by simp) (by simp)) ?_
 show JC _ _ _ [(0, .agg ([U64 pv, U64 ep, I64 (kd), .slice ai ni ci, .slice sa 0 sc, U64 bl] ++ cu8 tg).toArray)] _
 refine AF (AB (AV (CG (.agg ([U64 pv, U64 ep, I64 (kd), .slice ai ni ci, .slice sa 0 sc, U64 bl] ++ cu8 tg).toArray) ([U64 pv, U64 ep, I64 (kd), .slice ai ni ci, .slice sa 0 sc, U64 bl] ++ cu8 tg) rfl (by first | rfl | simp)) rfl ?_))
 rintro v1 L1 ⟨nb1, hnb1, rfl, rfl⟩
 show JL _ _ _ _ ((1, Ptr nb1 0) :: _) [⟨nb1, [U64 pv, U64 ep, I64 (kd), .slice ai ni ci, .slice sa 0 sc, U64 bl] ++ cu8 tg, 29, (0, 0)⟩]
 refine AV (A7 _ ([U64 0, U64 0, I64 0, .slice none 0 0, .slice none 0 0, U64 0] ++ cu8 (zr8 16)) Tryd.zeroValue38 (by kernel_rfl)) rfl ?_
 rintro v1 L1 ⟨nb2, hnb2, rfl, rfl⟩
 show JL _ _ _ _ ((2, Ptr nb2 0) :: _) [_, ⟨nb2, [U64 0, U64 0, I64 0, .slice none 0 0, .slice none 0 0, U64 0] ++ cu8 (zr8 16), 38, (0, 0)⟩]
 refine AI (AC (AF (CT 13 3 [(0, Ptr nb1 0), (1, U64 pv), (2, Ptr nb1 1), (3, U64 ep), (4, Ptr nb1 2), (5, .agg #[I64 (kd), .slice ai ni ci, .slice sa 0 sc, U64 bl]), (7, Ptr nb1 6), (8, .agg (cu8 tg).toArray)] BL rfl (by decide +kernel) ?_)))
 refine CU ⟨[], [0, 1, 2, 3, 4, 5, 7, 8], [], [0, 1, 2, 3, 4, 5, 7, 8], [6]⟩ 6 _ rfl rfl (by decide +kernel) rfl ⟨⟨_, rfl, AD rfl (AH 0 22 1 BN rfl BC rfl rfl)⟩, ⟨_, rfl, AD rfl (AL rfl (AZ BG (AR 0 rfl (BE (Seg.head)))))⟩, ⟨_, rfl, AD rfl (AH 1 22 1 BN rfl BC rfl rfl)⟩, ⟨_, rfl, AD rfl (AL rfl (AZ BG (AR 0 rfl (BE (AS (Seg.head))))))⟩, ⟨_, rfl, AD rfl (AH 2 26 4 BN rfl B7 rfl rfl)⟩, ⟨_, rfl, AD rfl (AL rfl (BH EQ B7 rfl (AR 0 rfl (Seg.split (p := [U64 pv, U64 ep]) (q := cu8 tg) (vs := [I64 (kd), .slice ai ni ci, .slice sa 0 sc, U64 bl]) (by first | rfl | (simp only [List.append_assoc, List.nil_append, List.append_nil, List.cons_append]; done)) rfl))))⟩, ⟨_, rfl, AD rfl (AH 6 27 16 BN rfl AT rfl rfl)⟩, ⟨_, rfl, AD rfl (AL rfl (BH BM AT (A8 htg) (AR 0 rfl (Seg.right 6 0 rfl rfl (AN _)))))⟩, trivial⟩ rfl (AW rfl (AY 66 [.agg #[I64 (kd), .slice ai ni ci, .slice sa 0 sc, U64 bl]] (.agg #[I64 (kd), .slice ai ni ci, .slice none 0 0, U64 bl]) (A4 _ Tryd.call66 rfl) (fun w1 hw1 => order0_c (kd) ai ni ci l sa 0 sc ([] : List SealR) bl w1 hl (by omega) (by omega) (by omega) (FT hw1 rfl hv) rfl (by omega) (by omega) (by omega) RdV.nil rfl))) ?_
 rintro v1 L1 ⟨rfl, rfl⟩
 refine ⟨[(9, .agg ([U64 pv, U64 ep, I64 (kd), .slice ai ni ci, .slice none 0 0, U64 bl] ++ cu8 tg).toArray)], ?_⟩
 show DP _ _ _ _ _ _ _ _ [_, _]
 refine C2 ⟨[6], [0, 1, 2, 3, 4, 5, 7, 8, 9], [4, 5], [0, 1, 2, 3, 7, 8, 9], [10]⟩ 10 rfl rfl (by decide +kernel) rfl ⟨⟨_, rfl, AD rfl (AH 0 22 1 BN rfl BC rfl rfl)⟩, ⟨_, rfl, AD rfl (AL rfl (AZ BG (AR 0 rfl (BE (Seg.head)))))⟩, ⟨_, rfl, AD rfl (AH 1 22 1 BN rfl BC rfl rfl)⟩, ⟨_, rfl, AD rfl (AL rfl (AZ BG (AR 0 rfl (BE (AS (Seg.head))))))⟩, ⟨_, rfl, AD rfl (AH 6 27 16 BN rfl AT rfl rfl)⟩, ⟨_, rfl, AD rfl (AL rfl (BH BM AT (A8 htg) (AR 0 rfl (Seg.right 6 0 rfl rfl (AN _)))))⟩, ⟨_, rfl, AD rfl (DG [(0, U64 pv), (1, U64 ep), (2, .agg #[I64 (kd), .slice ai ni ci, .slice none 0 0, U64 bl]), (3, .agg (cu8 tg).toArray)] _ rfl (fun _ => bld38_0123 rfl rfl (by simp [AP]) (by simp [AP, htg])))⟩, trivial⟩ rfl (AW rfl (AX 1 nb2 22 ([U64 0, U64 0, I64 0, .slice none 0 0, .slice none 0 0, U64 0] ++ cu8 (zr8 16)) 38 ([U64 pv, U64 ep, I64 (kd), .slice ai ni ci, .slice none 0 0, U64 bl] ++ cu8 tg) rfl rfl rfl Tryd.sizeOf38 (by simp [htg]) (EO (by simp [Value.oneCell']) CD) (by simp [(AP 16)]) (A6 (by simp [(AP 16), htg])))) ?_
 show DP _ _ _ _ _ _ _ _ [_, ⟨nb2, [U64 pv, U64 ep, I64 (kd), .slice ai ni ci, .slice none 0 0, U64 bl] ++ cu8 tg, 38, (0, 0)⟩]
 refine DE ⟨[6, 10], [0, 1, 2, 3, 4, 5, 7, 8, 9], [0, 1, 2, 3, 4, 5, 7, 8, 9], [], []⟩ rfl rfl (by decide +kernel) rfl trivial ?_
 refine CC (F' := [(2, Ptr nb2 0)]) (by kernel_rfl) ?_
 refine AC (BO (CA [false, true] ?_))
 show JQ _ _ _ _ [_]
 refine BQ (.agg ([U64 pv, U64 ep, I64 (kd), .slice ai ni ci, .slice none 0 0, U64 bl] ++ cu8 tg).toArray) (res1 Tryd.results44 (DY rfl (BH Tryd.isAgg38 Tryd.sizeOf38 (by simp [htg]) (AR 0 rfl (AN _))))) fun w1 hw1 => ?_
 exact ⟨_, [], rfl, ⟨rfl, rfl⟩, hw1.sub (by simp) (by simp)⟩
theorem docTP_c (pv ep : UInt64) (kd : Int) (ai : Option Addr) (ni ci : Nat) (l : List UInt64) (sa : Option Addr) (ns sc : Nat) (ls : List SealR) (bl : UInt64) (tg : List UInt8)  (w : World) (hl : l.length = ni) (hnm : ni ≤ 2000000) (hnc : ni ≤ ci) (hcm : ci ≤ maxLen) (hv : RdV w ai (cu64 l)) (hls : ls.length = ns) (hnn : ns ≤ 2000000) (hnd : ns ≤ sc) (hcn : sc ≤ maxLen) (hs : RdV w sa (ls.flatMap sealC)) (hp0 : 0 < ns) (htg : tg.length = 16)  : Calls Tryd.prog 44 #[.agg ([U64 pv, U64 ep, I64 (kd), .slice ai ni ci, .slice sa ns sc, U64 bl] ++ cu8 tg).toArray] w (Post w [] (fun v L => ∃ g sp cap, v = .agg ([U64 pv, U64 ep, I64 kd, .slice ai ni ci, Slc g 0 ns cap, U64 bl] ++ cu8 tg).toArray ∧ L = [⟨g, ls.flatMap sealC ++ sp, 164, (0, 0)⟩] ∧ sp.length = cap * 49 - ns * 49 ∧ ns ≤ cap ∧ cap ≤ maxLen)) := by
 have hmx : maxLen = 9223372036854775807 := rfl
 refine enter (P := Tryd.prog) (f := 44) (fn := Tryd.f44) w [] 13 [] [.agg ([U64 pv, U64 ep, I64 (kd), .slice ai ni ci, .slice sa ns sc, U64 bl] ++ cu8 tg).toArray] Tryd.func44 rfl rfl (by simp) (BR (by simp) (by simp) (by simp)) ?_
 show JC _ _ _ [(0, .agg ([U64 pv, U64 ep, I64 (kd), .slice ai ni ci, .slice sa ns sc, U64 bl] ++ cu8 tg).toArray)] _
 refine AF (AB (AV (CG (.agg ([U64 pv, U64 ep, I64 (kd), .slice ai ni ci, .slice sa ns sc, U64 bl] ++ cu8 tg).toArray) ([U64 pv, U64 ep, I64 (kd), .slice ai ni ci, .slice sa ns sc, U64 bl] ++ cu8 tg) rfl (by first | rfl | simp)) rfl ?_))
 rintro v1 L1 ⟨nb1, hnb1, rfl, rfl⟩
 show JL _ _ _ _ ((1, Ptr nb1 0) :: _) [⟨nb1, [U64 pv, U64 ep, I64 (kd), .slice ai ni ci, .slice sa ns sc, U64 bl] ++ cu8 tg, 29, (0, 0)⟩]
 refine AV (A7 _ ([U64 0, U64 0, I64 0, .slice none 0 0, .slice none 0 0, U64 0] ++ cu8 (zr8 16)) Tryd.zeroValue38 (by kernel_rfl)) rfl ?_
 rintro v1 L1 ⟨nb2, hnb2, rfl, rfl⟩
 show JL _ _ _ _ ((2, Ptr nb2 0) :: _) [_, ⟨nb2, [U64 0, U64 0, I64 0, .slice none 0 0, .slice none 0 0, U64 0] ++ cu8 (zr8 16), 38, (0, 0)⟩]
 refine AI (AC (AF (CT 13 3 [(0, Ptr nb1 0), (1, U64 pv), (2, Ptr nb1 1), (3, U64 ep), (4, Ptr nb1 2), (5, .agg #[I64 (kd), .slice ai ni ci, .slice sa ns sc, U64 bl]), (7, Ptr nb1 6), (8, .agg (cu8 tg).toArray)] BL rfl (by decide +kernel) ?_)))
 refine CU ⟨[], [0, 1, 2, 3, 4, 5, 7, 8], [], [0, 1, 2, 3, 4, 5, 7, 8], [6]⟩ 6 _ rfl rfl (by decide +kernel) rfl ⟨⟨_, rfl, AD rfl (AH 0 22 1 BN rfl BC rfl rfl)⟩, ⟨_, rfl, AD rfl (AL rfl (AZ BG (AR 0 rfl (BE (Seg.head)))))⟩, ⟨_, rfl, AD rfl (AH 1 22 1 BN rfl BC rfl rfl)⟩, ⟨_, rfl, AD rfl (AL rfl (AZ BG (AR 0 rfl (BE (AS (Seg.head))))))⟩, ⟨_, rfl, AD rfl (AH 2 26 4 BN rfl B7 rfl rfl)⟩, ⟨_, rfl, AD rfl (AL rfl (BH EQ B7 rfl (AR 0 rfl (Seg.split (p := [U64 pv, U64 ep]) (q := cu8 tg) (vs := [I64 (kd), .slice ai ni ci, .slice sa ns sc, U64 bl]) (by first | rfl | (simp only [List.append_assoc, List.nil_append, List.append_nil, List.cons_append]; done)) rfl))))⟩, ⟨_, rfl, AD rfl (AH 6 27 16 BN rfl AT rfl rfl)⟩, ⟨_, rfl, AD rfl (AL rfl (BH BM AT (A8 htg) (AR 0 rfl (Seg.right 6 0 rfl rfl (AN _)))))⟩, trivial⟩ rfl (AW rfl (CH 66 [.agg #[I64 (kd), .slice ai ni ci, .slice sa ns sc, U64 bl]] _ (A4 _ Tryd.call66 rfl) (fun w1 hw1 => orderP_c (kd) ai ni ci l sa ns sc ls bl w1 hl (by omega) (by omega) (by omega) (FT hw1 rfl hv) hls (by omega) (by omega) (by omega) (FT hw1 rfl hs) (by omega)))) ?_
 rintro v1 L1 ⟨_, ⟨nb3, sp1, cp1, rfl, rfl, hc1, hc2, hc3⟩, rfl⟩
 refine ⟨[(9, .agg ([U64 pv, U64 ep, I64 (kd), .slice ai ni ci, Slc nb3 0 ns cp1, U64 bl] ++ cu8 tg).toArray)], ?_⟩
 show DP _ _ _ _ _ _ _ _ [_, _, ⟨nb3, (ls).flatMap sealC ++ sp1, 164, (0, 0)⟩]
 refine C2 ⟨[6], [0, 1, 2, 3, 4, 5, 7, 8, 9], [4, 5], [0, 1, 2, 3, 7, 8, 9], [10]⟩ 10 rfl rfl (by decide +kernel) rfl ⟨⟨_, rfl, AD rfl (AH 0 22 1 BN rfl BC rfl rfl)⟩, ⟨_, rfl, AD rfl (AL rfl (AZ BG (AR 0 rfl (BE (Seg.head)))))⟩, ⟨_, rfl, AD rfl (AH 1 22 1 BN rfl BC rfl rfl)⟩, ⟨_, rfl, AD rfl (AL rfl (AZ BG (AR 0 rfl (BE (AS (Seg.head))))))⟩, ⟨_, rfl, AD rfl (AH 6 27 16 BN rfl AT rfl rfl)⟩, ⟨_, rfl, AD rfl (AL rfl (BH BM AT (A8 htg) (AR 0 rfl (Seg.right 6 0 rfl rfl (AN _)))))⟩, ⟨_, rfl, AD rfl (DG [(0, U64 pv), (1, U64 ep), (2, .agg #[I64 (kd), .slice ai ni ci, Slc nb3 0 ns cp1, U64 bl]), (3, .agg (cu8 tg).toArray)] _ rfl (fun _ => bld38_0123 rfl rfl (by simp [AP]) (by simp [AP, htg])))⟩, trivial⟩ rfl (AW rfl (AX 1 nb2 22 ([U64 0, U64 0, I64 0, .slice none 0 0, .slice none 0 0, U64 0] ++ cu8 (zr8 16)) 38 ([U64 pv, U64 ep, I64 (kd), .slice ai ni ci, Slc nb3 0 ns cp1, U64 bl] ++ cu8 tg) rfl rfl rfl Tryd.sizeOf38 (by simp [htg]) (EO (by simp [Value.oneCell']) CD) (by simp [(AP 16)]) (A6 (by simp [(AP 16), htg])))) ?_
 show DP _ _ _ _ _ _ _ _ [_, ⟨nb2, [U64 pv, U64 ep, I64 (kd), .slice ai ni ci, Slc nb3 0 ns cp1, U64 bl] ++ cu8 tg, 38, (0, 0)⟩, _]
 refine DE ⟨[6, 10], [0, 1, 2, 3, 4, 5, 7, 8, 9], [0, 1, 2, 3, 4, 5, 7, 8, 9], [], []⟩ rfl rfl (by decide +kernel) rfl trivial ?_
 refine CC (F' := [(2, Ptr nb2 0)]) (by kernel_rfl) ?_
 refine AC (BO (CA [false, true, true] ?_))
 show JQ _ _ _ _ [_, _]
 refine BQ (.agg ([U64 pv, U64 ep, I64 (kd), .slice ai ni ci, Slc nb3 0 ns cp1, U64 bl] ++ cu8 tg).toArray) (res1 Tryd.results44 (DY rfl (BH Tryd.isAgg38 Tryd.sizeOf38 (by simp [htg]) (AR 0 rfl (AN _))))) fun w1 hw1 => ?_
 exact ⟨_, _, rfl, ⟨nb3, sp1, cp1, rfl, rfl, hc1, hc2, hc3⟩, hw1.sub (by simp) (by simp)⟩
theorem bld26_03 {w : World} {v0 : Value} {v3 : Value} (h0 : v0.cells = [v0].toArray) (h3 : v3.cells = [v3].toArray) : (Instr.build 26 ([(0, v0), (3, v3)] : List (Nat × Value)).toArray).run Tryd.prog w = .ok (.agg (((([v0] : List Value) ++ ([.slice none 0 0] : List Value)) ++ ([.slice none 0 0] : List Value)) ++ ([v3] : List Value)).toArray) w :=
 EH (places := #[(0, 1), (1, 1), (2, 1), (3, 1)]) (Z := (([I64 0] : List Value) ++ (([.slice none 0 0] : List Value) ++ (([.slice none 0 0] : List Value) ++ (([U64 0] : List Value) ++ []))))) (fun _ => by kernel_rfl) A2 (fun _ => by kernel_rfl) ((F1 ([I64 0] : List Value) (([.slice none 0 0] : List Value) ++ (([.slice none 0 0] : List Value) ++ (([U64 0] : List Value) ++ []))) ([v0] : List Value) h0 (by simp [AP]) rfl).trans ((F2 ([v0] : List Value) ([.slice none 0 0] : List Value) (([.slice none 0 0] : List Value) ++ (([U64 0] : List Value) ++ []))).trans ((F2 (([v0] : List Value) ++ ([.slice none 0 0] : List Value)) ([.slice none 0 0] : List Value) (([U64 0] : List Value) ++ [])).trans ((EW ((([v0] : List Value) ++ ([.slice none 0 0] : List Value)) ++ ([.slice none 0 0] : List Value)) ([U64 0] : List Value) [] ([v3] : List Value) h3 (by simp [AP]) rfl).trans (by simp [Instr.fill])))))
theorem alive13_c  (w : World) (hG : GLs w) : Calls Tryd.prog 43 #[] w (Post w [] (fun v L => v = .bool true ∧ L = [])) := by
 have hmx : maxLen = 9223372036854775807 := rfl
 refine enter w [] 39 [] [] Tryd.func43 rfl rfl (by simp) (BR (by simp) (by simp) (by simp)) ?_
 show JC _ _ _ [] _
 refine AF (AB (AA _ (AE rfl) rfl ?_))
 refine AI (AC (AF (AB (AA (.agg (cu8 ([(1:UInt8), 0, 0, 0, 0, 0, 0, 0, 0, 0, 0, 0, 0, 0, 0, 0, 0, 0, 0, 0, 0, 0, 0, 0, 0, 0, 0, 0, 0, 0, 0, 0])).toArray) (DG [(0, U8 1)] _ rfl (fun _ => by kernel_rfl)) rfl ?_))))
 refine AA (.agg #[I64 3, .slice none 0 0, .slice none 0 0, U64 5]) (DG [(0, I64 3), (3, U64 5)] _ rfl (fun _ => bld26_03 rfl rfl)) rfl ?_
 refine AV (CH 46 [.agg (cu8 ([(1:UInt8), 0, 0, 0, 0, 0, 0, 0, 0, 0, 0, 0, 0, 0, 0, 0, 0, 0, 0, 0, 0, 0, 0, 0, 0, 0, 0, 0, 0, 0, 0, 0])).toArray, U64 0, U64 1, .agg #[I64 3, .slice none 0 0, .slice none 0 0, U64 5]] _ (A4 _ Tryd.call46 rfl) (fun w1 hw1 => sign3_c ([(1:UInt8), 0, 0, 0, 0, 0, 0, 0, 0, 0, 0, 0, 0, 0, 0, 0, 0, 0, 0, 0, 0, 0, 0, 0, 0, 0, 0, 0, 0, 0, 0, 0]) (0:UInt64) (1:UInt64) 3 none 0 none 0 (5:UInt64) 25 w1 rfl (by omega) (fun _ => rfl) (by omega) (fun _ => rfl)  (by decide +kernel) rfl (by decide) (by omega) (hG.at hw1))) rfl ?_
 rintro v1 L1 ⟨_, ⟨ao1, ca1, ao2, ca2, rfl, rfl, hc1, hc2, hc3, hc4⟩, rfl⟩
 show JL _ _ _ _ ((8, .tuple #[.agg ([U64 0, U64 1, I64 3, .slice ao1 0 ca1, .slice ao2 0 ca2, U64 5] ++ cu8 (tkG ([(1:UInt8), 0, 0, 0, 0, 0, 0, 0, 0, 0, 0, 0, 0, 0, 0, 0, 0, 0, 0, 0, 0, 0, 0, 0, 0, 0, 0, 0, 0, 0, 0, 0]) (0:UInt64) (1:UInt64) 3 ([] : List UInt64) ([] : List SealR) (5:UInt64))).toArray, .nilIface]) :: _) []
 refine AA _ (AG rfl) rfl ?_
 refine AA _ (BS rfl rfl) rfl ?_
 refine AA _ (BS rfl rfl) rfl ?_
 refine AV (A7 _ ([U64 0, U64 0, I64 0, .slice none 0 0, .slice none 0 0, U64 0] ++ cu8 (zr8 16)) Tryd.zeroValue29 (by kernel_rfl)) rfl ?_
 rintro v1 L1 ⟨nb1, hnb1, rfl, rfl⟩
 show JL _ _ _ _ ((1, Ptr nb1 0) :: _) [⟨nb1, [U64 0, U64 0, I64 0, .slice none 0 0, .slice none 0 0, U64 0] ++ cu8 (zr8 16), 29, (0, 0)⟩]
 refine A0 (AX 0 nb1 22 ([U64 0, U64 0, I64 0, .slice none 0 0, .slice none 0 0, U64 0] ++ cu8 (zr8 16)) 29 ([U64 0, U64 1, I64 3, .slice ao1 0 ca1, .slice ao2 0 ca2, U64 5] ++ cu8 (tkG ([(1:UInt8), 0, 0, 0, 0, 0, 0, 0, 0, 0, 0, 0, 0, 0, 0, 0, 0, 0, 0, 0, 0, 0, 0, 0, 0, 0, 0, 0, 0, 0, 0, 0]) (0:UInt64) (1:UInt64) 3 ([] : List UInt64) ([] : List SealR) (5:UInt64))) rfl rfl rfl E3 (by simp [(tkG_len _ _ _ _ _ _ _)]) (EO (by simp [Value.oneCell']) CD) (by simp [(AP 16)]) (A6 (by simp [(AP 16), (tkG_len _ _ _ _ _ _ _)]))) rfl ?_
 show JL _ _ _ _ _ [⟨nb1, [U64 0, U64 1, I64 3, .slice ao1 0 ca1, .slice ao2 0 ca2, U64 5] ++ cu8 (tkG ([(1:UInt8), 0, 0, 0, 0, 0, 0, 0, 0, 0, 0, 0, 0, 0, 0, 0, 0, 0, 0, 0, 0, 0, 0, 0, 0, 0, 0, 0, 0, 0, 0, 0]) (0:UInt64) (1:UInt64) 3 ([] : List UInt64) ([] : List SealR) (5:UInt64)), 29, (0, 0)⟩]
 refine AA _ (AE rfl) rfl ?_
 refine AI (AC (AF (AB (AA (.agg ([U64 0, U64 1, I64 3, .slice ao1 0 ca1, .slice ao2 0 ca2, U64 5] ++ cu8 (tkG ([(1:UInt8), 0, 0, 0, 0, 0, 0, 0, 0, 0, 0, 0, 0, 0, 0, 0, 0, 0, 0, 0, 0, 0, 0, 0, 0, 0, 0, 0, 0, 0, 0, 0]) (0:UInt64) (1:UInt64) 3 ([] : List UInt64) ([] : List SealR) (5:UInt64))).toArray) (AL rfl (BH Tryd.isAgg29 E3 (by simp [(tkG_len _ _ _ _ _ _ _)]) (AR 0 rfl (AN _)))) rfl ?_))))
 refine AV (CH 47 [.agg ([U64 0, U64 1, I64 3, .slice ao1 0 ca1, .slice ao2 0 ca2, U64 5] ++ cu8 (tkG ([(1:UInt8), 0, 0, 0, 0, 0, 0, 0, 0, 0, 0, 0, 0, 0, 0, 0, 0, 0, 0, 0, 0, 0, 0, 0, 0, 0, 0, 0, 0, 0, 0, 0]) (0:UInt64) (1:UInt64) 3 ([] : List UInt64) ([] : List SealR) (5:UInt64))).toArray] _ (A4 _ Tryd.call47 rfl) (fun w1 hw1 => put13_c (0:UInt64) (1:UInt64) 3 ao1 0 ca1 ([] : List UInt64) ao2 0 ca2 ([] : List SealR) (5:UInt64) (tkG ([(1:UInt8), 0, 0, 0, 0, 0, 0, 0, 0, 0, 0, 0, 0, 0, 0, 0, 0, 0, 0, 0, 0, 0, 0, 0, 0, 0, 0, 0, 0, 0, 0, 0]) (0:UInt64) (1:UInt64) 3 ([] : List UInt64) ([] : List SealR) (5:UInt64)) 25 w1 rfl (by omega) (by omega) (by omega) RdV.nil rfl (by omega) (by omega) (by omega) RdV.nil (tkG_len _ _ _ _ _ _ _) (by decide +kernel) (by omega) (by omega) (by decide) (by omega))) rfl ?_
 rintro v1 L1 ⟨_, ⟨nb2, sp1, cp1, rfl, rfl, hc5, hc6, hc7⟩, rfl⟩
 show JL _ _ _ _ ((13, .tuple #[Slc nb2 0 41 cp1, .nilIface]) :: _) [_, ⟨nb2, cu8 ((tktT (0:UInt64) (1:UInt64) 3 ([] : List UInt64) ([] : List SealR) (5:UInt64)) ++ (tkG ([(1:UInt8), 0, 0, 0, 0, 0, 0, 0, 0, 0, 0, 0, 0, 0, 0, 0, 0, 0, 0, 0, 0, 0, 0, 0, 0, 0, 0, 0, 0, 0, 0, 0]) (0:UInt64) (1:UInt64) 3 ([] : List UInt64) ([] : List SealR) (5:UInt64))) ++ sp1, 5, (0, 0)⟩]
 refine AA _ (AG rfl) rfl ?_
 refine AA _ (BS rfl rfl) rfl ?_
 refine AA _ (BS rfl rfl) rfl ?_
 refine AA _ (AE rfl) rfl ?_
 refine AA _ (AE rfl) rfl ?_
 refine AI (AC (AF (AB (AA _ (AG rfl) rfl ?_))))
 refine AA (.bool true) (FQ _ _ _ rfl rfl (fun _ => GI ..) fun _ => eql_if_nil_nil DU) rfl ?_
 refine AA _ (AG rfl) rfl ?_
 refine BB 2 18 true _ _ rfl rfl rfl (AG rfl) rfl ?_
 refine BB 2 18 true _ (.bool true) rfl rfl rfl (FQ _ _ _ rfl rfl (fun _ => GI ..) fun _ => eql_if_nil_nil DU) rfl ?_
 refine AA _ (CW _ rfl rfl rfl) rfl ?_
 refine AA _ (AG rfl) rfl ?_
 refine BB 6 22 true _ _ rfl rfl rfl (AG rfl) rfl ?_
 refine BB 6 22 true _ (I64 41) rfl rfl rfl (DW AK rfl) rfl ?_
 refine BB 6 22 true _ (.bool (decide ((41:Int) = (41:Int)))) rfl rfl rfl (AJ rfl rfl fun _ => D6 _ _) rfl ?_
 refine AA _ (CW _ rfl rfl rfl) rfl ?_
 refine AA _ (AG rfl) rfl ?_
 refine BB 11 27 true _ _ rfl rfl (by decide) (AG rfl) rfl ?_
 refine BB 11 27 true _ (Ptr nb2 24) rfl rfl (by decide) (ED 5 1 24 AK AM rfl rfl (by omega) (by omega) (by omega)) rfl ?_
 refine BB 11 27 true _ (U8 (g8 ((tktT (0:UInt64) (1:UInt64) 3 ([] : List UInt64) ([] : List SealR) (5:UInt64)) ++ (tkG ([(1:UInt8), 0, 0, 0, 0, 0, 0, 0, 0, 0, 0, 0, 0, 0, 0, 0, 0, 0, 0, 0, 0, 0, 0, 0, 0, 0, 0, 0, 0, 0, 0, 0]) (0:UInt64) (1:UInt64) 3 ([] : List UInt64) ([] : List SealR) (5:UInt64))) 24)) rfl rfl (by decide) (AL rfl (AZ BZ (AR 1 rfl (BE (Seg.get (EC (i := 24) (by rw [(show ((tktT (0:UInt64) (1:UInt64) 3 ([] : List UInt64) ([] : List SealR) (5:UInt64)) ++ (tkG ([(1:UInt8), 0, 0, 0, 0, 0, 0, 0, 0, 0, 0, 0, 0, 0, 0, 0, 0, 0, 0, 0, 0, 0, 0, 0, 0, 0, 0, 0, 0, 0, 0, 0]) (0:UInt64) (1:UInt64) 3 ([] : List UInt64) ([] : List SealR) (5:UInt64))).length = 41 from (by rw [List.length_append, (show (tktT (0:UInt64) (1:UInt64) 3 ([] : List UInt64) ([] : List SealR) (5:UInt64)).length = 25 from (tktT_len rfl rfl).trans (by decide)), (tkG_len _ _ _ _ _ _ _)]))]; omega))))))) rfl ?_
 refine BB 11 27 true _ (.bool (decide ((g8 ((tktT (0:UInt64) (1:UInt64) 3 ([] : List UInt64) ([] : List SealR) (5:UInt64)) ++ (tkG ([(1:UInt8), 0, 0, 0, 0, 0, 0, 0, 0, 0, 0, 0, 0, 0, 0, 0, 0, 0, 0, 0, 0, 0, 0, 0, 0, 0, 0, 0, 0, 0, 0, 0]) (0:UInt64) (1:UInt64) 3 ([] : List UInt64) ([] : List SealR) (5:UInt64))) 24) = (5:UInt8)))) rfl rfl (by decide) (AJ rfl rfl fun _ => bin_eql_u8 (g8 ((tktT (0:UInt64) (1:UInt64) 3 ([] : List UInt64) ([] : List SealR) (5:UInt64)) ++ (tkG ([(1:UInt8), 0, 0, 0, 0, 0, 0, 0, 0, 0, 0, 0, 0, 0, 0, 0, 0, 0, 0, 0, 0, 0, 0, 0, 0, 0, 0, 0, 0, 0, 0, 0]) (0:UInt64) (1:UInt64) 3 ([] : List UInt64) ([] : List SealR) (5:UInt64))) 24) (5:UInt8)) rfl ?_
 refine AA _ (CW _ rfl (by decide) rfl) rfl ?_
 refine AA _ (AG rfl) rfl ?_
 refine BB 17 33 true _ (.agg (cu8 ([(1:UInt8), 0, 0, 0, 0, 0, 0, 0, 0, 0, 0, 0, 0, 0, 0, 0, 0, 0, 0, 0, 0, 0, 0, 0, 0, 0, 0, 0, 0, 0, 0, 0])).toArray) rfl rfl (by decide +kernel) (DG [(0, U8 1)] _ rfl (fun _ => by kernel_rfl)) rfl ?_
 refine BB 17 33 true _ (.agg ([U64 0, U64 1, I64 3, .slice ao1 0 ca1, .slice ao2 0 ca2, U64 5] ++ cu8 (tkG ([(1:UInt8), 0, 0, 0, 0, 0, 0, 0, 0, 0, 0, 0, 0, 0, 0, 0, 0, 0, 0, 0, 0, 0, 0, 0, 0, 0, 0, 0, 0, 0, 0, 0]) (0:UInt64) (1:UInt64) 3 ([] : List UInt64) ([] : List SealR) (5:UInt64))).toArray) rfl rfl (by decide +kernel) (AL rfl (BH Tryd.isAgg29 E3 (by simp [(tkG_len _ _ _ _ _ _ _)]) (AR 0 rfl (AN _)))) rfl ?_
 refine JL_gstep 17 33 true _ rfl rfl (by decide +kernel) (AY 48 [.agg (cu8 ([(1:UInt8), 0, 0, 0, 0, 0, 0, 0, 0, 0, 0, 0, 0, 0, 0, 0, 0, 0, 0, 0, 0, 0, 0, 0, 0, 0, 0, 0, 0, 0, 0, 0])).toArray, .agg ([U64 0, U64 1, I64 3, .slice ao1 0 ca1, .slice ao2 0 ca2, U64 5] ++ cu8 (tkG ([(1:UInt8), 0, 0, 0, 0, 0, 0, 0, 0, 0, 0, 0, 0, 0, 0, 0, 0, 0, 0, 0, 0, 0, 0, 0, 0, 0, 0, 0, 0, 0, 0, 0]) (0:UInt64) (1:UInt64) 3 ([] : List UInt64) ([] : List SealR) (5:UInt64))).toArray] (.nilIface) (A4 _ Tryd.call48 rfl) (fun w1 hw1 => chkK_c ([(1:UInt8), 0, 0, 0, 0, 0, 0, 0, 0, 0, 0, 0, 0, 0, 0, 0, 0, 0, 0, 0, 0, 0, 0, 0, 0, 0, 0, 0, 0, 0, 0, 0]) (0:UInt64) (1:UInt64) 3 ao1 0 ca1 ([] : List UInt64) ao2 0 ca2 ([] : List SealR) (5:UInt64) (tkG ([(1:UInt8), 0, 0, 0, 0, 0, 0, 0, 0, 0, 0, 0, 0, 0, 0, 0, 0, 0, 0, 0, 0, 0, 0, 0, 0, 0, 0, 0, 0, 0, 0, 0]) (0:UInt64) (1:UInt64) 3 ([] : List UInt64) ([] : List SealR) (5:UInt64)) 25 w1 rfl rfl (by omega) (by omega) (by omega) RdV.nil rfl (by omega) (by omega) (by omega) RdV.nil (tkG_len _ _ _ _ _ _ _) (by decide +kernel) (by omega) (by omega) (by decide) (by omega) (hG.at hw1) rfl)) rfl ?_
 rintro v1 L1 ⟨rfl, rfl⟩
 show JL _ _ _ _ ((36, .nilIface) :: _) [_, _]
 refine BB 17 33 true _ (.bool true) rfl rfl (by decide +kernel) (FQ _ _ _ rfl rfl (fun _ => GI ..) fun _ => eql_if_nil_nil DU) rfl ?_
 refine AA _ (CW _ rfl (by decide +kernel) rfl) rfl ?_
 refine AA _ (AE rfl) rfl ?_
 refine AI (AC (BO (CA [false, false] ?_)))
 show JQ _ _ _ _ []
 refine BQ (.bool true) (res1 Tryd.results43 (B2 rfl)) fun w1 hw1 => ?_
 exact ⟨_, [], rfl, ⟨by rw [show (true) = true from rfl], rfl⟩, hw1.sub (by simp) (by simp)⟩
end Go.Proofs.YtkdpdgpphpngeaaDoor
