import Derived.Test.YtkdpdgpphpngeaaDoorPkWP1
set_option linter.unusedVariables false
set_option linter.unusedSimpArgs false
set_option maxRecDepth 100000
namespace Go.Proofs.YtkdpdgpphpngeaaDoor
open Go Go.Sx
open Go.Value renaming slice → SL
attribute [local irreducible] mid zr8 numK rnK valK constL initL putL
theorem pright_c (ai : Option Addr) (ni ci : Nat) (l : List UInt64)  (w : World) (hl : l.length = ni) (hnm : ni ≤ 2000000) (hnc : ni ≤ ci) (hcm : ci ≤ maxLen) (hv : RdV w ai (cu64 l))  : Calls Tryd.prog 85 #[I64 32, SL ai ni ci] w (Post w [] (fun v L => v = .bool (decide (RightI l)) ∧ L = [])) := by
 have hmx : maxLen = 9223372036854775807 := rfl
 refine enter w [] 48 [] [I64 32, SL ai ni ci] Tryd.func85 rfl rfl (by simp) (CC (by simp) (by simp) (by simp)) ?_
 show JC _ _ _ [(0, I64 32), (1, SL ai ni ci)] _
 refine AK (AD (AA _ (AH rfl) rfl ?_))
 refine AN (AF (AK (AK (AD (AA _ (AL rfl) rfl ?_)))))
 refine AA (.bool (decide ((32:Int) < (0:Int)))) (AU rfl rfl fun _ => CR _ _) rfl ?_
 refine AA _ (AL rfl) rfl ?_
 refine AP 2 9 false _ _ rfl rfl (by decide) (AL rfl) rfl ?_
 refine AP 2 9 false _ (.bool (decide ((32:Int) < (32:Int)))) rfl rfl (by decide) (AU rfl rfl fun _ => D1 _ _) rfl ?_
 refine AA _ (A0 _ rfl (by decide) rfl) rfl ?_
 refine AA _ (AL rfl) rfl ?_
 refine AP 6 13 false _ _ rfl rfl (by decide) (AL rfl) rfl ?_
 refine AP 6 13 false _ (I64 ni) rfl rfl (by decide) (CY BW rfl) rfl ?_
 refine AP 6 13 false _ (.bool (decide (((ni:Int)) < (1:Int)))) rfl rfl (by decide) (AU rfl rfl fun _ => CR _ _) rfl ?_
 refine AA _ (A0 _ rfl (by decide) rfl) rfl ?_
 refine AA _ (AL rfl) rfl ?_
 rcases Bool.eq_false_or_eq_true (decide (((ni:Int)) < (1:Int))) with hb1 | hb1
 ·
  have hp1 : ((ni:Int)) < (1:Int) := of_decide_eq_true hb1
  refine AC 11 18 false _ rfl rfl hb1 rfl ?_
  refine AC 11 18 false _ rfl rfl hb1 rfl ?_
  refine AC 11 18 false _ rfl rfl hb1 rfl ?_
  refine AA _ (A2 _ rfl hb1 rfl) rfl ?_
  refine AN (AF (CO _ rfl rfl ?_))
  refine AK (AD (AA _ (AH rfl) rfl ?_))
  refine AN (AF (BK (A1 (BJ (.bool false) (res1 Tryd.results85 (BH rfl)) fun w1 hw1 => ?_))))
  refine ⟨_, [], rfl, ⟨congrArg Value.bool (Eq.symm (decide_eq_false (fun h => ?_))), rfl⟩, hw1.sub (by simp) (by simp)⟩
  first | (have := h.1; omega) | (have := h.2.1; omega) | exact h.2.2 i (by omega) (.inl ‹_›) | exact h.2.2 i (by omega) (.inr ⟨by omega, ‹_›⟩) | exact h.2.2 i (by omega) (.inl ((shr32 _).1 ‹_›))
 ·
  have hp1 : ¬ (((ni:Int)) < (1:Int)) := of_decide_eq_false hb1
  refine AP 11 18 false _ _ rfl rfl hb1 (AL rfl) rfl ?_
  refine AP 11 18 false _ (I64 ni) rfl rfl hb1 (CY BW rfl) rfl ?_
  refine AP 11 18 false _ (.bool (decide ((256:Int) < ((ni:Int))))) rfl rfl hb1 (AU rfl rfl fun _ => D1 _ _) rfl ?_
  refine AA _ (A0 _ rfl hb1 rfl) rfl ?_
  refine AN (AF (CI (decide ((256:Int) < ((ni:Int)))) rfl (fun hb2 => ?_) (fun hb2 => ?_)))
  ·
   have hp2 : (256:Int) < ((ni:Int)) := of_decide_eq_true hb2
   refine AK (AD (AA _ (AH rfl) rfl ?_))
   refine AN (AF (BK (A1 (BJ (.bool false) (res1 Tryd.results85 (BH rfl)) fun w1 hw1 => ?_))))
   refine ⟨_, [], rfl, ⟨congrArg Value.bool (Eq.symm (decide_eq_false (fun h => ?_))), rfl⟩, hw1.sub (by simp) (by simp)⟩
   first | (have := h.1; omega) | (have := h.2.1; omega) | exact h.2.2 i (by omega) (.inl ‹_›) | exact h.2.2 i (by omega) (.inr ⟨by omega, ‹_›⟩) | exact h.2.2 i (by omega) (.inl ((shr32 _).1 ‹_›))
  ·
   have hp2 : ¬ ((256:Int) < ((ni:Int))) := of_decide_eq_false hb2
   refine BE (AF (AK (AK (AD (AA _ (AL rfl) rfl ?_)))))
   refine AA (I64 ni) (CY BW rfl) rfl ?_
   refine AA _ (AL rfl) rfl ?_
   refine AN (AF (B2 (DV (ι := Nat) (fun i => [(0, I64 32), (1, SL ai ni ci), (23, SL ai ni ci), (24, I64 ni), (25, I64 i)]) (fun i => []) (fun i => i ≤ ni ∧ ∀ k, k < i → ¬ IdxBad l k) (fun i => ni - i) 0 ⟨by omega, fun k hk => absurd hk (by omega)⟩ (Sub.all rfl) rfl ?_)))
   rintro i ⟨hx1, hx2⟩
   show JC _ _ _ [(0, I64 32), (1, SL ai ni ci), (23, SL ai ni ci), (24, I64 ni), (25, I64 i)] []
   refine AK (AD (AA (.bool (decide (((i:Int)) < ((ni:Int))))) (AU rfl rfl fun _ => CR _ _) rfl ?_))
   refine AN (AF (AK (CI (decide (((i:Int)) < ((ni:Int)))) rfl (fun hb3 => ?_) (fun hb3 => ?_))))
   ·
    have hp3 : ((i:Int)) < ((ni:Int)) := of_decide_eq_true hb3
    refine BE (AF (AK (B2 (AK (AD (AA _ (AL rfl) rfl ?_))))))
    obtain ⟨bz1, oz1, hz1, hm1⟩ := RdV.pos hv (by rw [FP, hl]; omega)
    refine AA (Ptr bz1 (i + oz1)) (B4 22 1 (i + oz1) BW AX rfl hz1 rfl (by omega) (by omega) (by omega)) rfl ?_
    refine AA (U64 (g64 l i)) (AI rfl (AQ AY (CK (hm1.mem (by simp)) (Seg.get (g64_get (i := i) (by rw [hl]; omega))) (by omega)))) rfl ?_
    refine AA _ (AH rfl) rfl ?_
    refine AA _ (AH rfl) rfl ?_
    refine AN (AF (AK (AD (AA _ (AL rfl) rfl ?_))))
    refine AA _ (AL rfl) rfl ?_
    refine AA (U64 ((g64 l i) >>> (32:UInt64))) (AU rfl rfl fun _ => FT (g64 l i) _ _ 32 (by decide) rfl) rfl ?_
    refine AA (.bool (decide (((g64 l i) >>> (32:UInt64)) ≠ (0:UInt64)))) (AU rfl rfl fun _ => EQ ((g64 l i) >>> (32:UInt64)) (0:UInt64)) rfl ?_
    refine AA _ (AL rfl) rfl ?_
    rcases Bool.eq_false_or_eq_true (decide (((g64 l i) >>> (32:UInt64)) ≠ (0:UInt64))) with hb4 | hb4
    ·
     have hp4 : ((g64 l i) >>> (32:UInt64)) ≠ (0:UInt64) := of_decide_eq_true hb4
     refine AC 4 34 false _ rfl rfl hb4 rfl ?_
     refine AC 4 34 false _ rfl rfl hb4 rfl ?_
     refine AC 4 34 false _ rfl rfl hb4 rfl ?_
     refine BX 7 37 true rfl rfl rfl ?_
     refine BX 7 37 true rfl rfl rfl ?_
     refine BX 7 37 true rfl rfl rfl ?_
     refine BX 7 37 true rfl rfl rfl ?_
     refine BX 7 37 true rfl rfl rfl ?_
     refine BX 7 37 true rfl rfl rfl ?_
     refine BX 7 37 true rfl rfl rfl ?_
     refine AC 4 34 false _ rfl rfl hb4 rfl ?_
     refine AA _ (A2 _ rfl hb4 rfl) rfl ?_
     refine AN (AF (CO _ rfl rfl ?_))
     refine AK (AD (AA _ (AH rfl) rfl ?_))
     refine AN (AF (BK (CT (A1 (A1 (CT (A1 (BJ (.bool false) (res1 Tryd.results85 (BH rfl)) fun w1 hw1 => ?_))))))))
     refine ⟨_, [], rfl, ⟨congrArg Value.bool (Eq.symm (decide_eq_false (fun h => ?_))), rfl⟩, hw1.sub (by simp) (by simp)⟩
     first | (have := h.1; omega) | (have := h.2.1; omega) | exact h.2.2 i (by omega) (.inl ‹_›) | exact h.2.2 i (by omega) (.inr ⟨by omega, ‹_›⟩) | exact h.2.2 i (by omega) (.inl ((shr32 _).1 ‹_›))
    ·
     have hp4 : ¬ (((g64 l i) >>> (32:UInt64)) ≠ (0:UInt64)) := of_decide_eq_false hb4
     refine AP 4 34 false _ _ rfl rfl hb4 (AL rfl) rfl ?_
     refine AP 4 34 false _ (.bool (decide ((0:Int) < ((i:Int))))) rfl rfl hb4 (AU rfl rfl fun _ => D1 _ _) rfl ?_
     refine AP 4 34 false _ _ rfl rfl hb4 (AL rfl) rfl ?_
     rcases Bool.eq_false_or_eq_true (decide ((0:Int) < ((i:Int)))) with hb5 | hb5
     ·
      have hp5 : (0:Int) < ((i:Int)) := of_decide_eq_true hb5
      refine AP 7 37 true _ _ rfl rfl hb5 (AL rfl) rfl ?_
      refine AP 7 37 true _ _ rfl rfl hb5 (AL rfl) rfl ?_
      refine AP 7 37 true _ (I64 ((i:Int) - 1)) rfl rfl hb5 (AU rfl rfl fun _ => EV _ _ ((i:Int) - 1) (by omega) (by omega)) rfl ?_
      refine AP 7 37 true _ (Ptr bz1 (i + oz1 - 1)) rfl rfl hb5 (B4 22 1 (i + oz1 - 1) BW AX rfl hz1 rfl (by omega) (by omega) (by omega)) rfl ?_
      refine AP 7 37 true _ (U64 (g64 l (i - 1))) rfl rfl hb5 (AI rfl (AQ AY (CK (hm1.mem (by simp)) (Seg.get (g64_get (i := (i - 1)) (by rw [hl]; omega))) (by omega)))) rfl ?_
      refine AP 7 37 true _ _ rfl rfl hb5 (AL rfl) rfl ?_
      refine AP 7 37 true _ (.bool (decide ((g64 l i) ≤ (g64 l (i - 1))))) rfl rfl hb5 (AU rfl rfl fun _ => FQ (g64 l (i - 1)) (g64 l i)) rfl ?_
      refine AP 4 34 false _ _ rfl rfl hb4 (A2 _ rfl hb5 rfl) rfl ?_
      refine AA _ (A0 _ rfl hb4 rfl) rfl ?_
      refine AN (AF (CI (decide ((g64 l i) ≤ (g64 l (i - 1)))) rfl (fun hb6 => ?_) (fun hb6 => ?_)))
      ·
       have hp6 : (g64 l i) ≤ (g64 l (i - 1)) := of_decide_eq_true hb6
       refine AK (AD (AA _ (AH rfl) rfl ?_))
       refine AN (AF (BK (CT (A1 (A1 (CT (A1 (BJ (.bool false) (res1 Tryd.results85 (BH rfl)) fun w1 hw1 => ?_))))))))
       refine ⟨_, [], rfl, ⟨congrArg Value.bool (Eq.symm (decide_eq_false (fun h => ?_))), rfl⟩, hw1.sub (by simp) (by simp)⟩
       first | (have := h.1; omega) | (have := h.2.1; omega) | exact h.2.2 i (by omega) (.inl ‹_›) | exact h.2.2 i (by omega) (.inr ⟨by omega, ‹_›⟩) | exact h.2.2 i (by omega) (.inl ((shr32 _).1 ‹_›))
      ·
       have hp6 : ¬ ((g64 l i) ≤ (g64 l (i - 1))) := of_decide_eq_false hb6
       refine BE (BY (AF (AD (AA (I64 ((i:Int) + 1)) (AU rfl rfl fun _ => DE _ _ ((i:Int) + 1) (by omega) (by omega)) rfl ?_))))
       refine AA _ (AL rfl) rfl ?_
       refine AN (DK (EM (i + 1) ⟨by omega, idx_step hx2 (fun hq => by rcases hq with hq | ⟨hq1, hq2⟩ <;> first | contradiction | omega | exact absurd ((shr32 _).2 hq) ‹_›)⟩ (by first | (simp; omega) | simp | (dsimp only; omega) | omega) (Sub.all rfl) rfl))
     ·
      have hp5 : ¬ ((0:Int) < ((i:Int))) := of_decide_eq_false hb5
      refine AC 7 37 true _ rfl rfl hb5 rfl ?_
      refine AC 7 37 true _ rfl rfl hb5 rfl ?_
      refine AC 7 37 true _ rfl rfl hb5 rfl ?_
      refine AC 7 37 true _ rfl rfl hb5 rfl ?_
      refine AC 7 37 true _ rfl rfl hb5 rfl ?_
      refine AC 7 37 true _ rfl rfl hb5 rfl ?_
      refine AC 7 37 true _ rfl rfl hb5 rfl ?_
      refine AP 4 34 false _ _ rfl rfl hb4 (A0 _ rfl hb5 rfl) rfl ?_
      refine AA _ (A0 _ rfl hb4 rfl) rfl ?_
      refine AN (AF (BN _ rfl rfl ?_))
      refine BE (BY (AF (AD (AA (I64 ((i:Int) + 1)) (AU rfl rfl fun _ => DE _ _ ((i:Int) + 1) (by omega) (by omega)) rfl ?_))))
      refine AA _ (AL rfl) rfl ?_
      refine AN (DK (EM (i + 1) ⟨by omega, idx_step hx2 (fun hq => by rcases hq with hq | ⟨hq1, hq2⟩ <;> first | contradiction | omega | exact absurd ((shr32 _).2 hq) ‹_›)⟩ (by first | (simp; omega) | simp | (dsimp only; omega) | omega) (Sub.all rfl) rfl))
   ·
    have hp3 : ¬ (((i:Int)) < ((ni:Int))) := of_decide_eq_false hb3
    refine DU (A5 (A5 (CQ (AF (AK (AD (AA _ (AH rfl) rfl ?_)))))))
    refine AN (AF (BK (BJ (.bool true) (res1 Tryd.results85 (BH rfl)) fun w1 hw1 => ?_)))
    have e1 : i = ni := by omega
    subst e1
    exact ⟨_, [], rfl, ⟨congrArg Value.bool (Eq.symm (decide_eq_true ⟨by omega, by omega, by rw [hl]; exact hx2⟩)), rfl⟩, hw1.sub (by simp) (by simp)⟩
theorem rpright_c (ai : Option Addr) (ni ci : Nat) (l : List UInt64)  (w : World) (hl : l.length = ni) (hnm : ni ≤ 2000000) (hnc : ni ≤ ci) (hcm : ci ≤ maxLen) (hv : RdV w ai (cu64 l))  : Calls Tryd.prog 79 #[I64 32, SL ai ni ci] w (Post w [] (fun v L => v = .bool (decide (RightI l)) ∧ L = [])) := by
 have hmx : maxLen = 9223372036854775807 := rfl
 refine enter w [] 59 [] [I64 32, SL ai ni ci] Tryd.func79 rfl rfl (by simp) (CC (by simp) (by simp) (by simp)) ?_
 show JC _ _ _ [(0, I64 32), (1, SL ai ni ci)] _
 refine AK (AD (AA _ (AH rfl) rfl ?_))
 refine AN (AF (AK (AK (AD (AA _ (AL rfl) rfl ?_)))))
 refine AA (.bool (decide ((32:Int) < (0:Int)))) (AU rfl rfl fun _ => CR _ _) rfl ?_
 refine AA _ (AL rfl) rfl ?_
 refine AP 2 10 false _ _ rfl rfl (by decide) (AL rfl) rfl ?_
 refine AP 2 10 false _ (.bool (decide ((32:Int) < (32:Int)))) rfl rfl (by decide) (AU rfl rfl fun _ => D1 _ _) rfl ?_
 refine AA _ (A0 _ rfl (by decide) rfl) rfl ?_
 refine AA _ (AL rfl) rfl ?_
 refine AP 6 14 false _ _ rfl rfl (by decide) (AL rfl) rfl ?_
 refine AP 6 14 false _ (I64 ni) rfl rfl (by decide) (CY BW rfl) rfl ?_
 refine AP 6 14 false _ (.bool (decide (((ni:Int)) = (0:Int)))) rfl rfl (by decide) (AU rfl rfl fun _ => BO _ _) rfl ?_
 refine AA _ (A0 _ rfl (by decide) rfl) rfl ?_
 refine AA _ (AL rfl) rfl ?_
 rcases Bool.eq_false_or_eq_true (decide (((ni:Int)) = (0:Int))) with hb1 | hb1
 ·
  have hp1 : ((ni:Int)) = (0:Int) := of_decide_eq_true hb1
  refine AC 11 19 false _ rfl rfl hb1 rfl ?_
  refine AC 11 19 false _ rfl rfl hb1 rfl ?_
  refine AC 11 19 false _ rfl rfl hb1 rfl ?_
  refine AA _ (A2 _ rfl hb1 rfl) rfl ?_
  refine AN (AF (CO _ rfl rfl ?_))
  refine AK (AD (AA _ (AH rfl) rfl ?_))
  refine AN (AF (BK (A1 (BJ (.bool false) (res1 Tryd.results79 (BH rfl)) fun w1 hw1 => ?_))))
  refine ⟨_, [], rfl, ⟨congrArg Value.bool (Eq.symm (decide_eq_false (fun h => ?_))), rfl⟩, hw1.sub (by simp) (by simp)⟩
  first | (have := h.1; omega) | (have := h.2.1; omega) | exact h.2.2 i (by omega) (.inl ‹_›) | exact h.2.2 i (by omega) (.inr ⟨by omega, ‹_›⟩) | exact h.2.2 i (by omega) (.inl ((shr32 _).1 ‹_›))
 ·
  have hp1 : ¬ (((ni:Int)) = (0:Int)) := of_decide_eq_false hb1
  refine AP 11 19 false _ _ rfl rfl hb1 (AL rfl) rfl ?_
  refine AP 11 19 false _ (I64 ni) rfl rfl hb1 (CY BW rfl) rfl ?_
  refine AP 11 19 false _ (.bool (decide ((256:Int) < ((ni:Int))))) rfl rfl hb1 (AU rfl rfl fun _ => D1 _ _) rfl ?_
  refine AA _ (A0 _ rfl hb1 rfl) rfl ?_
  refine AN (AF (CI (decide ((256:Int) < ((ni:Int)))) rfl (fun hb2 => ?_) (fun hb2 => ?_)))
  ·
   have hp2 : (256:Int) < ((ni:Int)) := of_decide_eq_true hb2
   refine AK (AD (AA _ (AH rfl) rfl ?_))
   refine AN (AF (BK (A1 (BJ (.bool false) (res1 Tryd.results79 (BH rfl)) fun w1 hw1 => ?_))))
   refine ⟨_, [], rfl, ⟨congrArg Value.bool (Eq.symm (decide_eq_false (fun h => ?_))), rfl⟩, hw1.sub (by simp) (by simp)⟩
   first | (have := h.1; omega) | (have := h.2.1; omega) | exact h.2.2 i (by omega) (.inl ‹_›) | exact h.2.2 i (by omega) (.inr ⟨by omega, ‹_›⟩) | exact h.2.2 i (by omega) (.inl ((shr32 _).1 ‹_›))
  ·
   have hp2 : ¬ ((256:Int) < ((ni:Int))) := of_decide_eq_false hb2
   refine BE (AF (AK (AD (AA _ (AH rfl) rfl ?_))))
   refine AN (AF (AK (AK (AD (AA _ (AH rfl) rfl ?_)))))
   refine AN (AF (B2 (DV (ι := Nat × UInt64) (fun ⟨j, y⟩ => [(0, I64 32), (1, SL ai ni ci), (4, .bool false), (6, I64 j), (5, U64 y)]) (fun ⟨j, y⟩ => []) (fun ⟨j, y⟩ => j ≤ 32 ∧ y = UInt64.ofNat (2 ^ j)) (fun ⟨j, y⟩ => 32 - j) (0, 1) ⟨by omega, rfl⟩ (Sub.all rfl) rfl ?_)))
   rintro ⟨j, y⟩ ⟨hj1, hj2⟩
   show JC _ _ _ [(0, I64 32), (1, SL ai ni ci), (4, .bool false), (6, I64 j), (5, U64 y)] []
   refine AK (AK (AD (AA _ (AL rfl) rfl ?_)))
   refine AA _ (AL rfl) rfl ?_
   refine AA (.bool (decide (((j:Int)) < (32:Int)))) (AU rfl rfl fun _ => CR _ _) rfl ?_
   refine AN (AF (CI (decide (((j:Int)) < (32:Int))) rfl (fun hb3 => ?_) (fun hb3 => ?_)))
   ·
    have hp3 : ((j:Int)) < (32:Int) := of_decide_eq_true hb3
    refine BE (AF (AK (B2 (AD (AA _ (AL rfl) rfl ?_)))))
    refine AA (U64 (y * (2:UInt64))) (AU rfl rfl fun _ => bin_mul_u64 y (2:UInt64)) rfl ?_
    refine AA _ (AH rfl) rfl ?_
    refine AN (BY (AF (AD (AA _ (AL rfl) rfl ?_))))
    refine AA (I64 ((j:Int) + 1)) (AU rfl rfl fun _ => DE _ _ ((j:Int) + 1) (by omega) (by omega)) rfl ?_
    refine AA _ (AH rfl) rfl ?_
    refine AN (DK (EM (j + 1, y * 2) ⟨by omega, by rw [hj2]; exact pow2_step j⟩ (by first | (simp; omega) | simp | (dsimp only; omega) | omega) (Sub.all rfl) rfl))
   ·
    have hp3 : ¬ (((j:Int)) < (32:Int)) := of_decide_eq_false hb3
    refine DU (A5 (A5 (CQ (AF (AK (AK ?_))))))
    have hj3 : j = 32 := by omega
    have hy : y = 4294967296 := by rw [hj2, hj3]; rfl
    subst hy
    skip
    refine AD (AA _ (AH rfl) rfl ?_)
    refine AN (AF (B2 (DV (ι := Nat) (fun i => [(1, SL ai ni ci), (5, U64 4294967296), (7, I64 i)]) (fun i => []) (fun i => i ≤ ni ∧ ∀ k, k < i → ¬ IdxBad l k) (fun i => ni - i) 0 ⟨by omega, fun k hk => absurd hk (by omega)⟩ (Sub.all rfl) rfl ?_)))
    rintro i ⟨hx1, hx2⟩
    show JC _ _ _ [(1, SL ai ni ci), (5, U64 4294967296), (7, I64 i)] []
    refine AK (AK (AD (AA _ (AL rfl) rfl ?_)))
    refine AA _ (AL rfl) rfl ?_
    refine AA (I64 ni) (CY BW rfl) rfl ?_
    refine AA (.bool (decide (((i:Int)) < ((ni:Int))))) (AU rfl rfl fun _ => CR _ _) rfl ?_
    refine AN (AF (CI (decide (((i:Int)) < ((ni:Int)))) rfl (fun hb4 => ?_) (fun hb4 => ?_)))
    ·
     have hp4 : ((i:Int)) < ((ni:Int)) := of_decide_eq_true hb4
     refine BE (AF (AK (B2 (AK ?_))))
     rcases Bool.eq_false_or_eq_true (decide ((4294967296:UInt64) ≤ (g64 l i))) with hb5 | hb5
     ·
      have hp5 : (4294967296:UInt64) ≤ (g64 l i) := of_decide_eq_true hb5
      obtain ⟨bz1, oz1, hz1, hm1⟩ := RdV.pos hv (by rw [FP, hl]; omega)
      refine DH 59 1 [(0, SL ai ni ci), (1, I64 i), (2, Ptr bz1 (i + oz1)), (3, U64 (g64 l i)), (4, U64 4294967296), (5, .bool (decide ((4294967296:UInt64) ≤ (g64 l i)))), (6, .bool (decide ((4294967296:UInt64) ≤ (g64 l i)))), (7, undef), (8, undef), (9, undef), (10, undef), (11, undef), (12, undef), (13, undef), (14, undef), (15, undef), (16, undef), (17, undef), (18, undef), (19, undef), (20, undef), (21, .bool true)] B8 rfl (by decide +kernel) ?_
      refine DN ⟨[], [0, 1, 2, 3, 4, 5, 6, 7, 8, 9, 10, 11, 12, 13, 14, 15, 16, 17, 18, 19, 20, 21], [], [0, 1, 2, 3, 4, 5, 6, 7, 8, 9, 10, 11, 12, 13, 14, 15, 16, 17, 18, 19, 20, 21], []⟩ rfl rfl (by decide +kernel) rfl ⟨CD rfl rfl rfl, CD rfl rfl rfl, ⟨_, rfl, AJ rfl (B4 22 1 (i + oz1) BW AX rfl hz1 rfl (by omega) (by omega) (by omega))⟩, ⟨_, rfl, AJ rfl (AI rfl (AQ AY (CK (hm1.mem (by simp)) (Seg.get (g64_get (i := i) (by rw [hl]; omega))) (by omega))))⟩, CD rfl rfl rfl, ⟨_, rfl, AJ rfl (AU rfl rfl fun _ => FQ (g64 l i) (4294967296:UInt64))⟩, CD rfl rfl rfl, ⟨_, rfl, CS 6 43 false _ rfl rfl rfl hb5⟩, ⟨_, rfl, CS 6 43 false _ rfl rfl rfl hb5⟩, ⟨_, rfl, CS 6 43 false _ rfl rfl rfl hb5⟩, ⟨_, rfl, FY 9 46 true rfl rfl rfl⟩, ⟨_, rfl, FY 9 46 true rfl rfl rfl⟩, ⟨_, rfl, FY 9 46 true rfl rfl rfl⟩, ⟨_, rfl, FY 9 46 true rfl rfl rfl⟩, ⟨_, rfl, FY 9 46 true rfl rfl rfl⟩, ⟨_, rfl, FY 9 46 true rfl rfl rfl⟩, ⟨_, rfl, FY 9 46 true rfl rfl rfl⟩, ⟨_, rfl, FY 9 46 true rfl rfl rfl⟩, ⟨_, rfl, FY 9 46 true rfl rfl rfl⟩, ⟨_, rfl, FY 9 46 true rfl rfl rfl⟩, ⟨_, rfl, CS 6 43 false _ rfl rfl rfl hb5⟩, ⟨_, rfl, AJ rfl (A2 _ rfl hb5 rfl)⟩, trivial⟩ ?_
      refine C7 (F' := [(37, SL ai ni ci), (38, I64 i), (39, Ptr bz1 (i + oz1)), (40, U64 (g64 l i)), (41, U64 4294967296), (42, .bool (decide ((4294967296:UInt64) ≤ (g64 l i)))), (43, .bool (decide ((4294967296:UInt64) ≤ (g64 l i)))), (44, undef), (45, undef), (46, undef), (47, undef), (48, undef), (49, undef), (50, undef), (51, undef), (52, undef), (53, undef), (54, undef), (55, undef), (56, undef), (57, undef), (58, .bool true), (1, SL ai ni ci), (5, U64 4294967296), (7, I64 i), (31, I64 i), (32, SL ai ni ci), (33, I64 ni), (34, .bool (decide (((i:Int)) < ((ni:Int)))))]) (by kernel_rfl) ?_
      refine AF (CO _ rfl rfl ?_)
      refine AK (AD (AA _ (AH rfl) rfl ?_))
      refine AN (AF (BK (CT (A1 (A1 (CT (A1 (BJ (.bool false) (res1 Tryd.results79 (BH rfl)) fun w1 hw1 => ?_))))))))
      refine ⟨_, [], rfl, ⟨congrArg Value.bool (Eq.symm (decide_eq_false (fun h => ?_))), rfl⟩, hw1.sub (by simp) (by simp)⟩
      first | (have := h.1; omega) | (have := h.2.1; omega) | exact h.2.2 i (by omega) (.inl ‹_›) | exact h.2.2 i (by omega) (.inr ⟨by omega, ‹_›⟩) | exact h.2.2 i (by omega) (.inl ((shr32 _).1 ‹_›))
     ·
      have hp5 : ¬ ((4294967296:UInt64) ≤ (g64 l i)) := of_decide_eq_false hb5
      rcases Bool.eq_false_or_eq_true (decide ((0:Int) < ((i:Int)))) with hb6 | hb6
      ·
       have hp6 : (0:Int) < ((i:Int)) := of_decide_eq_true hb6
       obtain ⟨bz2, oz2, hz2, hm2⟩ := RdV.pos hv (by rw [FP, hl]; omega)
       refine DH 59 1 [(0, SL ai ni ci), (1, I64 i), (2, Ptr bz2 (i + oz2)), (3, U64 (g64 l i)), (4, U64 4294967296), (5, .bool (decide ((4294967296:UInt64) ≤ (g64 l i)))), (6, .bool (decide ((4294967296:UInt64) ≤ (g64 l i)))), (7, I64 i), (8, .bool (decide ((0:Int) < ((i:Int))))), (9, .bool (decide ((0:Int) < ((i:Int))))), (10, SL ai ni ci), (11, I64 i), (12, Ptr bz2 (i + oz2)), (13, U64 (g64 l i)), (14, SL ai ni ci), (15, I64 i), (16, I64 ((i:Int) - 1)), (17, Ptr bz2 (i + oz2 - 1)), (18, U64 (g64 l (i - 1))), (19, .bool (decide ((g64 l i) ≤ (g64 l (i - 1))))), (20, .bool (decide ((g64 l i) ≤ (g64 l (i - 1))))), (21, .bool (decide ((g64 l i) ≤ (g64 l (i - 1)))))] B8 rfl (by decide +kernel) ?_
       refine DN ⟨[], [0, 1, 2, 3, 4, 5, 6, 7, 8, 9, 10, 11, 12, 13, 14, 15, 16, 17, 18, 19, 20, 21], [], [0, 1, 2, 3, 4, 5, 6, 7, 8, 9, 10, 11, 12, 13, 14, 15, 16, 17, 18, 19, 20, 21], []⟩ rfl rfl (by decide +kernel) rfl ⟨CD rfl rfl rfl, CD rfl rfl rfl, ⟨_, rfl, AJ rfl (B4 22 1 (i + oz2) BW AX rfl hz2 rfl (by omega) (by omega) (by omega))⟩, ⟨_, rfl, AJ rfl (AI rfl (AQ AY (CK (hm2.mem (by simp)) (Seg.get (g64_get (i := i) (by rw [hl]; omega))) (by omega))))⟩, CD rfl rfl rfl, ⟨_, rfl, AJ rfl (AU rfl rfl fun _ => FQ (g64 l i) (4294967296:UInt64))⟩, CD rfl rfl rfl, ⟨_, rfl, BT 6 43 false _ rfl rfl rfl hb5 (AL rfl)⟩, ⟨_, rfl, BT 6 43 false _ rfl rfl rfl hb5 (AU rfl rfl fun _ => D1 _ _)⟩, ⟨_, rfl, BT 6 43 false _ rfl rfl rfl hb5 (AL rfl)⟩, ⟨_, rfl, BT 9 46 true _ rfl rfl rfl hb6 (AL rfl)⟩, ⟨_, rfl, BT 9 46 true _ rfl rfl rfl hb6 (AL rfl)⟩, ⟨_, rfl, BT 9 46 true _ rfl rfl rfl hb6 (B4 22 1 (i + oz2) BW AX rfl hz2 rfl (by omega) (by omega) (by omega))⟩, ⟨_, rfl, BT 9 46 true _ rfl rfl rfl hb6 (AI rfl (AQ AY (CK (hm2.mem (by simp)) (Seg.get (g64_get (i := i) (by rw [hl]; omega))) (by omega))))⟩, ⟨_, rfl, BT 9 46 true _ rfl rfl rfl hb6 (AL rfl)⟩, ⟨_, rfl, BT 9 46 true _ rfl rfl rfl hb6 (AL rfl)⟩, ⟨_, rfl, BT 9 46 true _ rfl rfl rfl hb6 (AU rfl rfl fun _ => EV _ _ ((i:Int) - 1) (by omega) (by omega))⟩, ⟨_, rfl, BT 9 46 true _ rfl rfl rfl hb6 (B4 22 1 (i + oz2 - 1) BW AX rfl hz2 rfl (by omega) (by omega) (by omega))⟩, ⟨_, rfl, BT 9 46 true _ rfl rfl rfl hb6 (AI rfl (AQ AY (CK (hm2.mem (by simp)) (Seg.get (g64_get (i := (i - 1)) (by rw [hl]; omega))) (by omega))))⟩, ⟨_, rfl, BT 9 46 true _ rfl rfl rfl hb6 (AU rfl rfl fun _ => bin_leq_u64 (g64 l i) (g64 l (i - 1)))⟩, ⟨_, rfl, BT 6 43 false _ rfl rfl rfl hb5 (A2 _ rfl hb6 rfl)⟩, ⟨_, rfl, AJ rfl (A0 _ rfl hb5 rfl)⟩, trivial⟩ ?_
       refine C7 (F' := [(37, SL ai ni ci), (38, I64 i), (39, Ptr bz2 (i + oz2)), (40, U64 (g64 l i)), (41, U64 4294967296), (42, .bool (decide ((4294967296:UInt64) ≤ (g64 l i)))), (43, .bool (decide ((4294967296:UInt64) ≤ (g64 l i)))), (44, I64 i), (45, .bool (decide ((0:Int) < ((i:Int))))), (46, .bool (decide ((0:Int) < ((i:Int))))), (47, SL ai ni ci), (48, I64 i), (49, Ptr bz2 (i + oz2)), (50, U64 (g64 l i)), (51, SL ai ni ci), (52, I64 i), (53, I64 ((i:Int) - 1)), (54, Ptr bz2 (i + oz2 - 1)), (55, U64 (g64 l (i - 1))), (56, .bool (decide ((g64 l i) ≤ (g64 l (i - 1))))), (57, .bool (decide ((g64 l i) ≤ (g64 l (i - 1))))), (58, .bool (decide ((g64 l i) ≤ (g64 l (i - 1))))), (1, SL ai ni ci), (5, U64 4294967296), (7, I64 i), (31, I64 i), (32, SL ai ni ci), (33, I64 ni), (34, .bool (decide (((i:Int)) < ((ni:Int)))))]) (by kernel_rfl) ?_
       refine AF (CI (decide ((g64 l i) ≤ (g64 l (i - 1)))) rfl (fun hb7 => ?_) (fun hb7 => ?_))
       ·
        have hp7 : (g64 l i) ≤ (g64 l (i - 1)) := of_decide_eq_true hb7
        refine AK (AD (AA _ (AH rfl) rfl ?_))
        refine AN (AF (BK (CT (A1 (A1 (CT (A1 (BJ (.bool false) (res1 Tryd.results79 (BH rfl)) fun w1 hw1 => ?_))))))))
        refine ⟨_, [], rfl, ⟨congrArg Value.bool (Eq.symm (decide_eq_false (fun h => ?_))), rfl⟩, hw1.sub (by simp) (by simp)⟩
        first | (have := h.1; omega) | (have := h.2.1; omega) | exact h.2.2 i (by omega) (.inl ‹_›) | exact h.2.2 i (by omega) (.inr ⟨by omega, ‹_›⟩) | exact h.2.2 i (by omega) (.inl ((shr32 _).1 ‹_›))
       ·
        have hp7 : ¬ ((g64 l i) ≤ (g64 l (i - 1))) := of_decide_eq_false hb7
        refine BE (BY (AF (AD (AA _ (AL rfl) rfl ?_))))
        refine AA (I64 ((i:Int) + 1)) (AU rfl rfl fun _ => DE _ _ ((i:Int) + 1) (by omega) (by omega)) rfl ?_
        refine AA _ (AH rfl) rfl ?_
        refine AN (DK (EM (i + 1) ⟨by omega, idx_step hx2 (fun hq => by rcases hq with hq | ⟨hq1, hq2⟩ <;> first | contradiction | omega | exact absurd ((shr32 _).2 hq) ‹_›)⟩ (by first | (simp; omega) | simp | (dsimp only; omega) | omega) (Sub.all rfl) rfl))
      ·
       have hp6 : ¬ ((0:Int) < ((i:Int))) := of_decide_eq_false hb6
       obtain ⟨bz3, oz3, hz3, hm3⟩ := RdV.pos hv (by rw [FP, hl]; omega)
       refine DH 59 1 [(0, SL ai ni ci), (1, I64 i), (2, Ptr bz3 (i + oz3)), (3, U64 (g64 l i)), (4, U64 4294967296), (5, .bool (decide ((4294967296:UInt64) ≤ (g64 l i)))), (6, .bool (decide ((4294967296:UInt64) ≤ (g64 l i)))), (7, I64 i), (8, .bool (decide ((0:Int) < ((i:Int))))), (9, .bool (decide ((0:Int) < ((i:Int))))), (10, undef), (11, undef), (12, undef), (13, undef), (14, undef), (15, undef), (16, undef), (17, undef), (18, undef), (19, undef), (20, .bool false), (21, .bool false)] B8 rfl (by decide +kernel) ?_
       refine DN ⟨[], [0, 1, 2, 3, 4, 5, 6, 7, 8, 9, 10, 11, 12, 13, 14, 15, 16, 17, 18, 19, 20, 21], [], [0, 1, 2, 3, 4, 5, 6, 7, 8, 9, 10, 11, 12, 13, 14, 15, 16, 17, 18, 19, 20, 21], []⟩ rfl rfl (by decide +kernel) rfl ⟨CD rfl rfl rfl, CD rfl rfl rfl, ⟨_, rfl, AJ rfl (B4 22 1 (i + oz3) BW AX rfl hz3 rfl (by omega) (by omega) (by omega))⟩, ⟨_, rfl, AJ rfl (AI rfl (AQ AY (CK (hm3.mem (by simp)) (Seg.get (g64_get (i := i) (by rw [hl]; omega))) (by omega))))⟩, CD rfl rfl rfl, ⟨_, rfl, AJ rfl (AU rfl rfl fun _ => FQ (g64 l i) (4294967296:UInt64))⟩, CD rfl rfl rfl, ⟨_, rfl, BT 6 43 false _ rfl rfl rfl hb5 (AL rfl)⟩, ⟨_, rfl, BT 6 43 false _ rfl rfl rfl hb5 (AU rfl rfl fun _ => D1 _ _)⟩, ⟨_, rfl, BT 6 43 false _ rfl rfl rfl hb5 (AL rfl)⟩, ⟨_, rfl, CS 9 46 true _ rfl rfl rfl hb6⟩, ⟨_, rfl, CS 9 46 true _ rfl rfl rfl hb6⟩, ⟨_, rfl, CS 9 46 true _ rfl rfl rfl hb6⟩, ⟨_, rfl, CS 9 46 true _ rfl rfl rfl hb6⟩, ⟨_, rfl, CS 9 46 true _ rfl rfl rfl hb6⟩, ⟨_, rfl, CS 9 46 true _ rfl rfl rfl hb6⟩, ⟨_, rfl, CS 9 46 true _ rfl rfl rfl hb6⟩, ⟨_, rfl, CS 9 46 true _ rfl rfl rfl hb6⟩, ⟨_, rfl, CS 9 46 true _ rfl rfl rfl hb6⟩, ⟨_, rfl, CS 9 46 true _ rfl rfl rfl hb6⟩, ⟨_, rfl, BT 6 43 false _ rfl rfl rfl hb5 (A0 _ rfl hb6 rfl)⟩, ⟨_, rfl, AJ rfl (A0 _ rfl hb5 rfl)⟩, trivial⟩ ?_
       refine C7 (F' := [(37, SL ai ni ci), (38, I64 i), (39, Ptr bz3 (i + oz3)), (40, U64 (g64 l i)), (41, U64 4294967296), (42, .bool (decide ((4294967296:UInt64) ≤ (g64 l i)))), (43, .bool (decide ((4294967296:UInt64) ≤ (g64 l i)))), (44, I64 i), (45, .bool (decide ((0:Int) < ((i:Int))))), (46, .bool (decide ((0:Int) < ((i:Int))))), (47, undef), (48, undef), (49, undef), (50, undef), (51, undef), (52, undef), (53, undef), (54, undef), (55, undef), (56, undef), (57, .bool false), (58, .bool false), (1, SL ai ni ci), (5, U64 4294967296), (7, I64 i), (31, I64 i), (32, SL ai ni ci), (33, I64 ni), (34, .bool (decide (((i:Int)) < ((ni:Int)))))]) (by kernel_rfl) ?_
       refine AF (BN _ rfl rfl ?_)
       refine BE (BY (AF (AD (AA _ (AL rfl) rfl ?_))))
       refine AA (I64 ((i:Int) + 1)) (AU rfl rfl fun _ => DE _ _ ((i:Int) + 1) (by omega) (by omega)) rfl ?_
       refine AA _ (AH rfl) rfl ?_
       refine AN (DK (EM (i + 1) ⟨by omega, idx_step hx2 (fun hq => by rcases hq with hq | ⟨hq1, hq2⟩ <;> first | contradiction | omega | exact absurd ((shr32 _).2 hq) ‹_›)⟩ (by first | (simp; omega) | simp | (dsimp only; omega) | omega) (Sub.all rfl) rfl))
    ·
     have hp4 : ¬ (((i:Int)) < ((ni:Int))) := of_decide_eq_false hb4
     refine DU (A5 (A5 (CQ (AF (AK (AD (AA _ (AH rfl) rfl ?_)))))))
     refine AN (AF (BK (BJ (.bool true) (res1 Tryd.results79 (BH rfl)) fun w1 hw1 => ?_)))
     have e1 : i = ni := by omega
     subst e1
     exact ⟨_, [], rfl, ⟨congrArg Value.bool (Eq.symm (decide_eq_true ⟨by omega, by omega, by rw [hl]; exact hx2⟩)), rfl⟩, hw1.sub (by simp) (by simp)⟩
attribute [local irreducible] RightB
theorem right_c (i e : UInt64) (w : World) : Calls Tryd.prog 133 #[U64 i, U64 e] w (Post w [] (fun v L => v = .bool (RightB i e) ∧ L = [])) := by
 refine enter w [] 15 [] [U64 i, U64 e] Tryd.func133 rfl rfl (by simp) (CC (by simp) (by simp) (by simp)) ?_
 show JC _ _ _ [(0, U64 i), (1, U64 e)] _
 refine AK (AD (AA _ (AH rfl) rfl ?_))
 refine AN (AF (AK (AD (AA _ (AL rfl) rfl ?_))))
 refine AA (.bool (decide (i < (4294967296:UInt64)))) (AU rfl rfl fun _ => bin_lss_u64 i (4294967296:UInt64)) rfl ?_
 refine AA _ (AL rfl) rfl ?_
 rcases Bool.eq_false_or_eq_true (decide (i < (4294967296:UInt64))) with hb1 | hb1
 ·
  have hp1 : i < (4294967296:UInt64) := of_decide_eq_true hb1
  refine AP 2 7 true _ _ rfl rfl hb1 (AL rfl) rfl ?_
  refine AP 2 7 true _ (.bool (decide ((1:UInt64) ≤ e))) rfl rfl hb1 (AU rfl rfl fun _ => FQ e (1:UInt64)) rfl ?_
  refine AA _ (A2 _ rfl hb1 rfl) rfl ?_
  refine AA _ (AL rfl) rfl ?_
  rcases Bool.eq_false_or_eq_true (decide ((1:UInt64) ≤ e)) with hb2 | hb2
  ·
   have hp2 : (1:UInt64) ≤ e := of_decide_eq_true hb2
   refine AP 6 11 true _ _ rfl rfl hb2 (AL rfl) rfl ?_
   refine AP 6 11 true _ (.bool (decide (e < (18446744073709551615:UInt64)))) rfl rfl hb2 (AU rfl rfl fun _ => bin_lss_u64 e (18446744073709551615:UInt64)) rfl ?_
   refine AA _ (A2 _ rfl hb2 rfl) rfl ?_
   refine AA _ (AH rfl) rfl ?_
   refine AN (AF (BK (BJ (.bool (decide (e < (18446744073709551615:UInt64)))) (res1 Tryd.results133 (BH rfl)) fun w1 hw1 => ?_)))
   refine ⟨_, [], rfl, ⟨congrArg Value.bool ?_, rfl⟩, hw1.sub (by simp) (by simp)⟩
   unfold RightB
   simp [*]
  ·
   have hp2 : ¬ ((1:UInt64) ≤ e) := of_decide_eq_false hb2
   refine AC 6 11 true _ rfl rfl hb2 rfl ?_
   refine AC 6 11 true _ rfl rfl hb2 rfl ?_
   refine AA _ (A0 _ rfl hb2 rfl) rfl ?_
   refine AA _ (AH rfl) rfl ?_
   refine AN (AF (BK (BJ (.bool false) (res1 Tryd.results133 (BH rfl)) fun w1 hw1 => ?_)))
   refine ⟨_, [], rfl, ⟨congrArg Value.bool ?_, rfl⟩, hw1.sub (by simp) (by simp)⟩
   unfold RightB
   simp [*]
 ·
  have hp1 : ¬ (i < (4294967296:UInt64)) := of_decide_eq_false hb1
  refine AC 2 7 true _ rfl rfl hb1 rfl ?_
  refine AC 2 7 true _ rfl rfl hb1 rfl ?_
  refine AA _ (A0 _ rfl hb1 rfl) rfl ?_
  refine AA _ (AL rfl) rfl ?_
  refine AC 6 11 true _ rfl rfl rfl rfl ?_
  refine AC 6 11 true _ rfl rfl rfl rfl ?_
  refine AA _ (A0 _ rfl rfl rfl) rfl ?_
  refine AA _ (AH rfl) rfl ?_
  refine AN (AF (BK (BJ (.bool false) (res1 Tryd.results133 (BH rfl)) fun w1 hw1 => ?_)))
  refine ⟨_, [], rfl, ⟨congrArg Value.bool ?_, rfl⟩, hw1.sub (by simp) (by simp)⟩
  unfold RightB
  simp [*]
theorem rright_c (i e : UInt64) (w : World) : Calls Tryd.prog 111 #[U64 i, U64 e] w (Post w [] (fun v L => v = .bool (RightB i e) ∧ L = [])) := by
 refine enter w [] 15 [] [U64 i, U64 e] Tryd.func111 rfl rfl (by simp) (CC (by simp) (by simp) (by simp)) ?_
 show JC _ _ _ [(0, U64 i), (1, U64 e)] _
 refine AK (AD (AA _ (AH rfl) rfl ?_))
 refine AN (AF (AK (AD (AA _ (AL rfl) rfl ?_))))
 refine AA (.bool (decide (i ≤ (4294967295:UInt64)))) (AU rfl rfl fun _ => bin_leq_u64 i (4294967295:UInt64)) rfl ?_
 refine AA _ (AL rfl) rfl ?_
 rcases Bool.eq_false_or_eq_true (decide (i ≤ (4294967295:UInt64))) with hb1 | hb1
 ·
  have hp1 : i ≤ (4294967295:UInt64) := of_decide_eq_true hb1
  refine AP 2 7 true _ _ rfl rfl hb1 (AL rfl) rfl ?_
  refine AP 2 7 true _ (.bool (decide (e ≠ (0:UInt64)))) rfl rfl hb1 (AU rfl rfl fun _ => EQ e (0:UInt64)) rfl ?_
  refine AA _ (A2 _ rfl hb1 rfl) rfl ?_
  refine AA _ (AL rfl) rfl ?_
  rcases Bool.eq_false_or_eq_true (decide (e ≠ (0:UInt64))) with hb2 | hb2
  ·
   have hp2 : e ≠ (0:UInt64) := of_decide_eq_true hb2
   refine AP 6 11 true _ _ rfl rfl hb2 (AL rfl) rfl ?_
   refine AP 6 11 true _ (.bool (decide (e ≠ (18446744073709551615:UInt64)))) rfl rfl hb2 (AU rfl rfl fun _ => EQ e (18446744073709551615:UInt64)) rfl ?_
   refine AA _ (A2 _ rfl hb2 rfl) rfl ?_
   refine AA _ (AH rfl) rfl ?_
   refine AN (AF (BK (BJ (.bool (decide (e ≠ (18446744073709551615:UInt64)))) (res1 Tryd.results111 (BH rfl)) fun w1 hw1 => ?_)))
   refine ⟨_, [], rfl, ⟨congrArg Value.bool ?_, rfl⟩, hw1.sub (by simp) (by simp)⟩
   rw [RightB_ref]
   simp [*]
  ·
   have hp2 : ¬ (e ≠ (0:UInt64)) := of_decide_eq_false hb2
   refine AC 6 11 true _ rfl rfl hb2 rfl ?_
   refine AC 6 11 true _ rfl rfl hb2 rfl ?_
   refine AA _ (A0 _ rfl hb2 rfl) rfl ?_
   refine AA _ (AH rfl) rfl ?_
   refine AN (AF (BK (BJ (.bool false) (res1 Tryd.results111 (BH rfl)) fun w1 hw1 => ?_)))
   refine ⟨_, [], rfl, ⟨congrArg Value.bool ?_, rfl⟩, hw1.sub (by simp) (by simp)⟩
   rw [RightB_ref]
   simp [*]
 ·
  have hp1 : ¬ (i ≤ (4294967295:UInt64)) := of_decide_eq_false hb1
  refine AC 2 7 true _ rfl rfl hb1 rfl ?_
  refine AC 2 7 true _ rfl rfl hb1 rfl ?_
  refine AA _ (A0 _ rfl hb1 rfl) rfl ?_
  refine AA _ (AL rfl) rfl ?_
  refine AC 6 11 true _ rfl rfl rfl rfl ?_
  refine AC 6 11 true _ rfl rfl rfl rfl ?_
  refine AA _ (A0 _ rfl rfl rfl) rfl ?_
  refine AA _ (AH rfl) rfl ?_
  refine AN (AF (BK (BJ (.bool false) (res1 Tryd.results111 (BH rfl)) fun w1 hw1 => ?_)))
  refine ⟨_, [], rfl, ⟨congrArg Value.bool ?_, rfl⟩, hw1.sub (by simp) (by simp)⟩
  rw [RightB_ref]
  simp [*]
theorem odd_c (ob : Nat) (kd : Int) (ai : Option Addr) (ni ci : Nat) (l : List UInt64) (sa : Option Addr) (ns sc : Nat) (ls : List SealR) (bl : UInt64) (e : UInt64) (d t : List UInt8)  (w : World) (hd : d.length = 32) (ht : t.length = 16) (hpos : 0 < ns) (hls : ls.length = ns) (hnn : ns ≤ 2000000) (hnd : ns ≤ sc) (hcn : sc ≤ maxLen) (hs : RdV w sa (ls.flatMap sealC)) (hO : RdA w ob 0 [I64 (kd), SL ai ni ci, SL sa ns sc, U64 bl])  : Calls Tryd.prog 132 #[.agg ([U64 e] ++ cu8 d ++ cu8 t).toArray, Ptr ob 0] w (Post w [] (fun v L => v = .bool (oddB (headE ls) e) ∧ L = [])) := by
 have hmx : maxLen = 9223372036854775807 := rfl
 refine enter (P := Tryd.prog) (f := 132) (fn := Tryd.f132) w [] 18 [] [.agg ([U64 e] ++ cu8 d ++ cu8 t).toArray, Ptr ob 0] Tryd.func132 rfl rfl (by simp) (CC (by simp) (by simp) (by simp)) ?_
 show JC _ _ _ [(0, .agg ([U64 e] ++ cu8 d ++ cu8 t).toArray), (1, Ptr ob 0)] _
 refine AK (AD (A9 (CL (.agg ([U64 e] ++ cu8 d ++ cu8 t).toArray) ([U64 e] ++ cu8 d ++ cu8 t) rfl (by first | rfl | simp)) rfl ?_))
 rintro v1 L1 ⟨nb1, hnb1, rfl, rfl⟩
 show JL _ _ _ _ ((2, Ptr nb1 0) :: _) [⟨nb1, [U64 e] ++ cu8 d ++ cu8 t, 161, (0, 0)⟩]
 refine AA _ (AH rfl) rfl ?_
 refine AN (AF (AK ?_))
 rcases Bool.eq_false_or_eq_true (RightB (0:UInt64) e) with hb1 | hb1
 ·
  refine DH 18 2 [(0, Ptr nb1 0), (1, U64 e)] B8 rfl (by decide +kernel) ?_
  refine CZ ⟨[], [0, 1], [], [0, 1], [2]⟩ 2 _ rfl rfl (by decide +kernel) rfl ⟨⟨_, rfl, AJ rfl (AB 0 22 1 DQ rfl AX rfl rfl)⟩, ⟨_, rfl, AJ rfl (AI rfl (AQ AY (AS 0 rfl (AG (AG (Seg.head))))))⟩, trivial⟩ rfl (BI rfl (BG 133 [U64 0, U64 e] (.bool (RightB (0:UInt64) e)) (A6 _ Tryd.call133 rfl) (fun w1 hw1 => right_c (0:UInt64) e w1 ))) ?_
  rintro v1 L1 ⟨rfl, rfl⟩
  obtain ⟨x1, hx1⟩ : ∃ x, ls[0]? = some x := ⟨_, List.getElem?_eq_getElem (by rw [hls]; omega)⟩
  obtain ⟨bz1, oz1, hz1, hm1⟩ := E4 FB (by decide) hs hx1
  refine ⟨[(3, .bool (!(RightB (0:UInt64) e))), (4, .bool (!(RightB (0:UInt64) e))), (5, Ptr nb1 0), (6, U64 e), (7, Ptr ob 2), (8, SL sa ns sc), (9, Ptr bz1 oz1), (10, Ptr bz1 oz1), (11, U64 x1.e), (12, .bool (decide (e ≠ x1.e))), (13, .bool (decide (e ≠ x1.e))), (14, .bool (decide (e ≠ x1.e)))], ?_⟩
  show DP _ _ _ _ _ _ _ _ [_]
  refine DN ⟨[2], [0, 1, 3, 4, 5, 6, 7, 8, 9, 10, 11, 12, 13, 14], [0, 1], [3, 4, 5, 6, 7, 8, 9, 10, 11, 12, 13, 14], []⟩ rfl rfl (by decide +kernel) rfl ⟨⟨_, rfl, AJ rfl (EP rfl)⟩, CD rfl rfl rfl, ⟨_, rfl, BT 4 8 false _ rfl rfl rfl (by rw [show (RightB (0:UInt64) e) = true from hb1] <;> rfl) (AB 0 22 1 DQ rfl AX rfl rfl)⟩, ⟨_, rfl, BT 4 8 false _ rfl rfl rfl (by rw [show (RightB (0:UInt64) e) = true from hb1] <;> rfl) (AI rfl (AQ AY (AS 0 rfl (AG (AG (Seg.head))))))⟩, ⟨_, rfl, BT 4 8 false _ rfl rfl rfl (by rw [show (RightB (0:UInt64) e) = true from hb1] <;> rfl) (AB 2 24 1 BC rfl EG rfl rfl)⟩, ⟨_, rfl, BT 4 8 false _ rfl rfl rfl (by rw [show (RightB (0:UInt64) e) = true from hb1] <;> rfl) (AI rfl (AQ ES (CK (hO.mem (by simp)) (AE (AE (Seg.head))) (by omega))))⟩, ⟨_, rfl, BT 4 8 false _ rfl rfl rfl (by rw [show (RightB (0:UInt64) e) = true from hb1] <;> rfl) (B4 161 49 oz1 C3 CJ rfl hz1 rfl (by omega) (by omega) (by omega))⟩, ⟨_, rfl, BT 4 8 false _ rfl rfl rfl (by rw [show (RightB (0:UInt64) e) = true from hb1] <;> rfl) (AB 0 22 1 DQ rfl AX rfl rfl)⟩, ⟨_, rfl, BT 4 8 false _ rfl rfl rfl (by rw [show (RightB (0:UInt64) e) = true from hb1] <;> rfl) (AI rfl (AQ AY (CK (hm1.mem (by simp)) (AG (AG (Seg.head))) (by omega))))⟩, ⟨_, rfl, BT 4 8 false _ rfl rfl rfl (by rw [show (RightB (0:UInt64) e) = true from hb1] <;> rfl) (AU rfl rfl fun _ => EQ e x1.e)⟩, ⟨_, rfl, AJ rfl (A0 _ rfl (by rw [show (RightB (0:UInt64) e) = true from hb1] <;> rfl) rfl)⟩, ⟨_, rfl, AJ rfl (AH rfl)⟩, trivial⟩ ?_
  refine C7 (F' := [(3, .bool (decide (e ≠ x1.e)))]) (by kernel_rfl) ?_
  refine AF (BK (BJ (.bool (decide (e ≠ x1.e))) (res1 Tryd.results132 (BH rfl)) fun w1 hw1 => ?_))
  refine ⟨_, [], rfl, ⟨congrArg Value.bool ?_, rfl⟩, hw1.sub (by simp) (by simp)⟩
  first | (simp [oddB, *]; done) | (rw [F2 hx1]; simp [oddB, *]; done)
 ·
  refine DH 18 2 [(0, Ptr nb1 0), (1, U64 e)] B8 rfl (by decide +kernel) ?_
  refine CZ ⟨[], [0, 1], [], [0, 1], [2]⟩ 2 _ rfl rfl (by decide +kernel) rfl ⟨⟨_, rfl, AJ rfl (AB 0 22 1 DQ rfl AX rfl rfl)⟩, ⟨_, rfl, AJ rfl (AI rfl (AQ AY (AS 0 rfl (AG (AG (Seg.head))))))⟩, trivial⟩ rfl (BI rfl (BG 133 [U64 0, U64 e] (.bool (RightB (0:UInt64) e)) (A6 _ Tryd.call133 rfl) (fun w1 hw1 => right_c (0:UInt64) e w1 ))) ?_
  rintro v1 L1 ⟨rfl, rfl⟩
  refine ⟨[(3, .bool (!(RightB (0:UInt64) e))), (4, .bool (!(RightB (0:UInt64) e))), (5, undef), (6, undef), (7, undef), (8, undef), (9, undef), (10, undef), (11, undef), (12, undef), (13, .bool true), (14, .bool true)], ?_⟩
  show DP _ _ _ _ _ _ _ _ [_]
  refine DN ⟨[2], [0, 1, 3, 4, 5, 6, 7, 8, 9, 10, 11, 12, 13, 14], [0, 1], [3, 4, 5, 6, 7, 8, 9, 10, 11, 12, 13, 14], []⟩ rfl rfl (by decide +kernel) rfl ⟨⟨_, rfl, AJ rfl (EP rfl)⟩, CD rfl rfl rfl, ⟨_, rfl, CS 4 8 false _ rfl rfl rfl (by rw [show (RightB (0:UInt64) e) = false from hb1] <;> rfl)⟩, ⟨_, rfl, CS 4 8 false _ rfl rfl rfl (by rw [show (RightB (0:UInt64) e) = false from hb1] <;> rfl)⟩, ⟨_, rfl, CS 4 8 false _ rfl rfl rfl (by rw [show (RightB (0:UInt64) e) = false from hb1] <;> rfl)⟩, ⟨_, rfl, CS 4 8 false _ rfl rfl rfl (by rw [show (RightB (0:UInt64) e) = false from hb1] <;> rfl)⟩, ⟨_, rfl, CS 4 8 false _ rfl rfl rfl (by rw [show (RightB (0:UInt64) e) = false from hb1] <;> rfl)⟩, ⟨_, rfl, CS 4 8 false _ rfl rfl rfl (by rw [show (RightB (0:UInt64) e) = false from hb1] <;> rfl)⟩, ⟨_, rfl, CS 4 8 false _ rfl rfl rfl (by rw [show (RightB (0:UInt64) e) = false from hb1] <;> rfl)⟩, ⟨_, rfl, CS 4 8 false _ rfl rfl rfl (by rw [show (RightB (0:UInt64) e) = false from hb1] <;> rfl)⟩, ⟨_, rfl, AJ rfl (A2 _ rfl (by rw [show (RightB (0:UInt64) e) = false from hb1] <;> rfl) rfl)⟩, ⟨_, rfl, AJ rfl (AH rfl)⟩, trivial⟩ ?_
  refine C7 (F' := [(3, .bool true)]) (by kernel_rfl) ?_
  refine AF (BK (BJ (.bool true) (res1 Tryd.results132 (BH rfl)) fun w1 hw1 => ?_))
  refine ⟨_, [], rfl, ⟨congrArg Value.bool ?_, rfl⟩, hw1.sub (by simp) (by simp)⟩
  first | (simp [oddB, *]; done) | (rw [F2 hx1]; simp [oddB, *]; done)
theorem ixOdd_c (ob : Nat) (kd : Int) (ai : Option Addr) (ni ci : Nat) (l : List UInt64) (sa : Option Addr) (ns sc : Nat) (ls : List SealR) (bl : UInt64)  (w : World) (hls : ls.length = ns) (hnn : ns ≤ 2000000) (hnd : ns ≤ sc) (hcn : sc ≤ maxLen) (hs : RdV w sa (ls.flatMap sealC)) (hO : RdA w ob 0 [I64 (kd), SL ai ni ci, SL sa ns sc, U64 bl])  : Calls Tryd.prog 158 #[SL sa ns sc, .func (.func 132) #[] #[Ptr ob 0]] w (Post w [] (fun v L => v = I64 (findIx (fun x => oddB (headE ls) (SealR.e x)) ls) ∧ L = [])) := by
 have hmx : maxLen = 9223372036854775807 := rfl
 refine enter w [] 19 [] [SL sa ns sc, .func (.func 132) #[] #[Ptr ob 0]] Tryd.func158 rfl rfl (by simp) (CC (by simp) (by simp) (by simp)) ?_
 show JC _ _ _ [(0, SL sa ns sc), (1, .func (.func 132) #[] #[Ptr ob 0])] _
 refine AK (AD (AA _ (AH rfl) rfl ?_))
 refine AN (AF (AK (AK (AD (AA _ (AL rfl) rfl ?_)))))
 refine AA (I64 ns) (CY C3 rfl) rfl ?_
 refine AA _ (AL rfl) rfl ?_
 refine AN (AF (B2 (DV (ι := Nat) (fun i => [(0, SL sa ns sc), (1, .func (.func 132) #[] #[Ptr ob 0]), (7, I64 ns), (8, I64 i)]) (fun i => []) (fun i => i ≤ ns ∧ ∀ k, k < i → ∀ y, ls[k]? = some y → (fun x => oddB (headE ls) (SealR.e x)) y = false) (fun i => ns - i) 0 ⟨by omega, fun k hk => absurd hk (by omega)⟩ (Sub.all rfl) rfl ?_)))
 rintro i ⟨hi1, hi2⟩
 show JC _ _ _ [(0, SL sa ns sc), (1, .func (.func 132) #[] #[Ptr ob 0]), (7, I64 ns), (8, I64 i)] []
 refine AK (AD (AA (.bool (decide (((i:Int)) < ((ns:Int))))) (AU rfl rfl fun _ => CR _ _) rfl ?_))
 refine AN (AF (AK (CI (decide (((i:Int)) < ((ns:Int)))) rfl (fun hb1 => ?_) (fun hb1 => ?_))))
 ·
  have hp1 : ((i:Int)) < ((ns:Int)) := of_decide_eq_true hb1
  refine BE (AF (AK (B2 (AK (AD (AA _ (AL rfl) rfl ?_))))))
  refine AA _ (AH rfl) rfl ?_
  refine AN (AF (AK (AD (AA _ (AL rfl) rfl ?_))))
  refine AA _ (AL rfl) rfl ?_
  refine AA _ (AL rfl) rfl ?_
  obtain ⟨x1, hx1⟩ : ∃ x, ls[i]? = some x := ⟨_, List.getElem?_eq_getElem (by rw [hls]; omega)⟩
  obtain ⟨bz1, oz1, hz1, hm1⟩ := E4 FB (by decide) hs hx1
  refine AA (Ptr bz1 (49*i + oz1)) (B4 161 49 (49*i + oz1) C3 CJ rfl hz1 rfl (by omega) (by omega) (by omega)) rfl ?_
  refine AA (.agg ([U64 x1.e] ++ cu8 x1.d ++ cu8 x1.t).toArray) (AI rfl (BV D2 CJ (by simp [x1.hd, x1.ht]) (CK (hm1.mem (by simp)) (AV _) (by omega)))) rfl ?_
  refine B1 (BG 132 [.agg ([U64 x1.e] ++ cu8 x1.d ++ cu8 x1.t).toArray, Ptr ob 0] (.bool (oddB (headE ls) x1.e)) (Cl_clo [.agg ([U64 x1.e] ++ cu8 x1.d ++ cu8 x1.t).toArray] [Ptr ob 0] Tryd.call132 rfl rfl) (fun w1 hw1 => odd_c ob kd ai ni ci l sa ns sc ls bl x1.e x1.d x1.t w1 x1.hd x1.ht (by omega) hls hnn hnd hcn (CA hw1 rfl hs) (RdA_at hw1 hO (by simp) (by simp)))) rfl ?_
  show JL _ _ _ _ ((16, .bool (oddB (headE ls) x1.e)) :: _) []
  refine AN (AF (CI (oddB (headE ls) x1.e) rfl (fun hb2 => ?_) (fun hb2 => ?_)))
  ·
   refine AK (AD (AA _ (AL rfl) rfl ?_))
   refine AA _ (AH rfl) rfl ?_
   refine AN (AF (BK (CT (A1 (A1 (CT (A1 (BJ (I64 i) (res1 Tryd.results158 (BH rfl)) fun w1 hw1 => ?_))))))))
   have e1 : findIx (fun x => oddB (headE ls) (SealR.e x)) ls = i := findIx_at hx1 (by assumption) hi2
   exact ⟨_, [], rfl, ⟨by rw [e1], rfl⟩, hw1.sub (by simp) (by simp)⟩
  ·
   refine BE (BY (AF (AD (AA (I64 ((i:Int) + 1)) (AU rfl rfl fun _ => DE _ _ ((i:Int) + 1) (by omega) (by omega)) rfl ?_))))
   refine AA _ (AL rfl) rfl ?_
   refine AN (DK (EM (i + 1) ⟨by omega, find_step hx1 (by assumption) hi2⟩ (by first | (simp; omega) | simp | (dsimp only; omega) | omega) (Sub.all rfl) rfl))
 ·
  have hp1 : ¬ (((i:Int)) < ((ns:Int))) := of_decide_eq_false hb1
  refine DU (A5 (A5 (CQ (AF (AK (AD (AA _ (AH rfl) rfl ?_)))))))
  refine AN (AF (BK (BJ (I64 (-1:Int)) (res1 Tryd.results158 (BH rfl)) fun w1 hw1 => ?_)))
  have e1 : findIx (fun x => oddB (headE ls) (SealR.e x)) ls = -1 := findIx_no (by rw [hls]; intro k hk; exact hi2 k (by omega))
  exact ⟨_, [], rfl, ⟨by rw [e1], rfl⟩, hw1.sub (by simp) (by simp)⟩
theorem cfOdd_c (ob : Nat) (kd : Int) (ai : Option Addr) (ni ci : Nat) (l : List UInt64) (sa : Option Addr) (ns sc : Nat) (ls : List SealR) (bl : UInt64)  (w : World) (hls : ls.length = ns) (hnn : ns ≤ 2000000) (hnd : ns ≤ sc) (hcn : sc ≤ maxLen) (hs : RdV w sa (ls.flatMap sealC)) (hO : RdA w ob 0 [I64 (kd), SL ai ni ci, SL sa ns sc, U64 bl])  : Calls Tryd.prog 134 #[SL sa ns sc, .func (.func 132) #[] #[Ptr ob 0]] w (Post w [] (fun v L => v = .bool (ls.any (fun x => oddB (headE ls) (SealR.e x))) ∧ L = [])) := by
 refine enter w [] 9 [] [SL sa ns sc, .func (.func 132) #[] #[Ptr ob 0]] Tryd.func134 rfl rfl (by simp) (CC (by simp) (by simp) (by simp)) ?_
 show JC _ _ _ [(0, SL sa ns sc), (1, .func (.func 132) #[] #[Ptr ob 0])] _
 refine AK (AD (AA _ (AH rfl) rfl ?_))
 refine AN (AF (AK (AD (AA _ (AL rfl) rfl ?_))))
 refine AA _ (AL rfl) rfl ?_
 refine B1 (BG 158 [SL sa ns sc, .func (.func 132) #[] #[Ptr ob 0]] (I64 ((findIx (fun x => oddB (headE ls) (SealR.e x)) ls))) (A6 _ Tryd.call158 rfl) (fun w1 hw1 => ixOdd_c ob kd ai ni ci l sa ns sc ls bl w1 hls hnn hnd hcn (CA hw1 rfl hs) (RdA_at hw1 hO (by simp) (by simp)))) rfl ?_
 show JL _ _ _ _ ((7, I64 ((findIx (fun x => oddB (headE ls) (SealR.e x)) ls))) :: _) []
 refine AA (.bool (decide ((0:Int) ≤ ((findIx (fun x => oddB (headE ls) (SealR.e x)) ls))))) (AU rfl rfl fun _ => GB _ _) rfl ?_
 refine AA _ (AH rfl) rfl ?_
 refine AN (AF (BK (BJ (.bool (decide ((0:Int) ≤ ((findIx (fun x => oddB (headE ls) (SealR.e x)) ls))))) (res1 Tryd.results134 (BH rfl)) fun w1 hw1 => ?_)))
 exact ⟨_, [], rfl, ⟨congrArg Value.bool (findIx_ge _ _), rfl⟩, hw1.sub (by simp) (by simp)⟩
attribute [local irreducible] oddB
theorem right13_c (kd : Int) (ai : Option Addr) (ni ci : Nat) (l : List UInt64) (sa : Option Addr) (ns sc : Nat) (ls : List SealR) (bl : UInt64)  (w : World) (hl : l.length = ni) (hnm : ni ≤ 2000000) (hnc : ni ≤ ci) (hcm : ci ≤ maxLen) (hv : RdV w ai (cu64 l)) (hls : ls.length = ns) (hnn : ns ≤ 2000000) (hnd : ns ≤ sc) (hcn : sc ≤ maxLen) (hs : RdV w sa (ls.flatMap sealC))  : Calls Tryd.prog 69 #[.agg #[I64 (kd), SL ai ni ci, SL sa ns sc, U64 bl]] w (Post w [] (fun v L => v = .bool (RightO kd l ls bl) ∧ L = [])) := by
 have hmx : maxLen = 9223372036854775807 := rfl
 refine enter (P := Tryd.prog) (f := 69) (fn := Tryd.f69) w [] 69 [] [.agg #[I64 (kd), SL ai ni ci, SL sa ns sc, U64 bl]] Tryd.func69 rfl rfl (by simp) (CC (by simp) (by simp) (by simp)) ?_
 show JC _ _ _ [(0, .agg #[I64 (kd), SL ai ni ci, SL sa ns sc, U64 bl])] _
 refine AK (AD (A9 (CL (.agg #[I64 (kd), SL ai ni ci, SL sa ns sc, U64 bl]) ([I64 (kd), SL ai ni ci, SL sa ns sc, U64 bl]) rfl (by first | rfl | simp)) rfl ?_))
 rintro v1 L1 ⟨nb1, hnb1, rfl, rfl⟩
 show JL _ _ _ _ ((1, Ptr nb1 0) :: _) [⟨nb1, [I64 (kd), SL ai ni ci, SL sa ns sc, U64 bl], 26, (0, 0)⟩]
 refine AA _ (AH rfl) rfl ?_
 refine AN (AF (AK (AD (AA (.func (.func 132) #[] #[Ptr nb1 0]) (Ev_makeFunc (vs := [Ptr nb1 0]) rfl (fun _ _ => rfl)) rfl ?_))))
 refine AA _ (AH rfl) rfl ?_
 refine AN (AF (AK (AK (AD (AA (Ptr nb1 0) (AB 0 3 1 BC rfl AR rfl rfl) rfl ?_)))))
 refine AA (I64 (kd)) (AI rfl (AQ AT (AS 0 rfl (Seg.head)))) rfl ?_
 refine AN (AF (B2 (AK (AD (AA (.bool (decide ((kd) = (1:Int)))) (AU rfl rfl fun _ => BO _ _) rfl ?_)))))
 refine AA _ (AH rfl) rfl ?_
 refine AN (AF (CI (decide ((kd) = (1:Int))) rfl (fun hb1 => ?_) (fun hb1 => ?_)))
 ·
  have hp1 : (kd) = (1:Int) := of_decide_eq_true hb1
  refine AK (AD (AA (Ptr nb1 3) (AB 3 22 1 BC rfl AX rfl rfl) rfl ?_))
  refine AA (U64 bl) (AI rfl (AQ AY (AS 0 rfl (AE (AE (AE (Seg.head))))))) rfl ?_
  refine AA (.bool (decide (bl = (0:UInt64)))) (AU rfl rfl fun _ => FU bl (0:UInt64)) rfl ?_
  refine AA _ (AL rfl) rfl ?_
  rcases Bool.eq_false_or_eq_true (decide (bl = (0:UInt64))) with hb2 | hb2
  ·
   have hp2 : bl = (0:UInt64) := of_decide_eq_true hb2
   refine AP 3 12 true _ (Ptr nb1 1) rfl rfl hb2 (AB 1 23 1 BC rfl DG rfl rfl) rfl ?_
   refine AP 3 12 true _ (SL ai ni ci) rfl rfl hb2 (AI rfl (AQ DL (AS 0 rfl (AE (Seg.head))))) rfl ?_
   refine ET 3 12 true _ rfl rfl hb2 (BG 85 [I64 32, SL ai ni ci] (.bool (decide (RightI l))) (A6 _ Tryd.call85 rfl) (fun w1 hw1 => pright_c ai ni ci l w1 hl (by omega) (by omega) (by omega) (CA hw1 rfl hv))) rfl ?_
   rintro v1 L1 ⟨rfl, rfl⟩
   show JL _ _ _ _ ((15, .bool (decide (RightI l))) :: _) [_]
   refine AA _ (A2 _ rfl hb2 rfl) rfl ?_
   refine AA _ (AL rfl) rfl ?_
   rcases Bool.eq_false_or_eq_true (decide (RightI l)) with hb3 | hb3
   ·
    have hp3 : RightI l := of_decide_eq_true hb3
    refine AP 8 17 true _ (Ptr nb1 2) rfl rfl hb3 (AB 2 24 1 BC rfl EG rfl rfl) rfl ?_
    refine AP 8 17 true _ (SL sa ns sc) rfl rfl hb3 (AI rfl (AQ ES (AS 0 rfl (AE (AE (Seg.head)))))) rfl ?_
    refine AP 8 17 true _ (I64 ns) rfl rfl hb3 (CY C3 rfl) rfl ?_
    refine AP 8 17 true _ (Ptr nb1 1) rfl rfl hb3 (AB 1 23 1 BC rfl DG rfl rfl) rfl ?_
    refine AP 8 17 true _ (SL ai ni ci) rfl rfl hb3 (AI rfl (AQ DL (AS 0 rfl (AE (Seg.head))))) rfl ?_
    refine AP 8 17 true _ (I64 ni) rfl rfl hb3 (CY BW rfl) rfl ?_
    refine AP 8 17 true _ (.bool (decide (((ns:Int)) = ((ni:Int))))) rfl rfl hb3 (AU rfl rfl fun _ => BO _ _) rfl ?_
    refine AA _ (A2 _ rfl hb3 rfl) rfl ?_
    refine AA _ (AL rfl) rfl ?_
    rcases Bool.eq_false_or_eq_true (decide (((ns:Int)) = ((ni:Int)))) with hb4 | hb4
    ·
     have hp4 : ((ns:Int)) = ((ni:Int)) := of_decide_eq_true hb4
     refine AP 17 26 true _ (Ptr nb1 2) rfl rfl hb4 (AB 2 24 1 BC rfl EG rfl rfl) rfl ?_
     refine AP 17 26 true _ (SL sa ns sc) rfl rfl hb4 (AI rfl (AQ ES (AS 0 rfl (AE (AE (Seg.head)))))) rfl ?_
     refine AP 17 26 true _ _ rfl rfl hb4 (AL rfl) rfl ?_
     refine ET 17 26 true _ rfl rfl hb4 (BG 134 [SL sa ns sc, .func (.func 132) #[] #[Ptr nb1 0]] (.bool (ls.any (fun x => oddB (headE ls) (SealR.e x)))) (A6 _ Tryd.call134 rfl) (fun w1 hw1 => cfOdd_c nb1 (kd) ai ni ci l sa ns sc ls bl w1 hls (by omega) (by omega) (by omega) (CA hw1 rfl hs) (RdA.of hw1 (AS 0 rfl (AV _)) (by simp)))) rfl ?_
     rintro v1 L1 ⟨rfl, rfl⟩
     show JL _ _ _ _ ((30, .bool (ls.any (fun x => oddB (headE ls) (SealR.e x)))) :: _) [_]
     refine AP 17 26 true _ (.bool (!(ls.any (fun x => oddB (headE ls) (SealR.e x))))) rfl rfl hb4 (EP rfl) rfl ?_
     refine AA _ (A2 _ rfl hb4 rfl) rfl ?_
     refine AA _ (AH rfl) rfl ?_
     refine AN (AF (BK (CT (A1 (BP [false] ?_)))))
     show JQ _ _ _ _ []
     refine BJ (.bool (!(ls.any (fun x => oddB (headE ls) (SealR.e x))))) (res1 E5 (BH rfl)) fun w1 hw1 => ?_
     refine ⟨_, [], rfl, ⟨congrArg Value.bool ?_, rfl⟩, hw1.sub (by simp) (by simp)⟩
     unfold RightO
     rw [hl, hls]
     first | (simp [*]; done) | (simp [*]; omega)
    ·
     have hp4 : ¬ (((ns:Int)) = ((ni:Int))) := of_decide_eq_false hb4
     refine AC 17 26 true _ rfl rfl hb4 rfl ?_
     refine AC 17 26 true _ rfl rfl hb4 rfl ?_
     refine AC 17 26 true _ rfl rfl hb4 rfl ?_
     refine AC 17 26 true _ rfl rfl hb4 rfl ?_
     refine AC 17 26 true _ rfl rfl hb4 rfl ?_
     refine AA _ (A0 _ rfl hb4 rfl) rfl ?_
     refine AA _ (AH rfl) rfl ?_
     refine AN (AF (BK (CT (A1 (BP [false] ?_)))))
     show JQ _ _ _ _ []
     refine BJ (.bool false) (res1 E5 (BH rfl)) fun w1 hw1 => ?_
     refine ⟨_, [], rfl, ⟨congrArg Value.bool ?_, rfl⟩, hw1.sub (by simp) (by simp)⟩
     unfold RightO
     rw [hl, hls]
     first | (simp [*]; done) | (simp [*]; omega)
   ·
    have hp3 : ¬ (RightI l) := of_decide_eq_false hb3
    refine AC 8 17 true _ rfl rfl hb3 rfl ?_
    refine AC 8 17 true _ rfl rfl hb3 rfl ?_
    refine AC 8 17 true _ rfl rfl hb3 rfl ?_
    refine AC 8 17 true _ rfl rfl hb3 rfl ?_
    refine AC 8 17 true _ rfl rfl hb3 rfl ?_
    refine AC 8 17 true _ rfl rfl hb3 rfl ?_
    refine AC 8 17 true _ rfl rfl hb3 rfl ?_
    refine AA _ (A0 _ rfl hb3 rfl) rfl ?_
    refine AA _ (AL rfl) rfl ?_
    refine AC 17 26 true _ rfl rfl rfl rfl ?_
    refine AC 17 26 true _ rfl rfl rfl rfl ?_
    refine AC 17 26 true _ rfl rfl rfl rfl ?_
    refine AC 17 26 true _ rfl rfl rfl rfl ?_
    refine AC 17 26 true _ rfl rfl rfl rfl ?_
    refine AA _ (A0 _ rfl rfl rfl) rfl ?_
    refine AA _ (AH rfl) rfl ?_
    refine AN (AF (BK (CT (A1 (BP [false] ?_)))))
    show JQ _ _ _ _ []
    refine BJ (.bool false) (res1 E5 (BH rfl)) fun w1 hw1 => ?_
    refine ⟨_, [], rfl, ⟨congrArg Value.bool ?_, rfl⟩, hw1.sub (by simp) (by simp)⟩
    unfold RightO
    rw [hl, hls]
    first | (simp [*]; done) | (simp [*]; omega)
  ·
   have hp2 : ¬ (bl = (0:UInt64)) := of_decide_eq_false hb2
   refine AC 3 12 true _ rfl rfl hb2 rfl ?_
   refine AC 3 12 true _ rfl rfl hb2 rfl ?_
   refine AC 3 12 true _ rfl rfl hb2 rfl ?_
   refine AA _ (A0 _ rfl hb2 rfl) rfl ?_
   refine AA _ (AL rfl) rfl ?_
   refine AC 8 17 true _ rfl rfl rfl rfl ?_
   refine AC 8 17 true _ rfl rfl rfl rfl ?_
   refine AC 8 17 true _ rfl rfl rfl rfl ?_
   refine AC 8 17 true _ rfl rfl rfl rfl ?_
   refine AC 8 17 true _ rfl rfl rfl rfl ?_
   refine AC 8 17 true _ rfl rfl rfl rfl ?_
   refine AC 8 17 true _ rfl rfl rfl rfl ?_
   refine AA _ (A0 _ rfl rfl rfl) rfl ?_
   refine AA _ (AL rfl) rfl ?_
   refine AC 17 26 true _ rfl rfl rfl rfl ?_
   refine AC 17 26 true _ rfl rfl rfl rfl ?_
   refine AC 17 26 true _ rfl rfl rfl rfl ?_
   refine AC 17 26 true _ rfl rfl rfl rfl ?_
   refine AC 17 26 true _ rfl rfl rfl rfl ?_
   refine AA _ (A0 _ rfl rfl rfl) rfl ?_
   refine AA _ (AH rfl) rfl ?_
   refine AN (AF (BK (CT (A1 (BP [false] ?_)))))
   show JQ _ _ _ _ []
   refine BJ (.bool false) (res1 E5 (BH rfl)) fun w1 hw1 => ?_
   refine ⟨_, [], rfl, ⟨congrArg Value.bool ?_, rfl⟩, hw1.sub (by simp) (by simp)⟩
   unfold RightO
   rw [hl, hls]
   first | (simp [*]; done) | (simp [*]; omega)
 ·
  have hp1 : ¬ ((kd) = (1:Int)) := of_decide_eq_false hb1
  refine AK (AD (AA (.bool (decide ((kd) = (2:Int)))) (AU rfl rfl fun _ => BO _ _) rfl ?_))
  refine AA _ (AH rfl) rfl ?_
  refine AN (AF (CI (decide ((kd) = (2:Int))) rfl (fun hb5 => ?_) (fun hb5 => ?_)))
  ·
   have hp5 : (kd) = (2:Int) := of_decide_eq_true hb5
   refine AK (AD (AA (Ptr nb1 3) (AB 3 22 1 BC rfl AX rfl rfl) rfl ?_))
   refine AA (U64 bl) (AI rfl (AQ AY (AS 0 rfl (AE (AE (AE (Seg.head))))))) rfl ?_
   refine AA (.bool (decide (bl = (0:UInt64)))) (AU rfl rfl fun _ => FU bl (0:UInt64)) rfl ?_
   refine AA _ (AL rfl) rfl ?_
   rcases Bool.eq_false_or_eq_true (decide (bl = (0:UInt64))) with hb6 | hb6
   ·
    have hp6 : bl = (0:UInt64) := of_decide_eq_true hb6
    refine AP 3 38 true _ (Ptr nb1 1) rfl rfl hb6 (AB 1 23 1 BC rfl DG rfl rfl) rfl ?_
    refine AP 3 38 true _ (SL ai ni ci) rfl rfl hb6 (AI rfl (AQ DL (AS 0 rfl (AE (Seg.head))))) rfl ?_
    refine ET 3 38 true _ rfl rfl hb6 (BG 85 [I64 32, SL ai ni ci] (.bool (decide (RightI l))) (A6 _ Tryd.call85 rfl) (fun w1 hw1 => pright_c ai ni ci l w1 hl (by omega) (by omega) (by omega) (CA hw1 rfl hv))) rfl ?_
    rintro v1 L1 ⟨rfl, rfl⟩
    show JL _ _ _ _ ((41, .bool (decide (RightI l))) :: _) [_]
    refine AA _ (A2 _ rfl hb6 rfl) rfl ?_
    refine AA _ (AL rfl) rfl ?_
    rcases Bool.eq_false_or_eq_true (decide (RightI l)) with hb7 | hb7
    ·
     have hp7 : RightI l := of_decide_eq_true hb7
     refine AP 8 43 true _ (Ptr nb1 2) rfl rfl hb7 (AB 2 24 1 BC rfl EG rfl rfl) rfl ?_
     refine AP 8 43 true _ (SL sa ns sc) rfl rfl hb7 (AI rfl (AQ ES (AS 0 rfl (AE (AE (Seg.head)))))) rfl ?_
     refine AP 8 43 true _ (I64 ns) rfl rfl hb7 (CY C3 rfl) rfl ?_
     refine AP 8 43 true _ (.bool (decide (((ns:Int)) = (0:Int)))) rfl rfl hb7 (AU rfl rfl fun _ => BO _ _) rfl ?_
     refine AA _ (A2 _ rfl hb7 rfl) rfl ?_
     refine AA _ (AH rfl) rfl ?_
     refine AN (AF (BK (CT (A1 (BP [false] ?_)))))
     show JQ _ _ _ _ []
     refine BJ (.bool (decide (((ns:Int)) = (0:Int)))) (res1 E5 (BH rfl)) fun w1 hw1 => ?_
     refine ⟨_, [], rfl, ⟨congrArg Value.bool ?_, rfl⟩, hw1.sub (by simp) (by simp)⟩
     unfold RightO
     rw [hl, hls]
     first | (simp [*]; done) | (simp [*]; omega)
    ·
     have hp7 : ¬ (RightI l) := of_decide_eq_false hb7
     refine AC 8 43 true _ rfl rfl hb7 rfl ?_
     refine AC 8 43 true _ rfl rfl hb7 rfl ?_
     refine AC 8 43 true _ rfl rfl hb7 rfl ?_
     refine AC 8 43 true _ rfl rfl hb7 rfl ?_
     refine AA _ (A0 _ rfl hb7 rfl) rfl ?_
     refine AA _ (AH rfl) rfl ?_
     refine AN (AF (BK (CT (A1 (BP [false] ?_)))))
     show JQ _ _ _ _ []
     refine BJ (.bool false) (res1 E5 (BH rfl)) fun w1 hw1 => ?_
     refine ⟨_, [], rfl, ⟨congrArg Value.bool ?_, rfl⟩, hw1.sub (by simp) (by simp)⟩
     unfold RightO
     rw [hl, hls]
     first | (simp [*]; done) | (simp [*]; omega)
   ·
    have hp6 : ¬ (bl = (0:UInt64)) := of_decide_eq_false hb6
    refine AC 3 38 true _ rfl rfl hb6 rfl ?_
    refine AC 3 38 true _ rfl rfl hb6 rfl ?_
    refine AC 3 38 true _ rfl rfl hb6 rfl ?_
    refine AA _ (A0 _ rfl hb6 rfl) rfl ?_
    refine AA _ (AL rfl) rfl ?_
    refine AC 8 43 true _ rfl rfl rfl rfl ?_
    refine AC 8 43 true _ rfl rfl rfl rfl ?_
    refine AC 8 43 true _ rfl rfl rfl rfl ?_
    refine AC 8 43 true _ rfl rfl rfl rfl ?_
    refine AA _ (A0 _ rfl rfl rfl) rfl ?_
    refine AA _ (AH rfl) rfl ?_
    refine AN (AF (BK (CT (A1 (BP [false] ?_)))))
    show JQ _ _ _ _ []
    refine BJ (.bool false) (res1 E5 (BH rfl)) fun w1 hw1 => ?_
    refine ⟨_, [], rfl, ⟨congrArg Value.bool ?_, rfl⟩, hw1.sub (by simp) (by simp)⟩
    unfold RightO
    rw [hl, hls]
    first | (simp [*]; done) | (simp [*]; omega)
  ·
   have hp5 : ¬ ((kd) = (2:Int)) := of_decide_eq_false hb5
   refine AK (AD (AA (.bool (decide ((kd) = (3:Int)))) (AU rfl rfl fun _ => BO _ _) rfl ?_))
   refine AA _ (AH rfl) rfl ?_
   refine AN (AF (CI (decide ((kd) = (3:Int))) rfl (fun hb8 => ?_) (fun hb8 => ?_)))
   ·
    have hp8 : (kd) = (3:Int) := of_decide_eq_true hb8
    refine AK (AD (AA (Ptr nb1 1) (AB 1 23 1 BC rfl DG rfl rfl) rfl ?_))
    refine AA (SL ai ni ci) (AI rfl (AQ DL (AS 0 rfl (AE (Seg.head))))) rfl ?_
    refine AA (I64 ni) (CY BW rfl) rfl ?_
    refine AA (Ptr nb1 2) (AB 2 24 1 BC rfl EG rfl rfl) rfl ?_
    refine AA (SL sa ns sc) (AI rfl (AQ ES (AS 0 rfl (AE (AE (Seg.head)))))) rfl ?_
    refine AA (I64 ns) (CY C3 rfl) rfl ?_
    refine AA (I64 ((ni:Int) + (ns:Int))) (AU rfl rfl fun _ => DE _ _ ((ni:Int) + (ns:Int)) (by omega) (by omega)) rfl ?_
    refine AA (.bool (decide (((ni:Int) + (ns:Int)) = (0:Int)))) (AU rfl rfl fun _ => BO _ _) rfl ?_
    refine AA _ (AL rfl) rfl ?_
    rcases Bool.eq_false_or_eq_true (decide (((ni:Int) + (ns:Int)) = (0:Int))) with hb9 | hb9
    ·
     have hp9 : ((ni:Int) + (ns:Int)) = (0:Int) := of_decide_eq_true hb9
     refine AP 8 59 true _ (Ptr nb1 3) rfl rfl hb9 (AB 3 22 1 BC rfl AX rfl rfl) rfl ?_
     refine AP 8 59 true _ (U64 bl) rfl rfl hb9 (AI rfl (AQ AY (AS 0 rfl (AE (AE (AE (Seg.head))))))) rfl ?_
     refine AP 8 59 true _ (.bool (decide ((1:UInt64) ≤ bl))) rfl rfl hb9 (AU rfl rfl fun _ => FQ bl (1:UInt64)) rfl ?_
     refine AA _ (A2 _ rfl hb9 rfl) rfl ?_
     refine AA _ (AL rfl) rfl ?_
     rcases Bool.eq_false_or_eq_true (decide ((1:UInt64) ≤ bl)) with hb10 | hb10
     ·
      have hp10 : (1:UInt64) ≤ bl := of_decide_eq_true hb10
      refine AP 13 64 true _ (Ptr nb1 3) rfl rfl hb10 (AB 3 22 1 BC rfl AX rfl rfl) rfl ?_
      refine AP 13 64 true _ (U64 bl) rfl rfl hb10 (AI rfl (AQ AY (AS 0 rfl (AE (AE (AE (Seg.head))))))) rfl ?_
      refine AP 13 64 true _ (.bool (decide (bl ≤ (4294967296:UInt64)))) rfl rfl hb10 (AU rfl rfl fun _ => bin_leq_u64 bl (4294967296:UInt64)) rfl ?_
      refine AA _ (A2 _ rfl hb10 rfl) rfl ?_
      refine AA _ (AH rfl) rfl ?_
      refine AN (AF (BK (CT (A1 (BP [false] ?_)))))
      show JQ _ _ _ _ []
      refine BJ (.bool (decide (bl ≤ (4294967296:UInt64)))) (res1 E5 (BH rfl)) fun w1 hw1 => ?_
      refine ⟨_, [], rfl, ⟨congrArg Value.bool ?_, rfl⟩, hw1.sub (by simp) (by simp)⟩
      unfold RightO
      rw [hl, hls]
      first | (simp [*]; done) | (simp [*]; omega)
     ·
      have hp10 : ¬ ((1:UInt64) ≤ bl) := of_decide_eq_false hb10
      refine AC 13 64 true _ rfl rfl hb10 rfl ?_
      refine AC 13 64 true _ rfl rfl hb10 rfl ?_
      refine AC 13 64 true _ rfl rfl hb10 rfl ?_
      refine AA _ (A0 _ rfl hb10 rfl) rfl ?_
      refine AA _ (AH rfl) rfl ?_
      refine AN (AF (BK (CT (A1 (BP [false] ?_)))))
      show JQ _ _ _ _ []
      refine BJ (.bool false) (res1 E5 (BH rfl)) fun w1 hw1 => ?_
      refine ⟨_, [], rfl, ⟨congrArg Value.bool ?_, rfl⟩, hw1.sub (by simp) (by simp)⟩
      unfold RightO
      rw [hl, hls]
      first | (simp [*]; done) | (simp [*]; omega)
    ·
     have hp9 : ¬ (((ni:Int) + (ns:Int)) = (0:Int)) := of_decide_eq_false hb9
     refine AC 8 59 true _ rfl rfl hb9 rfl ?_
     refine AC 8 59 true _ rfl rfl hb9 rfl ?_
     refine AC 8 59 true _ rfl rfl hb9 rfl ?_
     refine AA _ (A0 _ rfl hb9 rfl) rfl ?_
     refine AA _ (AL rfl) rfl ?_
     refine AC 13 64 true _ rfl rfl rfl rfl ?_
     refine AC 13 64 true _ rfl rfl rfl rfl ?_
     refine AC 13 64 true _ rfl rfl rfl rfl ?_
     refine AA _ (A0 _ rfl rfl rfl) rfl ?_
     refine AA _ (AH rfl) rfl ?_
     refine AN (AF (BK (CT (A1 (BP [false] ?_)))))
     show JQ _ _ _ _ []
     refine BJ (.bool false) (res1 E5 (BH rfl)) fun w1 hw1 => ?_
     refine ⟨_, [], rfl, ⟨congrArg Value.bool ?_, rfl⟩, hw1.sub (by simp) (by simp)⟩
     unfold RightO
     rw [hl, hls]
     first | (simp [*]; done) | (simp [*]; omega)
   ·
    have hp8 : ¬ ((kd) = (3:Int)) := of_decide_eq_false hb8
    refine BE (BY (AF (AK (AD (AA _ (AH rfl) rfl ?_)))))
    refine AN (AF (BK (BP [false] ?_)))
    show JQ _ _ _ _ []
    refine BJ (.bool false) (res1 E5 (BH rfl)) fun w1 hw1 => ?_
    refine ⟨_, [], rfl, ⟨congrArg Value.bool ?_, rfl⟩, hw1.sub (by simp) (by simp)⟩
    unfold RightO
    rw [hl, hls]
    first | (simp [*]; done) | (simp [*]; omega)
theorem doc7_c (e : UInt64) (d t : List UInt8)  (w : World) (hd : d.length = 32) (ht : t.length = 16)  : Calls Tryd.prog 93 #[.agg ([U64 e] ++ cu8 d ++ cu8 t).toArray] w (Post w [] (fun v L => v = .agg ([U64 e] ++ cu8 d ++ cu8 t).toArray ∧ L = [])) := by
 refine enter (P := Tryd.prog) (f := 93) (fn := Tryd.f93) w [] 4 [] [.agg ([U64 e] ++ cu8 d ++ cu8 t).toArray] Tryd.func93 rfl rfl (by simp) (CC (by simp) (by simp) (by simp)) ?_
 show JC _ _ _ [(0, .agg ([U64 e] ++ cu8 d ++ cu8 t).toArray)] _
 refine AK (AD (A9 (CL (.agg ([U64 e] ++ cu8 d ++ cu8 t).toArray) ([U64 e] ++ cu8 d ++ cu8 t) rfl (by first | rfl | simp)) rfl ?_))
 rintro v1 L1 ⟨nb1, hnb1, rfl, rfl⟩
 show JL _ _ _ _ ((1, Ptr nb1 0) :: _) [⟨nb1, [U64 e] ++ cu8 d ++ cu8 t, 161, (0, 0)⟩]
 refine A9 (DI _ ([U64 0] ++ cu8 (zr8 32) ++ cu8 (zr8 16)) Tryd.zeroValue164 (by kernel_rfl)) rfl ?_
 rintro v1 L1 ⟨nb2, hnb2, rfl, rfl⟩
 show JL _ _ _ _ ((2, Ptr nb2 0) :: _) [_, ⟨nb2, [U64 0] ++ cu8 (zr8 32) ++ cu8 (zr8 16), 164, (0, 0)⟩]
 refine AN (AF (AK (AD (AA (.agg ([U64 e] ++ cu8 d ++ cu8 t).toArray) (AI rfl (BV D2 CJ (by simp [hd, ht]) (AS 0 rfl (AV _)))) rfl ?_))))
 refine B1 (CW 1 nb2 49 ([U64 0] ++ cu8 (zr8 32) ++ cu8 (zr8 16)) 164 ([U64 e] ++ cu8 d ++ cu8 t) rfl rfl rfl C8 (by simp [hd, ht]) (EH (EH (by simp [Value.oneCell']) FE) FE) (by simp [(B6 32), (B6 16)]) (DC (by simp [(B6 32), (B6 16), hd, ht]))) rfl ?_
 show JL _ _ _ _ _ [_, ⟨nb2, [U64 e] ++ cu8 d ++ cu8 t, 164, (0, 0)⟩]
 refine AN (AF (BK (BJ (.agg ([U64 e] ++ cu8 d ++ cu8 t).toArray) (res1 Tryd.results93 (F6 rfl (BV Tryd.isAgg164 C8 (by simp [hd, ht]) (AS 1 rfl (AV _))))) fun w1 hw1 => ?_)))
 exact ⟨_, [], rfl, ⟨rfl, rfl⟩, hw1.sub (by simp) (by simp)⟩
theorem bld36_013 {w : World} {v0 : Value} {v1 : Value} {v3 : Value} (h0 : v0.cells = [v0].toArray) (h1 : v1.cells = [v1].toArray) (h3 : v3.cells = [v3].toArray) : (Instr.build 36 ([(0, v0), (1, v1), (3, v3)] : List (Nat × Value)).toArray).run Tryd.prog w = .ok (.agg (((([v0] : List Value) ++ ([v1] : List Value)) ++ ([.slice none 0 0] : List Value)) ++ ([v3] : List Value)).toArray) w :=
 FS (places := #[(0, 1), (1, 1), (2, 1), (3, 1)]) (Z := (([I64 0] : List Value) ++ (([.slice none 0 0] : List Value) ++ (([.slice none 0 0] : List Value) ++ (([U64 0] : List Value) ++ []))))) (fun _ => by kernel_rfl) BF (fun _ => by kernel_rfl) ((fill_start ([I64 0] : List Value) (([.slice none 0 0] : List Value) ++ (([.slice none 0 0] : List Value) ++ (([U64 0] : List Value) ++ []))) ([v0] : List Value) h0 (by simp [B6]) rfl).trans ((FJ ([v0] : List Value) ([.slice none 0 0] : List Value) (([.slice none 0 0] : List Value) ++ (([U64 0] : List Value) ++ [])) ([v1] : List Value) h1 (by simp [B6]) rfl).trans ((fill_skip (([v0] : List Value) ++ ([v1] : List Value)) ([.slice none 0 0] : List Value) (([U64 0] : List Value) ++ [])).trans ((FJ ((([v0] : List Value) ++ ([v1] : List Value)) ++ ([.slice none 0 0] : List Value)) ([U64 0] : List Value) [] ([v3] : List Value) h3 (by simp [B6]) rfl).trans (by simp [Instr.fill])))))
theorem order0_c (kd : Int) (ai : Option Addr) (ni ci : Nat) (l : List UInt64) (sa : Option Addr) (ns sc : Nat) (ls : List SealR) (bl : UInt64)  (w : World) (hl : l.length = ni) (hnm : ni ≤ 2000000) (hnc : ni ≤ ci) (hcm : ci ≤ maxLen) (hv : RdV w ai (cu64 l)) (hls : ls.length = ns) (hnn : ns ≤ 2000000) (hnd : ns ≤ sc) (hcn : sc ≤ maxLen) (hs : RdV w sa (ls.flatMap sealC)) (h0 : ns = 0) : Calls Tryd.prog 66 #[.agg #[I64 (kd), SL ai ni ci, SL sa ns sc, U64 bl]] w (Post w [] (fun v L => v = .agg #[I64 kd, SL ai ni ci, SL none 0 0, U64 bl] ∧ L = [])) := by
 have hmx : maxLen = 9223372036854775807 := rfl
 refine enter (P := Tryd.prog) (f := 66) (fn := Tryd.f66) w [] 29 [] [.agg #[I64 (kd), SL ai ni ci, SL sa ns sc, U64 bl]] Tryd.func66 rfl rfl (by simp) (CC (by simp) (by simp) (by simp)) ?_
 show JC _ _ _ [(0, .agg #[I64 (kd), SL ai ni ci, SL sa ns sc, U64 bl])] _
 refine AK (AD (A9 (CL (.agg #[I64 (kd), SL ai ni ci, SL sa ns sc, U64 bl]) ([I64 (kd), SL ai ni ci, SL sa ns sc, U64 bl]) rfl (by first | rfl | simp)) rfl ?_))
 rintro v1 L1 ⟨nb1, hnb1, rfl, rfl⟩
 show JL _ _ _ _ ((1, Ptr nb1 0) :: _) [⟨nb1, [I64 (kd), SL ai ni ci, SL sa ns sc, U64 bl], 26, (0, 0)⟩]
 refine A9 (DI _ ([I64 0, SL none 0 0, SL none 0 0, U64 0]) Tryd.zeroValue36 (by kernel_rfl)) rfl ?_
 rintro v1 L1 ⟨nb2, hnb2, rfl, rfl⟩
 show JL _ _ _ _ ((2, Ptr nb2 0) :: _) [_, ⟨nb2, [I64 0, SL none 0 0, SL none 0 0, U64 0], 36, (0, 0)⟩]
 refine AN (AF (AK (AD (AA (Ptr nb1 0) (AB 0 3 1 BC rfl AR rfl rfl) rfl ?_))))
 refine AA (I64 (kd)) (AI rfl (AQ AT (AS 0 rfl (Seg.head)))) rfl ?_
 refine AA (Ptr nb1 1) (AB 1 23 1 BC rfl DG rfl rfl) rfl ?_
 refine AA (SL ai ni ci) (AI rfl (AQ DL (AS 0 rfl (AE (Seg.head))))) rfl ?_
 refine AA (Ptr nb1 3) (AB 3 22 1 BC rfl AX rfl rfl) rfl ?_
 refine AA (U64 bl) (AI rfl (AQ AY (AS 0 rfl (AE (AE (AE (Seg.head))))))) rfl ?_
 refine AA (.agg #[I64 (kd), SL ai ni ci, SL none 0 0, U64 bl]) (EB [(0, I64 (kd)), (1, SL ai ni ci), (3, U64 bl)] _ rfl (fun _ => bld36_013 rfl rfl rfl)) rfl ?_
 refine A9 (DI _ ([I64 0, SL none 0 0, SL none 0 0, U64 0]) Tryd.zeroValue36 (by kernel_rfl)) rfl ?_
 rintro v1 L1 ⟨nb3, hnb3, rfl, rfl⟩
 show JL _ _ _ _ ((3, Ptr nb3 0) :: _) [_, _, ⟨nb3, [I64 0, SL none 0 0, SL none 0 0, U64 0], 36, (0, 0)⟩]
 refine B1 (CW 2 nb3 4 ([I64 0, SL none 0 0, SL none 0 0, U64 0]) 36 ([I64 (kd), SL ai ni ci, SL none 0 0, U64 bl]) rfl rfl rfl CU rfl (by simp [Value.oneCell']) (Nat.le_of_ble_eq_true rfl) (DC (by simp []))) rfl ?_
 show JL _ _ _ _ _ [_, _, ⟨nb3, [I64 (kd), SL ai ni ci, SL none 0 0, U64 bl], 36, (0, 0)⟩]
 refine AN (AF (AK (AK (AD (AA (Ptr nb1 2) (AB 2 24 1 BC rfl EG rfl rfl) rfl ?_)))))
 refine AA (SL sa ns sc) (AI rfl (AQ ES (AS 0 rfl (AE (AE (Seg.head)))))) rfl ?_
 refine AA (I64 ns) (CY C3 rfl) rfl ?_
 refine AA _ (AL rfl) rfl ?_
 refine AN (AF (B2 (BP [false, true, true] ?_)))
 show JC _ _ _ _ [_, _]
 refine DV (ι := Unit) (fun _ => [(2, Ptr nb2 0), (3, Ptr nb3 0), (14, SL sa ns sc), (15, I64 ns), (16, I64 0)]) (fun _ => [⟨nb2, [I64 0, SL none 0 0, SL none 0 0, U64 0], 36, (0, 0)⟩, ⟨nb3, [I64 (kd), SL ai ni ci, SL none 0 0, U64 bl], 36, (0, 0)⟩]) (fun _ => True) (fun _ => 1) () trivial (Sub.all rfl) rfl ?_
 rintro _ _
 show JC _ _ _ [(2, Ptr nb2 0), (3, Ptr nb3 0), (14, SL sa ns sc), (15, I64 ns), (16, I64 0)] [⟨nb2, [I64 0, SL none 0 0, SL none 0 0, U64 0], 36, (0, 0)⟩, ⟨nb3, [I64 (kd), SL ai ni ci, SL none 0 0, U64 bl], 36, (0, 0)⟩]
 refine AK (AD (AA (.bool (decide ((0:Int) < ((ns:Int))))) (AU rfl rfl fun _ => CR _ _) rfl ?_))
 refine AN (AF (AK (BN _ rfl (decide_eq_false (by omega)) ?_)))
 refine DU (A5 (A5 (CQ (AF (AK (AD (AA (.agg #[I64 (kd), SL ai ni ci, SL none 0 0, U64 bl]) (AI rfl (BV Tryd.isAgg36 CU rfl (AS 1 rfl (AV _)))) rfl ?_)))))))
 refine B1 (CW 0 nb2 4 ([I64 0, SL none 0 0, SL none 0 0, U64 0]) 36 ([I64 (kd), SL ai ni ci, SL none 0 0, U64 bl]) rfl rfl rfl CU rfl (by simp [Value.oneCell']) (Nat.le_of_ble_eq_true rfl) (DC (by simp []))) rfl ?_
 show JL _ _ _ _ _ [⟨nb2, [I64 (kd), SL ai ni ci, SL none 0 0, U64 bl], 36, (0, 0)⟩, _]
 refine AN (AF (BK (BJ (.agg #[I64 (kd), SL ai ni ci, SL none 0 0, U64 bl]) (res1 Tryd.results66 (F6 rfl (BV Tryd.isAgg36 CU rfl (AS 0 rfl (AV _))))) fun w1 hw1 => ?_)))
 exact ⟨_, [], rfl, ⟨rfl, rfl⟩, hw1.sub (by simp) (by simp)⟩
theorem orderP_c (kd : Int) (ai : Option Addr) (ni ci : Nat) (l : List UInt64) (sa : Option Addr) (ns sc : Nat) (ls : List SealR) (bl : UInt64)  (w : World) (hl : l.length = ni) (hnm : ni ≤ 2000000) (hnc : ni ≤ ci) (hcm : ci ≤ maxLen) (hv : RdV w ai (cu64 l)) (hls : ls.length = ns) (hnn : ns ≤ 2000000) (hnd : ns ≤ sc) (hcn : sc ≤ maxLen) (hs : RdV w sa (ls.flatMap sealC)) (h0 : 0 < ns) : Calls Tryd.prog 66 #[.agg #[I64 (kd), SL ai ni ci, SL sa ns sc, U64 bl]] w (Post w [] (fun v L => ∃ g sp cap, v = .agg #[I64 kd, SL ai ni ci, Slc g 0 ns cap, U64 bl] ∧ L = [⟨g, ls.flatMap sealC ++ sp, 164, (0, 0)⟩] ∧ sp.length = cap * 49 - ns * 49 ∧ ns ≤ cap ∧ cap ≤ maxLen)) := by
 have hmx : maxLen = 9223372036854775807 := rfl
 refine enter (P := Tryd.prog) (f := 66) (fn := Tryd.f66) w [] 29 [] [.agg #[I64 (kd), SL ai ni ci, SL sa ns sc, U64 bl]] Tryd.func66 rfl rfl (by simp) (CC (by simp) (by simp) (by simp)) ?_
 show JC _ _ _ [(0, .agg #[I64 (kd), SL ai ni ci, SL sa ns sc, U64 bl])] _
 refine AK (AD (A9 (CL (.agg #[I64 (kd), SL ai ni ci, SL sa ns sc, U64 bl]) ([I64 (kd), SL ai ni ci, SL sa ns sc, U64 bl]) rfl (by first | rfl | simp)) rfl ?_))
 rintro v1 L1 ⟨nb1, hnb1, rfl, rfl⟩
 show JL _ _ _ _ ((1, Ptr nb1 0) :: _) [⟨nb1, [I64 (kd), SL ai ni ci, SL sa ns sc, U64 bl], 26, (0, 0)⟩]
 refine A9 (DI _ ([I64 0, SL none 0 0, SL none 0 0, U64 0]) Tryd.zeroValue36 (by kernel_rfl)) rfl ?_
 rintro v1 L1 ⟨nb2, hnb2, rfl, rfl⟩
 show JL _ _ _ _ ((2, Ptr nb2 0) :: _) [_, ⟨nb2, [I64 0, SL none 0 0, SL none 0 0, U64 0], 36, (0, 0)⟩]
 refine AN (AF (AK (AD (AA (Ptr nb1 0) (AB 0 3 1 BC rfl AR rfl rfl) rfl ?_))))
 refine AA (I64 (kd)) (AI rfl (AQ AT (AS 0 rfl (Seg.head)))) rfl ?_
 refine AA (Ptr nb1 1) (AB 1 23 1 BC rfl DG rfl rfl) rfl ?_
 refine AA (SL ai ni ci) (AI rfl (AQ DL (AS 0 rfl (AE (Seg.head))))) rfl ?_
 refine AA (Ptr nb1 3) (AB 3 22 1 BC rfl AX rfl rfl) rfl ?_
 refine AA (U64 bl) (AI rfl (AQ AY (AS 0 rfl (AE (AE (AE (Seg.head))))))) rfl ?_
 refine AA (.agg #[I64 (kd), SL ai ni ci, SL none 0 0, U64 bl]) (EB [(0, I64 (kd)), (1, SL ai ni ci), (3, U64 bl)] _ rfl (fun _ => bld36_013 rfl rfl rfl)) rfl ?_
 refine A9 (DI _ ([I64 0, SL none 0 0, SL none 0 0, U64 0]) Tryd.zeroValue36 (by kernel_rfl)) rfl ?_
 rintro v1 L1 ⟨nb3, hnb3, rfl, rfl⟩
 show JL _ _ _ _ ((3, Ptr nb3 0) :: _) [_, _, ⟨nb3, [I64 0, SL none 0 0, SL none 0 0, U64 0], 36, (0, 0)⟩]
 refine B1 (CW 2 nb3 4 ([I64 0, SL none 0 0, SL none 0 0, U64 0]) 36 ([I64 (kd), SL ai ni ci, SL none 0 0, U64 bl]) rfl rfl rfl CU rfl (by simp [Value.oneCell']) (Nat.le_of_ble_eq_true rfl) (DC (by simp []))) rfl ?_
 show JL _ _ _ _ _ [_, _, ⟨nb3, [I64 (kd), SL ai ni ci, SL none 0 0, U64 bl], 36, (0, 0)⟩]
 refine AN (AF (AK (AK (AD (AA (Ptr nb1 2) (AB 2 24 1 BC rfl EG rfl rfl) rfl ?_)))))
 refine AA (SL sa ns sc) (AI rfl (AQ ES (AS 0 rfl (AE (AE (Seg.head)))))) rfl ?_
 refine AA (I64 ns) (CY C3 rfl) rfl ?_
 refine AA _ (AL rfl) rfl ?_
 refine AN (AF (B2 (BP [false, true, true] ?_)))
 show JC _ _ _ _ [_, _]
 refine DV (ι := (Unit) ⊕ (Nat × List SealR × Nat × List Value × Nat)) (fun x => match x with | .inl _ => [(2, Ptr nb2 0), (3, Ptr nb3 0), (14, SL sa ns sc), (15, I64 ns), (16, I64 0)] | .inr ⟨i, rr, gb, sp, cp⟩ => [(2, Ptr nb2 0), (3, Ptr nb3 0), (14, SL sa ns sc), (15, I64 ns), (16, I64 i)]) (fun x => match x with | .inl _ => [⟨nb2, [I64 0, SL none 0 0, SL none 0 0, U64 0], 36, (0, 0)⟩, ⟨nb3, [I64 (kd), SL ai ni ci, SL none 0 0, U64 bl], 36, (0, 0)⟩] | .inr ⟨i, rr, gb, sp, cp⟩ => [⟨nb2, [I64 0, SL none 0 0, SL none 0 0, U64 0], 36, (0, 0)⟩, ⟨nb3, [I64 (kd), SL ai ni ci, Slc gb 0 i cp, U64 bl], 36, (0, 0)⟩, ⟨gb, (rr).flatMap sealC ++ sp, 164, (0, 0)⟩]) (fun x => match x with | .inl _ => True | .inr ⟨i, rr, gb, sp, cp⟩ => 0 < i ∧ i ≤ ns ∧ rr = ls.take i ∧ rr.length = i ∧ sp.length = cp * 49 - i * 49 ∧ i ≤ cp ∧ cp ≤ maxLen) (fun x => match x with | .inl _ => ns + 2 | .inr ⟨i, rr, gb, sp, cp⟩ => ns + 1 - i) (.inl ()) trivial (Sub.all rfl) rfl ?_
 rintro (_ | ⟨i, rr, gb, sp, cp⟩) hx
 ·
  obtain _ := hx
  show JC _ _ _ [(2, Ptr nb2 0), (3, Ptr nb3 0), (14, SL sa ns sc), (15, I64 ns), (16, I64 0)] [⟨nb2, [I64 0, SL none 0 0, SL none 0 0, U64 0], 36, (0, 0)⟩, ⟨nb3, [I64 (kd), SL ai ni ci, SL none 0 0, U64 bl], 36, (0, 0)⟩]
  refine AK (AD (AA (.bool (decide ((0:Int) < ((ns:Int))))) (AU rfl rfl fun _ => CR _ _) rfl ?_))
  refine AN (AF (AK (CO _ rfl (decide_eq_true (by omega)) ?_)))
  refine BE (AF (AK (B2 (AK (AD ?_)))))
  obtain ⟨x1, hx1⟩ : ∃ x, ls[0]? = some x := ⟨_, List.getElem?_eq_getElem (by rw [hls]; omega)⟩
  obtain ⟨bz1, oz1, hz1, hm1⟩ := E4 FB (by decide) hs hx1
  refine AA (Ptr bz1 oz1) (B4 161 49 oz1 C3 CJ rfl hz1 rfl (by omega) (by omega) (by omega)) rfl ?_
  refine AA (.agg ([U64 x1.e] ++ cu8 x1.d ++ cu8 x1.t).toArray) (AI rfl (BV D2 CJ (by simp [x1.hd, x1.ht]) (CK (hm1.mem (by simp)) (AV _) (by omega)))) rfl ?_
  refine A9 (DI _ ([U64 0] ++ cu8 (zr8 32) ++ cu8 (zr8 16)) Tryd.zeroValue161 (by kernel_rfl)) rfl ?_
  rintro v1 L1 ⟨nb4, hnb4, rfl, rfl⟩
  show JL _ _ _ _ ((5, Ptr nb4 0) :: _) [_, _, ⟨nb4, [U64 0] ++ cu8 (zr8 32) ++ cu8 (zr8 16), 161, (0, 0)⟩]
  refine B1 (CW 2 nb4 49 ([U64 0] ++ cu8 (zr8 32) ++ cu8 (zr8 16)) 161 ([U64 x1.e] ++ cu8 x1.d ++ cu8 x1.t) rfl rfl rfl CJ (by simp [x1.hd, x1.ht]) (EH (EH (by simp [Value.oneCell']) FE) FE) (by simp [(B6 32), (B6 16)]) (DC (by simp [(B6 32), (B6 16), x1.hd, x1.ht]))) rfl ?_
  show JL _ _ _ _ _ [_, _, ⟨nb4, [U64 x1.e] ++ cu8 x1.d ++ cu8 x1.t, 161, (0, 0)⟩]
  refine AN (AF (DH 29 5 [(0, Ptr nb3 2), (1, SL none 0 0), (2, .agg ([U64 x1.e] ++ cu8 x1.d ++ cu8 x1.t).toArray)] B8 rfl (by decide +kernel) ?_))
  refine FH ⟨[], [0, 1, 2], [], [0, 1, 2], [3]⟩ 3 rfl rfl (by decide +kernel) rfl ⟨⟨_, rfl, AJ rfl (AB 2 34 1 BF rfl DF rfl rfl)⟩, ⟨_, rfl, AJ rfl (AI rfl (AQ DW (AS 1 rfl (AE (AE (Seg.head))))))⟩, ⟨_, rfl, AJ rfl (AI rfl (BV D2 CJ (by simp [x1.hd, x1.ht]) (AS 2 rfl (AV _))))⟩, trivial⟩ rfl (BI rfl (BG 93 [.agg ([U64 x1.e] ++ cu8 x1.d ++ cu8 x1.t).toArray] (.agg ([U64 x1.e] ++ cu8 x1.d ++ cu8 x1.t).toArray) (A6 _ Tryd.call93 rfl) (fun w1 hw1 => doc7_c x1.e x1.d x1.t w1 x1.hd x1.ht))) ?_
  show DP _ _ _ _ _ _ _ _ [_, _, _]
  refine CZ ⟨[3], [0, 1, 2], [2], [0, 1], [4]⟩ 4 _ rfl rfl (by decide +kernel) rfl ⟨⟨_, rfl, AJ rfl (AB 2 34 1 BF rfl DF rfl rfl)⟩, ⟨_, rfl, AJ rfl (AI rfl (AQ DW (AS 1 rfl (AE (AE (Seg.head))))))⟩, trivial⟩ rfl (BI rfl (B3 164 49 _ [(0, .agg ([U64 x1.e] ++ cu8 x1.d ++ cu8 x1.t).toArray)] ([U64 x1.e] ++ cu8 x1.d ++ cu8 x1.t) C9 C8 Tryd.zeroValue164 rfl rfl rfl (fill_one (Z := [U64 0] ++ cu8 (zr8 32) ++ cu8 (zr8 16)) (by simp [x1.hd, x1.ht]) (by kernel_rfl) (by simp [zr8])))) ?_
  rintro v1 L1 ⟨nb5, hnb5, rfl, rfl⟩
  refine ⟨[], ?_⟩
  show DP _ _ _ _ _ _ _ _ [_, _, _, ⟨nb5, [U64 x1.e] ++ cu8 x1.d ++ cu8 x1.t, 164, (0, 0)⟩]
  refine CZ ⟨[3, 4], [0, 1, 2], [2], [0, 1], [5]⟩ 5 _ rfl rfl (by decide +kernel) rfl ⟨⟨_, rfl, AJ rfl (AB 2 34 1 BF rfl DF rfl rfl)⟩, ⟨_, rfl, AJ rfl (AI rfl (AQ DW (AS 1 rfl (AE (AE (Seg.head))))))⟩, trivial⟩ rfl (BI rfl (Step_appS 34 164 56 (.agg ([U64 0] ++ cu8 (zr8 32) ++ cu8 (zr8 16)).toArray) [false, false, false, false] (SL none 0 0) 0 ([] : List SealR) x1 (some ⟨nb5, 0, none⟩) 1 1 C9 (by kernel_rfl) (by kernel_rfl) rfl (.inl ⟨rfl, rfl, rfl, rfl⟩) rfl (SrcAt.mem (AS 3 rfl (AV _))) (by omega) (by unfold maxLen; omega) (by omega))) ?_
  rintro v1 L1 ⟨nb6, sp1, cp1, hg1, rfl, rfl, ha1, ha2, ha3, ha4⟩
  refine ⟨[(6, Ptr nb3 2)], ?_⟩
  show DP _ _ _ _ _ _ _ _ [_, _, _, _, ⟨nb6, (([] : List SealR) ++ [x1]).flatMap sealC ++ sp1, 164, (0, 0)⟩]
  refine FH ⟨[3, 4, 5], [0, 1, 2, 6], [0, 1, 2], [6], [7]⟩ 7 rfl rfl (by decide +kernel) rfl ⟨⟨_, rfl, AJ rfl (AB 2 34 1 BF rfl DF rfl rfl)⟩, trivial⟩ rfl (BI rfl (FD 1 nb3 2 1 ([I64 (kd), SL ai ni ci, SL none 0 0, U64 bl]) 36 (Slc nb6 0 1 cp1) ([Slc nb6 0 1 cp1]) ([I64 (kd), SL ai ni ci, Slc nb6 0 1 cp1, U64 bl]) rfl rfl rfl rfl DF rfl (by simp [Value.oneCell']) (Nat.le_of_ble_eq_true rfl) (rfl))) ?_
  show DP _ _ _ _ _ _ _ _ [_, ⟨nb3, [I64 (kd), SL ai ni ci, Slc nb6 0 1 cp1, U64 bl], 36, (0, 0)⟩, _, _, _]
  refine DN ⟨[3, 4, 5, 7], [0, 1, 2, 6], [0, 1, 2, 6], [], []⟩ rfl rfl (by decide +kernel) rfl trivial ?_
  refine C7 (F' := [(20, Ptr nb3 2), (21, SL none 0 0), (22, .agg ([U64 x1.e] ++ cu8 x1.d ++ cu8 x1.t).toArray), (23, .agg ([U64 x1.e] ++ cu8 x1.d ++ cu8 x1.t).toArray), (24, Slc nb5 0 1 1), (25, Slc nb6 0 1 cp1), (26, Ptr nb3 2), (2, Ptr nb2 0), (3, Ptr nb3 0), (14, SL sa ns sc), (15, I64 ns), (16, I64 0), (17, .bool (decide ((0:Int) < ((ns:Int))))), (18, Ptr bz1 oz1), (19, .agg ([U64 x1.e] ++ cu8 x1.d ++ cu8 x1.t).toArray), (5, Ptr nb4 0)]) (by kernel_rfl) ?_
  refine BY (AF (AD (AA (I64 1) (AU rfl rfl fun _ => DE _ _ (1:Int) (by omega) (by omega)) rfl ?_)))
  refine AA _ (AL rfl) rfl ?_
  refine AN (DK (BP [true, true, false, false, true] ?_))
  show K _ _ [_, _, _] _
  refine EM (.inr (1, ([] : List SealR) ++ [x1], nb6, sp1, cp1)) ⟨by omega, by omega, F9 (i := 0) hx1, (ha1).trans (by first | rfl | simp +arith), (ha2).trans (by first | rfl | simp +arith), by omega, by omega⟩ (by first | (simp; omega) | simp | (dsimp only; omega) | omega) (Sub.all rfl) rfl
 ·
  obtain ⟨hi1, hi2, hi3, hi4, hi5, hi6, hi7⟩ := hx
  show JC _ _ _ [(2, Ptr nb2 0), (3, Ptr nb3 0), (14, SL sa ns sc), (15, I64 ns), (16, I64 i)] [⟨nb2, [I64 0, SL none 0 0, SL none 0 0, U64 0], 36, (0, 0)⟩, ⟨nb3, [I64 (kd), SL ai ni ci, Slc gb 0 i cp, U64 bl], 36, (0, 0)⟩, ⟨gb, (rr).flatMap sealC ++ sp, 164, (0, 0)⟩]
  refine AK (AD (AA (.bool (decide (((i:Int)) < ((ns:Int))))) (AU rfl rfl fun _ => CR _ _) rfl ?_))
  refine AN (AF (AK (CI (decide (((i:Int)) < ((ns:Int)))) rfl (fun hb1 => ?_) (fun hb1 => ?_))))
  ·
   have hp1 : ((i:Int)) < ((ns:Int)) := of_decide_eq_true hb1
   refine BE (AF (AK (B2 (AK (AD ?_)))))
   obtain ⟨x2, hx2⟩ : ∃ x, ls[i]? = some x := ⟨_, List.getElem?_eq_getElem (by rw [hls]; omega)⟩
   obtain ⟨bz2, oz2, hz2, hm2⟩ := E4 FB (by decide) hs hx2
   refine AA (Ptr bz2 (49*i + oz2)) (B4 161 49 (49*i + oz2) C3 CJ rfl hz2 rfl (by omega) (by omega) (by omega)) rfl ?_
   refine AA (.agg ([U64 x2.e] ++ cu8 x2.d ++ cu8 x2.t).toArray) (AI rfl (BV D2 CJ (by simp [x2.hd, x2.ht]) (CK (hm2.mem (by simp)) (AV _) (by omega)))) rfl ?_
   refine A9 (DI _ ([U64 0] ++ cu8 (zr8 32) ++ cu8 (zr8 16)) Tryd.zeroValue161 (by kernel_rfl)) rfl ?_
   rintro v1 L1 ⟨nb7, hnb7, rfl, rfl⟩
   show JL _ _ _ _ ((5, Ptr nb7 0) :: _) [_, _, _, ⟨nb7, [U64 0] ++ cu8 (zr8 32) ++ cu8 (zr8 16), 161, (0, 0)⟩]
   refine B1 (CW 3 nb7 49 ([U64 0] ++ cu8 (zr8 32) ++ cu8 (zr8 16)) 161 ([U64 x2.e] ++ cu8 x2.d ++ cu8 x2.t) rfl rfl rfl CJ (by simp [x2.hd, x2.ht]) (EH (EH (by simp [Value.oneCell']) FE) FE) (by simp [(B6 32), (B6 16)]) (DC (by simp [(B6 32), (B6 16), x2.hd, x2.ht]))) rfl ?_
   show JL _ _ _ _ _ [_, _, _, ⟨nb7, [U64 x2.e] ++ cu8 x2.d ++ cu8 x2.t, 161, (0, 0)⟩]
   refine AN (AF (DH 29 5 [(0, Ptr nb3 2), (1, Slc gb 0 i cp), (2, .agg ([U64 x2.e] ++ cu8 x2.d ++ cu8 x2.t).toArray)] B8 rfl (by decide +kernel) ?_))
   refine FH ⟨[], [0, 1, 2], [], [0, 1, 2], [3]⟩ 3 rfl rfl (by decide +kernel) rfl ⟨⟨_, rfl, AJ rfl (AB 2 34 1 BF rfl DF rfl rfl)⟩, ⟨_, rfl, AJ rfl (AI rfl (AQ DW (AS 1 rfl (AE (AE (Seg.head))))))⟩, ⟨_, rfl, AJ rfl (AI rfl (BV D2 CJ (by simp [x2.hd, x2.ht]) (AS 3 rfl (AV _))))⟩, trivial⟩ rfl (BI rfl (BG 93 [.agg ([U64 x2.e] ++ cu8 x2.d ++ cu8 x2.t).toArray] (.agg ([U64 x2.e] ++ cu8 x2.d ++ cu8 x2.t).toArray) (A6 _ Tryd.call93 rfl) (fun w1 hw1 => doc7_c x2.e x2.d x2.t w1 x2.hd x2.ht))) ?_
   show DP _ _ _ _ _ _ _ _ [_, _, _, _]
   refine CZ ⟨[3], [0, 1, 2], [2], [0, 1], [4]⟩ 4 _ rfl rfl (by decide +kernel) rfl ⟨⟨_, rfl, AJ rfl (AB 2 34 1 BF rfl DF rfl rfl)⟩, ⟨_, rfl, AJ rfl (AI rfl (AQ DW (AS 1 rfl (AE (AE (Seg.head))))))⟩, trivial⟩ rfl (BI rfl (B3 164 49 _ [(0, .agg ([U64 x2.e] ++ cu8 x2.d ++ cu8 x2.t).toArray)] ([U64 x2.e] ++ cu8 x2.d ++ cu8 x2.t) C9 C8 Tryd.zeroValue164 rfl rfl rfl (fill_one (Z := [U64 0] ++ cu8 (zr8 32) ++ cu8 (zr8 16)) (by simp [x2.hd, x2.ht]) (by kernel_rfl) (by simp [zr8])))) ?_
   rintro v1 L1 ⟨nb8, hnb8, rfl, rfl⟩
   refine ⟨[], ?_⟩
   show DP _ _ _ _ _ _ _ _ [_, _, _, _, ⟨nb8, [U64 x2.e] ++ cu8 x2.d ++ cu8 x2.t, 164, (0, 0)⟩]
   refine CZ ⟨[3, 4], [0, 1, 2], [2], [0, 1], [5]⟩ 5 _ rfl rfl (by decide +kernel) rfl ⟨⟨_, rfl, AJ rfl (AB 2 34 1 BF rfl DF rfl rfl)⟩, ⟨_, rfl, AJ rfl (AI rfl (AQ DW (AS 1 rfl (AE (AE (Seg.head))))))⟩, trivial⟩ rfl (BI rfl (Step_appS 34 164 56 (.agg ([U64 0] ++ cu8 (zr8 32) ++ cu8 (zr8 16)).toArray) [false, false, true, false, false] (Slc gb 0 i cp) i rr x2 (some ⟨nb8, 0, none⟩) 1 (i + 1) C9 (by kernel_rfl) (by kernel_rfl) rfl (.inr ⟨gb, sp, cp, rfl, rfl, (by have h : (rr).length = i := hi4; omega), (by first | exact hi5 | omega), (by omega), (by omega)⟩) rfl (SrcAt.mem (AS 4 rfl (AV _))) (by omega) (by unfold maxLen; omega) (by omega))) ?_
   rintro v1 L1 ⟨nb9, sp2, cp2, hg2, rfl, rfl, ha5, ha6, ha7, ha8⟩
   refine ⟨[(6, Ptr nb3 2)], ?_⟩
   show DP _ _ _ _ _ _ _ _ [_, _, _, _, ⟨nb9, (rr ++ [x2]).flatMap sealC ++ sp2, 164, (0, 0)⟩]
   refine FH ⟨[3, 4, 5], [0, 1, 2, 6], [0, 1, 2], [6], [7]⟩ 7 rfl rfl (by decide +kernel) rfl ⟨⟨_, rfl, AJ rfl (AB 2 34 1 BF rfl DF rfl rfl)⟩, trivial⟩ rfl (BI rfl (FD 1 nb3 2 1 ([I64 (kd), SL ai ni ci, Slc gb 0 i cp, U64 bl]) 36 (Slc nb9 0 (i + 1) cp2) ([Slc nb9 0 (i + 1) cp2]) ([I64 (kd), SL ai ni ci, Slc nb9 0 (i + 1) cp2, U64 bl]) rfl rfl rfl rfl DF rfl (by simp [Value.oneCell']) (Nat.le_of_ble_eq_true rfl) (rfl))) ?_
   show DP _ _ _ _ _ _ _ _ [_, ⟨nb3, [I64 (kd), SL ai ni ci, Slc nb9 0 (i + 1) cp2, U64 bl], 36, (0, 0)⟩, _, _, _]
   refine DN ⟨[3, 4, 5, 7], [0, 1, 2, 6], [0, 1, 2, 6], [], []⟩ rfl rfl (by decide +kernel) rfl trivial ?_
   refine C7 (F' := [(20, Ptr nb3 2), (21, Slc gb 0 i cp), (22, .agg ([U64 x2.e] ++ cu8 x2.d ++ cu8 x2.t).toArray), (23, .agg ([U64 x2.e] ++ cu8 x2.d ++ cu8 x2.t).toArray), (24, Slc nb8 0 1 1), (25, Slc nb9 0 (i + 1) cp2), (26, Ptr nb3 2), (2, Ptr nb2 0), (3, Ptr nb3 0), (14, SL sa ns sc), (15, I64 ns), (16, I64 i), (17, .bool (decide (((i:Int)) < ((ns:Int))))), (18, Ptr bz2 (49*i + oz2)), (19, .agg ([U64 x2.e] ++ cu8 x2.d ++ cu8 x2.t).toArray), (5, Ptr nb7 0)]) (by kernel_rfl) ?_
   refine BY (AF (AD (AA (I64 ((i:Int) + 1)) (AU rfl rfl fun _ => DE _ _ ((i:Int) + 1) (by omega) (by omega)) rfl ?_)))
   refine AA _ (AL rfl) rfl ?_
   refine AN (DK (BP [true, true, false, false, true] ?_))
   show K _ _ [_, _, _] _
   refine EM (.inr (i + 1, rr ++ [x2], nb9, sp2, cp2)) ⟨by omega, by omega, (by rw [hi3]; exact F9 hx2), (ha5).trans (by first | rfl | simp +arith), (ha6).trans (by first | rfl | simp +arith), by omega, by omega⟩ (by first | (simp; omega) | simp | (dsimp only; omega) | omega) (Sub.all rfl) rfl
  ·
   have hp1 : ¬ (((i:Int)) < ((ns:Int))) := of_decide_eq_false hb1
   refine DU (A5 (A5 (CQ (AF (AK (AD (AA (.agg #[I64 (kd), SL ai ni ci, Slc gb 0 i cp, U64 bl]) (AI rfl (BV Tryd.isAgg36 CU rfl (AS 1 rfl (AV _)))) rfl ?_)))))))
   refine B1 (CW 0 nb2 4 ([I64 0, SL none 0 0, SL none 0 0, U64 0]) 36 ([I64 (kd), SL ai ni ci, Slc gb 0 i cp, U64 bl]) rfl rfl rfl CU rfl (by simp [Value.oneCell']) (Nat.le_of_ble_eq_true rfl) (DC (by simp []))) rfl ?_
   show JL _ _ _ _ _ [⟨nb2, [I64 (kd), SL ai ni ci, Slc gb 0 i cp, U64 bl], 36, (0, 0)⟩, _, _]
   refine AN (AF (BK (BP [true, false, true] ?_)))
   show JQ _ _ _ _ [_, _]
   refine BJ (.agg #[I64 (kd), SL ai ni ci, Slc gb 0 i cp, U64 bl]) (res1 Tryd.results66 (F6 rfl (BV Tryd.isAgg36 CU rfl (AS 0 rfl (AV _))))) fun w1 hw1 => ?_
   obtain rfl : i = ns := by omega
   have hr : rr = ls := by rw [hi3]; exact List.take_of_length_le (by omega)
   rw [hr] at hw1
   exact ⟨_, _, rfl, ⟨gb, sp, cp, rfl, rfl, by omega, by omega, hi7⟩, hw1.sub (by simp) (by simp)⟩
end Go.Proofs.YtkdpdgpphpngeaaDoor
namespace Go.Proofs.YtkdpdgpphpngeaaDoor
open Go Go.Sx
open Go.Value renaming slice → SL
attribute [local irreducible] mid zr8 numK rnK valK constL initL putL RightB
theorem rright13_c (kd : Int) (ai : Option Addr) (ni ci : Nat) (l : List UInt64) (sa : Option Addr) (ns sc : Nat) (ls : List SealR) (bl : UInt64)  (w : World) (hl : l.length = ni) (hnm : ni ≤ 2000000) (hnc : ni ≤ ci) (hcm : ci ≤ maxLen) (hv : RdV w ai (cu64 l)) (hls : ls.length = ns) (hnn : ns ≤ 2000000) (hnd : ns ≤ sc) (hcn : sc ≤ maxLen) (hs : RdV w sa (ls.flatMap sealC))  : Calls Tryd.prog 67 #[.agg #[I64 (kd), SL ai ni ci, SL sa ns sc, U64 bl]] w (Post w [] (fun v L => v = .bool (RightO kd l ls bl) ∧ L = [])) := by
 have hmx : maxLen = 9223372036854775807 := rfl
 refine enter (P := Tryd.prog) (f := 67) (fn := Tryd.f67) w [] 89 [] [.agg #[I64 (kd), SL ai ni ci, SL sa ns sc, U64 bl]] Tryd.func67 rfl rfl (by simp) (CC (by simp) (by simp) (by simp)) ?_
 show JC _ _ _ [(0, .agg #[I64 (kd), SL ai ni ci, SL sa ns sc, U64 bl])] _
 refine AK (AD (A9 (CL (.agg #[I64 (kd), SL ai ni ci, SL sa ns sc, U64 bl]) ([I64 (kd), SL ai ni ci, SL sa ns sc, U64 bl]) rfl (by first | rfl | simp)) rfl ?_))
 rintro v1 L1 ⟨nb1, hnb1, rfl, rfl⟩
 show JL _ _ _ _ ((1, Ptr nb1 0) :: _) [⟨nb1, [I64 (kd), SL ai ni ci, SL sa ns sc, U64 bl], 36, (0, 0)⟩]
 refine AA _ (AH rfl) rfl ?_
 refine AN (AF (AK (AK (AD (AA (Ptr nb1 0) (AB 0 3 1 BF rfl AR rfl rfl) rfl ?_)))))
 refine AA (I64 (kd)) (AI rfl (AQ AT (AS 0 rfl (Seg.head)))) rfl ?_
 refine AA (.bool (decide ((kd) = (3:Int)))) (AU rfl rfl fun _ => BO _ _) rfl ?_
 refine AN (AF (CI (decide ((kd) = (3:Int))) rfl (fun hb1 => ?_) (fun hb1 => ?_)))
 ·
  have hp1 : (kd) = (3:Int) := of_decide_eq_true hb1
  refine AK (AD (AA (Ptr nb1 1) (AB 1 23 1 BF rfl DG rfl rfl) rfl ?_))
  refine AA (SL ai ni ci) (AI rfl (AQ DL (AS 0 rfl (AE (Seg.head))))) rfl ?_
  refine AA (I64 ni) (CY BW rfl) rfl ?_
  refine AA (.bool (decide (((ni:Int)) = (0:Int)))) (AU rfl rfl fun _ => BO _ _) rfl ?_
  refine AA _ (AL rfl) rfl ?_
  rcases Bool.eq_false_or_eq_true (decide (((ni:Int)) = (0:Int))) with hb2 | hb2
  ·
   have hp2 : ((ni:Int)) = (0:Int) := of_decide_eq_true hb2
   refine AP 4 11 true _ (Ptr nb1 2) rfl rfl hb2 (AB 2 34 1 BF rfl DF rfl rfl) rfl ?_
   refine AP 4 11 true _ (SL sa ns sc) rfl rfl hb2 (AI rfl (AQ DW (AS 0 rfl (AE (AE (Seg.head)))))) rfl ?_
   refine AP 4 11 true _ (I64 ns) rfl rfl hb2 (CY C9 rfl) rfl ?_
   refine AP 4 11 true _ (.bool (decide (((ns:Int)) = (0:Int)))) rfl rfl hb2 (AU rfl rfl fun _ => BO _ _) rfl ?_
   refine AA _ (A2 _ rfl hb2 rfl) rfl ?_
   refine AA _ (AL rfl) rfl ?_
   rcases Bool.eq_false_or_eq_true (decide (((ns:Int)) = (0:Int))) with hb3 | hb3
   ·
    have hp3 : ((ns:Int)) = (0:Int) := of_decide_eq_true hb3
    refine AP 10 17 true _ (Ptr nb1 3) rfl rfl hb3 (AB 3 22 1 BF rfl AX rfl rfl) rfl ?_
    refine AP 10 17 true _ (U64 bl) rfl rfl hb3 (AI rfl (AQ AY (AS 0 rfl (AE (AE (AE (Seg.head))))))) rfl ?_
    refine AP 10 17 true _ (.bool (decide ((0:UInt64) < bl))) rfl rfl hb3 (AU rfl rfl fun _ => bin_gtr_u64 bl (0:UInt64)) rfl ?_
    refine AA _ (A2 _ rfl hb3 rfl) rfl ?_
    refine AA _ (AL rfl) rfl ?_
    rcases Bool.eq_false_or_eq_true (decide ((0:UInt64) < bl)) with hb4 | hb4
    ·
     have hp4 : (0:UInt64) < bl := of_decide_eq_true hb4
     refine AP 15 22 true _ (Ptr nb1 3) rfl rfl hb4 (AB 3 22 1 BF rfl AX rfl rfl) rfl ?_
     refine AP 15 22 true _ (U64 bl) rfl rfl hb4 (AI rfl (AQ AY (AS 0 rfl (AE (AE (AE (Seg.head))))))) rfl ?_
     refine AP 15 22 true _ (.bool (decide (bl ≤ (4294967296:UInt64)))) rfl rfl hb4 (AU rfl rfl fun _ => bin_leq_u64 bl (4294967296:UInt64)) rfl ?_
     refine AA _ (A2 _ rfl hb4 rfl) rfl ?_
     refine AA _ (AH rfl) rfl ?_
     refine AN (AF (BK (A1 (BP [false] ?_))))
     show JQ _ _ _ _ []
     refine BJ (.bool (decide (bl ≤ (4294967296:UInt64)))) (res1 EI (BH rfl)) fun w1 hw1 => ?_
     refine ⟨_, [], rfl, ⟨congrArg Value.bool ?_, rfl⟩, hw1.sub (by simp) (by simp)⟩
     unfold RightO
     rw [hl, hls]
     first | rw [if_pos (show kd = 1 by omega)] | rw [if_neg (show ¬ kd = 1 by omega), if_pos (show kd = 2 by omega)] | rw [if_neg (show ¬ kd = 1 by omega), if_neg (show ¬ kd = 2 by omega), if_pos (show kd = 3 by omega)] | rw [if_neg (show ¬ kd = 1 by omega), if_neg (show ¬ kd = 2 by omega), if_neg (show ¬ kd = 3 by omega)]
     rw [show decide ((1:UInt64) ≤ bl) = decide ((0:UInt64) < bl) from decide_eq_decide.2 (bl_pos bl).symm]
     first | rw [decide_eq_true (show ni + ns = 0 by omega), Bool.true_and] | rw [decide_eq_false (show ¬ ni + ns = 0 by omega), Bool.false_and]
     all_goals (first | rfl | (simp only [*, Bool.true_and, Bool.false_and, Bool.and_true, Bool.and_false, Bool.not_true, Bool.not_false]; done) | (simp [*]; done))
    ·
     have hp4 : ¬ ((0:UInt64) < bl) := of_decide_eq_false hb4
     refine AC 15 22 true _ rfl rfl hb4 rfl ?_
     refine AC 15 22 true _ rfl rfl hb4 rfl ?_
     refine AC 15 22 true _ rfl rfl hb4 rfl ?_
     refine AA _ (A0 _ rfl hb4 rfl) rfl ?_
     refine AA _ (AH rfl) rfl ?_
     refine AN (AF (BK (A1 (BP [false] ?_))))
     show JQ _ _ _ _ []
     refine BJ (.bool false) (res1 EI (BH rfl)) fun w1 hw1 => ?_
     refine ⟨_, [], rfl, ⟨congrArg Value.bool ?_, rfl⟩, hw1.sub (by simp) (by simp)⟩
     unfold RightO
     rw [hl, hls]
     first | rw [if_pos (show kd = 1 by omega)] | rw [if_neg (show ¬ kd = 1 by omega), if_pos (show kd = 2 by omega)] | rw [if_neg (show ¬ kd = 1 by omega), if_neg (show ¬ kd = 2 by omega), if_pos (show kd = 3 by omega)] | rw [if_neg (show ¬ kd = 1 by omega), if_neg (show ¬ kd = 2 by omega), if_neg (show ¬ kd = 3 by omega)]
     rw [show decide ((1:UInt64) ≤ bl) = decide ((0:UInt64) < bl) from decide_eq_decide.2 (bl_pos bl).symm]
     first | rw [decide_eq_true (show ni + ns = 0 by omega), Bool.true_and] | rw [decide_eq_false (show ¬ ni + ns = 0 by omega), Bool.false_and]
     all_goals (first | rfl | (simp only [*, Bool.true_and, Bool.false_and, Bool.and_true, Bool.and_false, Bool.not_true, Bool.not_false]; done) | (simp [*]; done))
   ·
    have hp3 : ¬ (((ns:Int)) = (0:Int)) := of_decide_eq_false hb3
    refine AC 10 17 true _ rfl rfl hb3 rfl ?_
    refine AC 10 17 true _ rfl rfl hb3 rfl ?_
    refine AC 10 17 true _ rfl rfl hb3 rfl ?_
    refine AA _ (A0 _ rfl hb3 rfl) rfl ?_
    refine AA _ (AL rfl) rfl ?_
    refine AC 15 22 true _ rfl rfl rfl rfl ?_
    refine AC 15 22 true _ rfl rfl rfl rfl ?_
    refine AC 15 22 true _ rfl rfl rfl rfl ?_
    refine AA _ (A0 _ rfl rfl rfl) rfl ?_
    refine AA _ (AH rfl) rfl ?_
    refine AN (AF (BK (A1 (BP [false] ?_))))
    show JQ _ _ _ _ []
    refine BJ (.bool false) (res1 EI (BH rfl)) fun w1 hw1 => ?_
    refine ⟨_, [], rfl, ⟨congrArg Value.bool ?_, rfl⟩, hw1.sub (by simp) (by simp)⟩
    unfold RightO
    rw [hl, hls]
    first | rw [if_pos (show kd = 1 by omega)] | rw [if_neg (show ¬ kd = 1 by omega), if_pos (show kd = 2 by omega)] | rw [if_neg (show ¬ kd = 1 by omega), if_neg (show ¬ kd = 2 by omega), if_pos (show kd = 3 by omega)] | rw [if_neg (show ¬ kd = 1 by omega), if_neg (show ¬ kd = 2 by omega), if_neg (show ¬ kd = 3 by omega)]
    rw [show decide ((1:UInt64) ≤ bl) = decide ((0:UInt64) < bl) from decide_eq_decide.2 (bl_pos bl).symm]
    first | rw [decide_eq_true (show ni + ns = 0 by omega), Bool.true_and] | rw [decide_eq_false (show ¬ ni + ns = 0 by omega), Bool.false_and]
    all_goals (first | rfl | (simp only [*, Bool.true_and, Bool.false_and, Bool.and_true, Bool.and_false, Bool.not_true, Bool.not_false]; done) | (simp [*]; done))
  ·
   have hp2 : ¬ (((ni:Int)) = (0:Int)) := of_decide_eq_false hb2
   refine AC 4 11 true _ rfl rfl hb2 rfl ?_
   refine AC 4 11 true _ rfl rfl hb2 rfl ?_
   refine AC 4 11 true _ rfl rfl hb2 rfl ?_
   refine AC 4 11 true _ rfl rfl hb2 rfl ?_
   refine AA _ (A0 _ rfl hb2 rfl) rfl ?_
   refine AA _ (AL rfl) rfl ?_
   refine AC 10 17 true _ rfl rfl rfl rfl ?_
   refine AC 10 17 true _ rfl rfl rfl rfl ?_
   refine AC 10 17 true _ rfl rfl rfl rfl ?_
   refine AA _ (A0 _ rfl rfl rfl) rfl ?_
   refine AA _ (AL rfl) rfl ?_
   refine AC 15 22 true _ rfl rfl rfl rfl ?_
   refine AC 15 22 true _ rfl rfl rfl rfl ?_
   refine AC 15 22 true _ rfl rfl rfl rfl ?_
   refine AA _ (A0 _ rfl rfl rfl) rfl ?_
   refine AA _ (AH rfl) rfl ?_
   refine AN (AF (BK (A1 (BP [false] ?_))))
   show JQ _ _ _ _ []
   refine BJ (.bool false) (res1 EI (BH rfl)) fun w1 hw1 => ?_
   refine ⟨_, [], rfl, ⟨congrArg Value.bool ?_, rfl⟩, hw1.sub (by simp) (by simp)⟩
   unfold RightO
   rw [hl, hls]
   first | rw [if_pos (show kd = 1 by omega)] | rw [if_neg (show ¬ kd = 1 by omega), if_pos (show kd = 2 by omega)] | rw [if_neg (show ¬ kd = 1 by omega), if_neg (show ¬ kd = 2 by omega), if_pos (show kd = 3 by omega)] | rw [if_neg (show ¬ kd = 1 by omega), if_neg (show ¬ kd = 2 by omega), if_neg (show ¬ kd = 3 by omega)]
   rw [show decide ((1:UInt64) ≤ bl) = decide ((0:UInt64) < bl) from decide_eq_decide.2 (bl_pos bl).symm]
   first | rw [decide_eq_true (show ni + ns = 0 by omega), Bool.true_and] | rw [decide_eq_false (show ¬ ni + ns = 0 by omega), Bool.false_and]
   all_goals (first | rfl | (simp only [*, Bool.true_and, Bool.false_and, Bool.and_true, Bool.and_false, Bool.not_true, Bool.not_false]; done) | (simp [*]; done))
 ·
  have hp1 : ¬ ((kd) = (3:Int)) := of_decide_eq_false hb1
  refine BE (AF (AK (AK (AD (AA (Ptr nb1 0) (AB 0 3 1 BF rfl AR rfl rfl) rfl ?_)))))
  refine AA (I64 (kd)) (AI rfl (AQ AT (AS 0 rfl (Seg.head)))) rfl ?_
  refine AA (.bool (decide ((kd) ≠ (1:Int)))) (AU rfl rfl fun _ => EO _ _) rfl ?_
  refine AA _ (AL rfl) rfl ?_
  rcases Bool.eq_false_or_eq_true (decide ((kd) ≠ (1:Int))) with hb5 | hb5
  ·
   have hp5 : (kd) ≠ (1:Int) := of_decide_eq_true hb5
   refine AP 3 30 true _ (Ptr nb1 0) rfl rfl hb5 (AB 0 3 1 BF rfl AR rfl rfl) rfl ?_
   refine AP 3 30 true _ (I64 (kd)) rfl rfl hb5 (AI rfl (AQ AT (AS 0 rfl (Seg.head)))) rfl ?_
   refine AP 3 30 true _ (.bool (decide ((kd) ≠ (2:Int)))) rfl rfl hb5 (AU rfl rfl fun _ => EO _ _) rfl ?_
   refine AA _ (A2 _ rfl hb5 rfl) rfl ?_
   refine AA _ (AL rfl) rfl ?_
   rcases Bool.eq_false_or_eq_true (decide ((kd) ≠ (2:Int))) with hb6 | hb6
   ·
    have hp6 : (kd) ≠ (2:Int) := of_decide_eq_true hb6
    refine AC 8 35 false _ rfl rfl hb6 rfl ?_
    refine AC 8 35 false _ rfl rfl hb6 rfl ?_
    refine AC 8 35 false _ rfl rfl hb6 rfl ?_
    refine AA _ (A2 _ rfl hb6 rfl) rfl ?_
    refine AA _ (AL rfl) rfl ?_
    refine AC 13 40 false _ rfl rfl rfl rfl ?_
    refine AC 13 40 false _ rfl rfl rfl rfl ?_
    refine AC 13 40 false _ rfl rfl rfl rfl ?_
    refine AC 13 40 false _ rfl rfl rfl rfl ?_
    refine AA _ (A2 _ rfl rfl rfl) rfl ?_
    refine AN (AF (CO _ rfl rfl ?_))
    refine AK (AD (AA _ (AH rfl) rfl ?_))
    refine AN (AF (BK (A1 (BP [false] ?_))))
    show JQ _ _ _ _ []
    refine BJ (.bool false) (res1 EI (BH rfl)) fun w1 hw1 => ?_
    refine ⟨_, [], rfl, ⟨congrArg Value.bool ?_, rfl⟩, hw1.sub (by simp) (by simp)⟩
    unfold RightO
    rw [hl, hls]
    first | rw [if_pos (show kd = 1 by omega)] | rw [if_neg (show ¬ kd = 1 by omega), if_pos (show kd = 2 by omega)] | rw [if_neg (show ¬ kd = 1 by omega), if_neg (show ¬ kd = 2 by omega), if_pos (show kd = 3 by omega)] | rw [if_neg (show ¬ kd = 1 by omega), if_neg (show ¬ kd = 2 by omega), if_neg (show ¬ kd = 3 by omega)]
    all_goals (first | rfl | (simp [*]; done) | (simp_all; done) | (simp_all; omega))
   ·
    have hp6 : ¬ ((kd) ≠ (2:Int)) := of_decide_eq_false hb6
    refine AP 8 35 false _ (Ptr nb1 3) rfl rfl hb6 (AB 3 22 1 BF rfl AX rfl rfl) rfl ?_
    refine AP 8 35 false _ (U64 bl) rfl rfl hb6 (AI rfl (AQ AY (AS 0 rfl (AE (AE (AE (Seg.head))))))) rfl ?_
    refine AP 8 35 false _ (.bool (decide (bl ≠ (0:UInt64)))) rfl rfl hb6 (AU rfl rfl fun _ => EQ bl (0:UInt64)) rfl ?_
    refine AA _ (A0 _ rfl hb6 rfl) rfl ?_
    refine AA _ (AL rfl) rfl ?_
    rcases Bool.eq_false_or_eq_true (decide (bl ≠ (0:UInt64))) with hb7 | hb7
    ·
     have hp7 : bl ≠ (0:UInt64) := of_decide_eq_true hb7
     refine AC 13 40 false _ rfl rfl hb7 rfl ?_
     refine AC 13 40 false _ rfl rfl hb7 rfl ?_
     refine AC 13 40 false _ rfl rfl hb7 rfl ?_
     refine AC 13 40 false _ rfl rfl hb7 rfl ?_
     refine AA _ (A2 _ rfl hb7 rfl) rfl ?_
     refine AN (AF (CO _ rfl rfl ?_))
     refine AK (AD (AA _ (AH rfl) rfl ?_))
     refine AN (AF (BK (A1 (BP [false] ?_))))
     show JQ _ _ _ _ []
     refine BJ (.bool false) (res1 EI (BH rfl)) fun w1 hw1 => ?_
     refine ⟨_, [], rfl, ⟨congrArg Value.bool ?_, rfl⟩, hw1.sub (by simp) (by simp)⟩
     unfold RightO
     rw [hl, hls]
     first | rw [if_pos (show kd = 1 by omega)] | rw [if_neg (show ¬ kd = 1 by omega), if_pos (show kd = 2 by omega)] | rw [if_neg (show ¬ kd = 1 by omega), if_neg (show ¬ kd = 2 by omega), if_pos (show kd = 3 by omega)] | rw [if_neg (show ¬ kd = 1 by omega), if_neg (show ¬ kd = 2 by omega), if_neg (show ¬ kd = 3 by omega)]
     all_goals (first | rfl | (simp [*]; done) | (simp_all; done) | (simp_all; omega))
    ·
     have hp7 : ¬ (bl ≠ (0:UInt64)) := of_decide_eq_false hb7
     refine AP 13 40 false _ (Ptr nb1 1) rfl rfl hb7 (AB 1 23 1 BF rfl DG rfl rfl) rfl ?_
     refine AP 13 40 false _ (SL ai ni ci) rfl rfl hb7 (AI rfl (AQ DL (AS 0 rfl (AE (Seg.head))))) rfl ?_
     refine ET 13 40 false _ rfl rfl hb7 (BG 79 [I64 32, SL ai ni ci] (.bool (decide (RightI l))) (A6 _ Tryd.call79 rfl) (fun w1 hw1 => rpright_c ai ni ci l w1 hl (by omega) (by omega) (by omega) (CA hw1 rfl hv))) rfl ?_
     rintro v1 L1 ⟨rfl, rfl⟩
     show JL _ _ _ _ ((43, .bool (decide (RightI l))) :: _) [_]
     refine AP 13 40 false _ (.bool (!(decide (RightI l)))) rfl rfl hb7 (EP rfl) rfl ?_
     refine AA _ (A0 _ rfl hb7 rfl) rfl ?_
     refine AN (AF (CI (!(decide (RightI l))) rfl (fun hb8 => ?_) (fun hb8 => ?_)))
     ·
      have hb9 : (decide (RightI l)) = false := by simpa using hb8
      have hp9 : ¬ (RightI l) := of_decide_eq_false hb9
      refine AK (AD (AA _ (AH rfl) rfl ?_))
      refine AN (AF (BK (A1 (BP [false] ?_))))
      show JQ _ _ _ _ []
      refine BJ (.bool false) (res1 EI (BH rfl)) fun w1 hw1 => ?_
      refine ⟨_, [], rfl, ⟨congrArg Value.bool ?_, rfl⟩, hw1.sub (by simp) (by simp)⟩
      unfold RightO
      rw [hl, hls]
      first | rw [if_pos (show kd = 1 by omega)] | rw [if_neg (show ¬ kd = 1 by omega), if_pos (show kd = 2 by omega)] | rw [if_neg (show ¬ kd = 1 by omega), if_neg (show ¬ kd = 2 by omega), if_pos (show kd = 3 by omega)] | rw [if_neg (show ¬ kd = 1 by omega), if_neg (show ¬ kd = 2 by omega), if_neg (show ¬ kd = 3 by omega)]
      all_goals (first | rfl | (simp [*]; done) | (simp_all; done) | (simp_all; omega))
     ·
      have hb10 : (decide (RightI l)) = true := by simpa using hb8
      have hp10 : RightI l := of_decide_eq_true hb10
      refine BE (AF (AK (AK (AD (AA (Ptr nb1 0) (AB 0 3 1 BF rfl AR rfl rfl) rfl ?_)))))
      refine AA (I64 (kd)) (AI rfl (AQ AT (AS 0 rfl (Seg.head)))) rfl ?_
      refine AA (.bool (decide ((kd) = (2:Int)))) (AU rfl rfl fun _ => BO _ _) rfl ?_
      refine AN (AF (CO _ rfl (decide_eq_true (by have := of_decide_eq_false hb6; omega)) ?_))
      refine AK (AD (AA (Ptr nb1 2) (AB 2 34 1 BF rfl DF rfl rfl) rfl ?_))
      refine AA (SL sa ns sc) (AI rfl (AQ DW (AS 0 rfl (AE (AE (Seg.head)))))) rfl ?_
      refine AA (I64 ns) (CY C9 rfl) rfl ?_
      refine AA (.bool (decide (((ns:Int)) = (0:Int)))) (AU rfl rfl fun _ => BO _ _) rfl ?_
      refine AA _ (AH rfl) rfl ?_
      refine AN (AF (BK (A1 (BP [false] ?_))))
      show JQ _ _ _ _ []
      refine BJ (.bool (decide (((ns:Int)) = (0:Int)))) (res1 EI (BH rfl)) fun w1 hw1 => ?_
      refine ⟨_, [], rfl, ⟨congrArg Value.bool ?_, rfl⟩, hw1.sub (by simp) (by simp)⟩
      unfold RightO
      rw [hl, hls]
      first | rw [if_pos (show kd = 1 by omega)] | rw [if_neg (show ¬ kd = 1 by omega), if_pos (show kd = 2 by omega)] | rw [if_neg (show ¬ kd = 1 by omega), if_neg (show ¬ kd = 2 by omega), if_pos (show kd = 3 by omega)] | rw [if_neg (show ¬ kd = 1 by omega), if_neg (show ¬ kd = 2 by omega), if_neg (show ¬ kd = 3 by omega)]
      all_goals (first | rfl | (simp [*]; done) | (simp_all; done) | (simp_all; omega))
  ·
   have hp5 : ¬ ((kd) ≠ (1:Int)) := of_decide_eq_false hb5
   refine AC 3 30 true _ rfl rfl hb5 rfl ?_
   refine AC 3 30 true _ rfl rfl hb5 rfl ?_
   refine AC 3 30 true _ rfl rfl hb5 rfl ?_
   refine AA _ (A0 _ rfl hb5 rfl) rfl ?_
   refine AA _ (AL rfl) rfl ?_
   refine AP 8 35 false _ (Ptr nb1 3) rfl rfl rfl (AB 3 22 1 BF rfl AX rfl rfl) rfl ?_
   refine AP 8 35 false _ (U64 bl) rfl rfl rfl (AI rfl (AQ AY (AS 0 rfl (AE (AE (AE (Seg.head))))))) rfl ?_
   refine AP 8 35 false _ (.bool (decide (bl ≠ (0:UInt64)))) rfl rfl rfl (AU rfl rfl fun _ => EQ bl (0:UInt64)) rfl ?_
   refine AA _ (A0 _ rfl rfl rfl) rfl ?_
   refine AA _ (AL rfl) rfl ?_
   rcases Bool.eq_false_or_eq_true (decide (bl ≠ (0:UInt64))) with hb11 | hb11
   ·
    have hp11 : bl ≠ (0:UInt64) := of_decide_eq_true hb11
    refine AC 13 40 false _ rfl rfl hb11 rfl ?_
    refine AC 13 40 false _ rfl rfl hb11 rfl ?_
    refine AC 13 40 false _ rfl rfl hb11 rfl ?_
    refine AC 13 40 false _ rfl rfl hb11 rfl ?_
    refine AA _ (A2 _ rfl hb11 rfl) rfl ?_
    refine AN (AF (CO _ rfl rfl ?_))
    refine AK (AD (AA _ (AH rfl) rfl ?_))
    refine AN (AF (BK (A1 (BP [false] ?_))))
    show JQ _ _ _ _ []
    refine BJ (.bool false) (res1 EI (BH rfl)) fun w1 hw1 => ?_
    refine ⟨_, [], rfl, ⟨congrArg Value.bool ?_, rfl⟩, hw1.sub (by simp) (by simp)⟩
    unfold RightO
    rw [hl, hls]
    first | rw [if_pos (show kd = 1 by omega)] | rw [if_neg (show ¬ kd = 1 by omega), if_pos (show kd = 2 by omega)] | rw [if_neg (show ¬ kd = 1 by omega), if_neg (show ¬ kd = 2 by omega), if_pos (show kd = 3 by omega)] | rw [if_neg (show ¬ kd = 1 by omega), if_neg (show ¬ kd = 2 by omega), if_neg (show ¬ kd = 3 by omega)]
    all_goals (first | rfl | (simp [*]; done) | (simp_all; done) | (simp_all; omega))
   ·
    have hp11 : ¬ (bl ≠ (0:UInt64)) := of_decide_eq_false hb11
    refine AP 13 40 false _ (Ptr nb1 1) rfl rfl hb11 (AB 1 23 1 BF rfl DG rfl rfl) rfl ?_
    refine AP 13 40 false _ (SL ai ni ci) rfl rfl hb11 (AI rfl (AQ DL (AS 0 rfl (AE (Seg.head))))) rfl ?_
    refine ET 13 40 false _ rfl rfl hb11 (BG 79 [I64 32, SL ai ni ci] (.bool (decide (RightI l))) (A6 _ Tryd.call79 rfl) (fun w1 hw1 => rpright_c ai ni ci l w1 hl (by omega) (by omega) (by omega) (CA hw1 rfl hv))) rfl ?_
    rintro v1 L1 ⟨rfl, rfl⟩
    show JL _ _ _ _ ((43, .bool (decide (RightI l))) :: _) [_]
    refine AP 13 40 false _ (.bool (!(decide (RightI l)))) rfl rfl hb11 (EP rfl) rfl ?_
    refine AA _ (A0 _ rfl hb11 rfl) rfl ?_
    refine AN (AF (CI (!(decide (RightI l))) rfl (fun hb12 => ?_) (fun hb12 => ?_)))
    ·
     have hb13 : (decide (RightI l)) = false := by simpa using hb12
     have hp13 : ¬ (RightI l) := of_decide_eq_false hb13
     refine AK (AD (AA _ (AH rfl) rfl ?_))
     refine AN (AF (BK (A1 (BP [false] ?_))))
     show JQ _ _ _ _ []
     refine BJ (.bool false) (res1 EI (BH rfl)) fun w1 hw1 => ?_
     refine ⟨_, [], rfl, ⟨congrArg Value.bool ?_, rfl⟩, hw1.sub (by simp) (by simp)⟩
     unfold RightO
     rw [hl, hls]
     first | rw [if_pos (show kd = 1 by omega)] | rw [if_neg (show ¬ kd = 1 by omega), if_pos (show kd = 2 by omega)] | rw [if_neg (show ¬ kd = 1 by omega), if_neg (show ¬ kd = 2 by omega), if_pos (show kd = 3 by omega)] | rw [if_neg (show ¬ kd = 1 by omega), if_neg (show ¬ kd = 2 by omega), if_neg (show ¬ kd = 3 by omega)]
     all_goals (first | rfl | (simp [*]; done) | (simp_all; done) | (simp_all; omega))
    ·
     have hb14 : (decide (RightI l)) = true := by simpa using hb12
     have hp14 : RightI l := of_decide_eq_true hb14
     refine BE (AF (AK (AK (AD (AA (Ptr nb1 0) (AB 0 3 1 BF rfl AR rfl rfl) rfl ?_)))))
     refine AA (I64 (kd)) (AI rfl (AQ AT (AS 0 rfl (Seg.head)))) rfl ?_
     refine AA (.bool (decide ((kd) = (2:Int)))) (AU rfl rfl fun _ => BO _ _) rfl ?_
     refine AN (AF (CI (decide ((kd) = (2:Int))) rfl (fun hb15 => ?_) (fun hb15 => ?_)))
     ·
      have hp15 : (kd) = (2:Int) := of_decide_eq_true hb15
      refine AK (AD (AA (Ptr nb1 2) (AB 2 34 1 BF rfl DF rfl rfl) rfl ?_))
      refine AA (SL sa ns sc) (AI rfl (AQ DW (AS 0 rfl (AE (AE (Seg.head)))))) rfl ?_
      refine AA (I64 ns) (CY C9 rfl) rfl ?_
      refine AA (.bool (decide (((ns:Int)) = (0:Int)))) (AU rfl rfl fun _ => BO _ _) rfl ?_
      refine AA _ (AH rfl) rfl ?_
      refine AN (AF (BK (A1 (BP [false] ?_))))
      show JQ _ _ _ _ []
      refine BJ (.bool (decide (((ns:Int)) = (0:Int)))) (res1 EI (BH rfl)) fun w1 hw1 => ?_
      refine ⟨_, [], rfl, ⟨congrArg Value.bool ?_, rfl⟩, hw1.sub (by simp) (by simp)⟩
      unfold RightO
      rw [hl, hls]
      first | rw [if_pos (show kd = 1 by omega)] | rw [if_neg (show ¬ kd = 1 by omega), if_pos (show kd = 2 by omega)] | rw [if_neg (show ¬ kd = 1 by omega), if_neg (show ¬ kd = 2 by omega), if_pos (show kd = 3 by omega)] | rw [if_neg (show ¬ kd = 1 by omega), if_neg (show ¬ kd = 2 by omega), if_neg (show ¬ kd = 3 by omega)]
      all_goals (first | rfl | (simp [*]; done) | (simp_all; done) | (simp_all; omega))
     ·
      have hp15 : ¬ ((kd) = (2:Int)) := of_decide_eq_false hb15
      refine BE (AF (AK (AK (AD (AA _ (AH rfl) rfl ?_)))))
      refine AN (AF (B2 (DV (ι := Nat) (fun i => [(1, Ptr nb1 0), (3, I64 i)]) (fun i => [⟨nb1, [I64 (kd), SL ai ni ci, SL sa ns sc, U64 bl], 36, (0, 0)⟩]) (fun i => i ≤ ns ∧ ∀ k, k < i → ∀ y, ls[k]? = some y → (fun x => oddB (headE ls) (SealR.e x)) y = false) (fun i => ns - i) 0 ⟨by omega, fun k hk => absurd hk (by omega)⟩ (Sub.all rfl) rfl ?_)))
      rintro i ⟨hi1, hi2⟩
      show JC _ _ _ [(1, Ptr nb1 0), (3, I64 i)] [⟨nb1, [I64 (kd), SL ai ni ci, SL sa ns sc, U64 bl], 36, (0, 0)⟩]
      refine AK (AK (AD (AA _ (AL rfl) rfl ?_)))
      refine AA (Ptr nb1 2) (AB 2 34 1 BF rfl DF rfl rfl) rfl ?_
      refine AA (SL sa ns sc) (AI rfl (AQ DW (AS 0 rfl (AE (AE (Seg.head)))))) rfl ?_
      refine AA (I64 ns) (CY C9 rfl) rfl ?_
      refine AA (.bool (decide (((i:Int)) < ((ns:Int))))) (AU rfl rfl fun _ => CR _ _) rfl ?_
      refine AN (AF (CI (decide (((i:Int)) < ((ns:Int)))) rfl (fun hb16 => ?_) (fun hb16 => ?_)))
      ·
       have hp16 : ((i:Int)) < ((ns:Int)) := of_decide_eq_true hb16
       refine BE (AF (AK (B2 (AK ?_))))
       obtain ⟨x1, hx1⟩ : ∃ x, ls[i]? = some x := ⟨_, List.getElem?_eq_getElem (by rw [hls]; omega)⟩
       obtain ⟨bz1, oz1, hz1, hm1⟩ := E4 FB (by decide) hs hx1
       obtain ⟨x2, hx2⟩ : ∃ x, ls[0]? = some x := ⟨_, List.getElem?_eq_getElem (by rw [hls]; omega)⟩
       obtain ⟨bz2, oz2, hz2, hm2⟩ := E4 FB (by decide) hs hx2
       rcases Bool.eq_false_or_eq_true (RightB (0:UInt64) x1.e) with hb17 | hb17
       ·
        refine DH 89 2 [(0, Ptr nb1 2), (1, SL sa ns sc), (2, I64 i), (3, Ptr bz1 (49*i + oz1)), (4, Ptr bz1 (49*i + oz1)), (5, U64 x1.e)] B8 rfl (by decide +kernel) ?_
        refine CZ ⟨[], [0, 1, 2, 3, 4, 5], [], [0, 1, 2, 3, 4, 5], [6]⟩ 6 _ rfl rfl (by decide +kernel) rfl ⟨⟨_, rfl, AJ rfl (AB 2 34 1 BF rfl DF rfl rfl)⟩, ⟨_, rfl, AJ rfl (AI rfl (AQ DW (AS 0 rfl (AE (AE (Seg.head))))))⟩, CD rfl rfl rfl, ⟨_, rfl, AJ rfl (B4 164 49 (49*i + oz1) C9 C8 rfl hz1 rfl (by omega) (by omega) (by omega))⟩, ⟨_, rfl, AJ rfl (AB 0 22 1 E7 rfl AX rfl rfl)⟩, ⟨_, rfl, AJ rfl (AI rfl (AQ AY (CK (hm1.mem (by simp)) (AG (AG (Seg.head))) (by omega))))⟩, trivial⟩ rfl (BI rfl (BG 111 [U64 0, U64 x1.e] (.bool (RightB (0:UInt64) x1.e)) (A6 _ Tryd.call111 rfl) (fun w1 hw1 => rright_c (0:UInt64) x1.e w1 ))) ?_
        rintro v1 L1 ⟨rfl, rfl⟩
        refine ⟨[(7, .bool (!(RightB (0:UInt64) x1.e))), (8, .bool (!(RightB (0:UInt64) x1.e))), (9, Ptr nb1 2), (10, SL sa ns sc), (11, I64 i), (12, Ptr bz1 (49*i + oz1)), (13, Ptr bz1 (49*i + oz1)), (14, U64 x1.e), (15, Ptr nb1 2), (16, SL sa ns sc), (17, Ptr bz2 oz2), (18, Ptr bz2 oz2), (19, U64 x2.e), (20, .bool (decide (x1.e ≠ x2.e))), (21, .bool (decide (x1.e ≠ x2.e)))], ?_⟩
        show DP _ _ _ _ _ _ _ _ [_]
        refine DN ⟨[6], [0, 1, 2, 3, 4, 5, 7, 8, 9, 10, 11, 12, 13, 14, 15, 16, 17, 18, 19, 20, 21], [0, 1, 2, 3, 4, 5], [7, 8, 9, 10, 11, 12, 13, 14, 15, 16, 17, 18, 19, 20, 21], []⟩ rfl rfl (by decide +kernel) rfl ⟨⟨_, rfl, AJ rfl (EP rfl)⟩, CD rfl rfl rfl, ⟨_, rfl, BT 8 68 false _ rfl rfl rfl (by rw [show (RightB (0:UInt64) x1.e) = true from hb17] <;> rfl) (AB 2 34 1 BF rfl DF rfl rfl)⟩, ⟨_, rfl, BT 8 68 false _ rfl rfl rfl (by rw [show (RightB (0:UInt64) x1.e) = true from hb17] <;> rfl) (AI rfl (AQ DW (AS 0 rfl (AE (AE (Seg.head))))))⟩, ⟨_, rfl, BT 8 68 false _ rfl rfl rfl (by rw [show (RightB (0:UInt64) x1.e) = true from hb17] <;> rfl) (AL rfl)⟩, ⟨_, rfl, BT 8 68 false _ rfl rfl rfl (by rw [show (RightB (0:UInt64) x1.e) = true from hb17] <;> rfl) (B4 164 49 (49*i + oz1) C9 C8 rfl hz1 rfl (by omega) (by omega) (by omega))⟩, ⟨_, rfl, BT 8 68 false _ rfl rfl rfl (by rw [show (RightB (0:UInt64) x1.e) = true from hb17] <;> rfl) (AB 0 22 1 E7 rfl AX rfl rfl)⟩, ⟨_, rfl, BT 8 68 false _ rfl rfl rfl (by rw [show (RightB (0:UInt64) x1.e) = true from hb17] <;> rfl) (AI rfl (AQ AY (CK (hm1.mem (by simp)) (AG (AG (Seg.head))) (by omega))))⟩, ⟨_, rfl, BT 8 68 false _ rfl rfl rfl (by rw [show (RightB (0:UInt64) x1.e) = true from hb17] <;> rfl) (AB 2 34 1 BF rfl DF rfl rfl)⟩, ⟨_, rfl, BT 8 68 false _ rfl rfl rfl (by rw [show (RightB (0:UInt64) x1.e) = true from hb17] <;> rfl) (AI rfl (AQ DW (AS 0 rfl (AE (AE (Seg.head))))))⟩, ⟨_, rfl, BT 8 68 false _ rfl rfl rfl (by rw [show (RightB (0:UInt64) x1.e) = true from hb17] <;> rfl) (B4 164 49 oz2 C9 C8 rfl hz2 rfl (by omega) (by omega) (by omega))⟩, ⟨_, rfl, BT 8 68 false _ rfl rfl rfl (by rw [show (RightB (0:UInt64) x1.e) = true from hb17] <;> rfl) (AB 0 22 1 E7 rfl AX rfl rfl)⟩, ⟨_, rfl, BT 8 68 false _ rfl rfl rfl (by rw [show (RightB (0:UInt64) x1.e) = true from hb17] <;> rfl) (AI rfl (AQ AY (CK (hm2.mem (by simp)) (AG (AG (Seg.head))) (by omega))))⟩, ⟨_, rfl, BT 8 68 false _ rfl rfl rfl (by rw [show (RightB (0:UInt64) x1.e) = true from hb17] <;> rfl) (AU rfl rfl fun _ => EQ x1.e x2.e)⟩, ⟨_, rfl, AJ rfl (A0 _ rfl (by rw [show (RightB (0:UInt64) x1.e) = true from hb17] <;> rfl) rfl)⟩, trivial⟩ ?_
        refine C7 (F' := [(60, Ptr nb1 2), (61, SL sa ns sc), (62, I64 i), (63, Ptr bz1 (49*i + oz1)), (64, Ptr bz1 (49*i + oz1)), (65, U64 x1.e), (66, .bool (RightB (0:UInt64) x1.e)), (67, .bool (!(RightB (0:UInt64) x1.e))), (68, .bool (!(RightB (0:UInt64) x1.e))), (69, Ptr nb1 2), (70, SL sa ns sc), (71, I64 i), (72, Ptr bz1 (49*i + oz1)), (73, Ptr bz1 (49*i + oz1)), (74, U64 x1.e), (75, Ptr nb1 2), (76, SL sa ns sc), (77, Ptr bz2 oz2), (78, Ptr bz2 oz2), (79, U64 x2.e), (80, .bool (decide (x1.e ≠ x2.e))), (81, .bool (decide (x1.e ≠ x2.e))), (1, Ptr nb1 0), (3, I64 i), (53, I64 i), (54, Ptr nb1 2), (55, SL sa ns sc), (56, I64 ns), (57, .bool (decide (((i:Int)) < ((ns:Int)))))]) (by kernel_rfl) ?_
        refine AF (CI (decide (x1.e ≠ x2.e)) rfl (fun hb18 => ?_) (fun hb18 => ?_))
        ·
         have hp18 : x1.e ≠ x2.e := of_decide_eq_true hb18
         refine AK (AD (AA _ (AH rfl) rfl ?_))
         refine AN (AF (BK (CT (A1 (A1 (CT (A1 (BP [false] ?_))))))))
         show JQ _ _ _ _ []
         refine BJ (.bool false) (res1 EI (BH rfl)) fun w1 hw1 => ?_
         refine ⟨_, [], rfl, ⟨congrArg Value.bool ?_, rfl⟩, hw1.sub (by simp) (by simp)⟩
         unfold RightO
         rw [hl, hls]
         first | rw [if_pos (show kd = 1 by omega)] | rw [if_neg (show ¬ kd = 1 by omega), if_pos (show kd = 2 by omega)] | rw [if_neg (show ¬ kd = 1 by omega), if_neg (show ¬ kd = 2 by omega), if_pos (show kd = 3 by omega)] | rw [if_neg (show ¬ kd = 1 by omega), if_neg (show ¬ kd = 2 by omega), if_neg (show ¬ kd = 3 by omega)]
         have ha : ls.any (fun x => oddB (headE ls) (SealR.e x)) = true := any_odd hx1 (by first | (simp [oddB, *]; done) | (rw [F2 hx2]; simp [oddB, *]; done))
         simp [*]
        ·
         have hp18 : ¬ (x1.e ≠ x2.e) := of_decide_eq_false hb18
         refine BE (BY (AF (AD (AA _ (AL rfl) rfl ?_))))
         refine AA (I64 ((i:Int) + 1)) (AU rfl rfl fun _ => DE _ _ ((i:Int) + 1) (by omega) (by omega)) rfl ?_
         refine AA _ (AH rfl) rfl ?_
         refine AN (DK (EM (i + 1) ⟨by omega, find_step hx1 (by show oddB (headE ls) x1.e = false; rw [F2 hx2]; simp [oddB, *]) hi2⟩ (by first | (simp; omega) | simp | (dsimp only; omega) | omega) (Sub.all rfl) rfl))
       ·
        refine DH 89 2 [(0, Ptr nb1 2), (1, SL sa ns sc), (2, I64 i), (3, Ptr bz1 (49*i + oz1)), (4, Ptr bz1 (49*i + oz1)), (5, U64 x1.e)] B8 rfl (by decide +kernel) ?_
        refine CZ ⟨[], [0, 1, 2, 3, 4, 5], [], [0, 1, 2, 3, 4, 5], [6]⟩ 6 _ rfl rfl (by decide +kernel) rfl ⟨⟨_, rfl, AJ rfl (AB 2 34 1 BF rfl DF rfl rfl)⟩, ⟨_, rfl, AJ rfl (AI rfl (AQ DW (AS 0 rfl (AE (AE (Seg.head))))))⟩, CD rfl rfl rfl, ⟨_, rfl, AJ rfl (B4 164 49 (49*i + oz1) C9 C8 rfl hz1 rfl (by omega) (by omega) (by omega))⟩, ⟨_, rfl, AJ rfl (AB 0 22 1 E7 rfl AX rfl rfl)⟩, ⟨_, rfl, AJ rfl (AI rfl (AQ AY (CK (hm1.mem (by simp)) (AG (AG (Seg.head))) (by omega))))⟩, trivial⟩ rfl (BI rfl (BG 111 [U64 0, U64 x1.e] (.bool (RightB (0:UInt64) x1.e)) (A6 _ Tryd.call111 rfl) (fun w1 hw1 => rright_c (0:UInt64) x1.e w1 ))) ?_
        rintro v1 L1 ⟨rfl, rfl⟩
        refine ⟨[(7, .bool (!(RightB (0:UInt64) x1.e))), (8, .bool (!(RightB (0:UInt64) x1.e))), (9, undef), (10, undef), (11, undef), (12, undef), (13, undef), (14, undef), (15, undef), (16, undef), (17, undef), (18, undef), (19, undef), (20, undef), (21, .bool true)], ?_⟩
        show DP _ _ _ _ _ _ _ _ [_]
        refine DN ⟨[6], [0, 1, 2, 3, 4, 5, 7, 8, 9, 10, 11, 12, 13, 14, 15, 16, 17, 18, 19, 20, 21], [0, 1, 2, 3, 4, 5], [7, 8, 9, 10, 11, 12, 13, 14, 15, 16, 17, 18, 19, 20, 21], []⟩ rfl rfl (by decide +kernel) rfl ⟨⟨_, rfl, AJ rfl (EP rfl)⟩, CD rfl rfl rfl, ⟨_, rfl, CS 8 68 false _ rfl rfl rfl (by rw [show (RightB (0:UInt64) x1.e) = false from hb17] <;> rfl)⟩, ⟨_, rfl, CS 8 68 false _ rfl rfl rfl (by rw [show (RightB (0:UInt64) x1.e) = false from hb17] <;> rfl)⟩, ⟨_, rfl, CS 8 68 false _ rfl rfl rfl (by rw [show (RightB (0:UInt64) x1.e) = false from hb17] <;> rfl)⟩, ⟨_, rfl, CS 8 68 false _ rfl rfl rfl (by rw [show (RightB (0:UInt64) x1.e) = false from hb17] <;> rfl)⟩, ⟨_, rfl, CS 8 68 false _ rfl rfl rfl (by rw [show (RightB (0:UInt64) x1.e) = false from hb17] <;> rfl)⟩, ⟨_, rfl, CS 8 68 false _ rfl rfl rfl (by rw [show (RightB (0:UInt64) x1.e) = false from hb17] <;> rfl)⟩, ⟨_, rfl, CS 8 68 false _ rfl rfl rfl (by rw [show (RightB (0:UInt64) x1.e) = false from hb17] <;> rfl)⟩, ⟨_, rfl, CS 8 68 false _ rfl rfl rfl (by rw [show (RightB (0:UInt64) x1.e) = false from hb17] <;> rfl)⟩, ⟨_, rfl, CS 8 68 false _ rfl rfl rfl (by rw [show (RightB (0:UInt64) x1.e) = false from hb17] <;> rfl)⟩, ⟨_, rfl, CS 8 68 false _ rfl rfl rfl (by rw [show (RightB (0:UInt64) x1.e) = false from hb17] <;> rfl)⟩, ⟨_, rfl, CS 8 68 false _ rfl rfl rfl (by rw [show (RightB (0:UInt64) x1.e) = false from hb17] <;> rfl)⟩, ⟨_, rfl, CS 8 68 false _ rfl rfl rfl (by rw [show (RightB (0:UInt64) x1.e) = false from hb17] <;> rfl)⟩, ⟨_, rfl, AJ rfl (A2 _ rfl (by rw [show (RightB (0:UInt64) x1.e) = false from hb17] <;> rfl) rfl)⟩, trivial⟩ ?_
        refine C7 (F' := [(60, Ptr nb1 2), (61, SL sa ns sc), (62, I64 i), (63, Ptr bz1 (49*i + oz1)), (64, Ptr bz1 (49*i + oz1)), (65, U64 x1.e), (66, .bool (RightB (0:UInt64) x1.e)), (67, .bool (!(RightB (0:UInt64) x1.e))), (68, .bool (!(RightB (0:UInt64) x1.e))), (69, undef), (70, undef), (71, undef), (72, undef), (73, undef), (74, undef), (75, undef), (76, undef), (77, undef), (78, undef), (79, undef), (80, undef), (81, .bool true), (1, Ptr nb1 0), (3, I64 i), (53, I64 i), (54, Ptr nb1 2), (55, SL sa ns sc), (56, I64 ns), (57, .bool (decide (((i:Int)) < ((ns:Int)))))]) (by kernel_rfl) ?_
        refine AF (CO _ rfl rfl ?_)
        refine AK (AD (AA _ (AH rfl) rfl ?_))
        refine AN (AF (BK (CT (A1 (A1 (CT (A1 (BP [false] ?_))))))))
        show JQ _ _ _ _ []
        refine BJ (.bool false) (res1 EI (BH rfl)) fun w1 hw1 => ?_
        refine ⟨_, [], rfl, ⟨congrArg Value.bool ?_, rfl⟩, hw1.sub (by simp) (by simp)⟩
        unfold RightO
        rw [hl, hls]
        first | rw [if_pos (show kd = 1 by omega)] | rw [if_neg (show ¬ kd = 1 by omega), if_pos (show kd = 2 by omega)] | rw [if_neg (show ¬ kd = 1 by omega), if_neg (show ¬ kd = 2 by omega), if_pos (show kd = 3 by omega)] | rw [if_neg (show ¬ kd = 1 by omega), if_neg (show ¬ kd = 2 by omega), if_neg (show ¬ kd = 3 by omega)]
        have ha : ls.any (fun x => oddB (headE ls) (SealR.e x)) = true := any_odd hx1 (by first | (simp [oddB, *]; done) | (rw [F2 hx2]; simp [oddB, *]; done))
        simp [*]
      ·
       have hp16 : ¬ (((i:Int)) < ((ns:Int))) := of_decide_eq_false hb16
       refine DU (A5 (A5 (CQ (AF (AK (AD (AA (Ptr nb1 2) (AB 2 34 1 BF rfl DF rfl rfl) rfl ?_)))))))
       refine AA (SL sa ns sc) (AI rfl (AQ DW (AS 0 rfl (AE (AE (Seg.head)))))) rfl ?_
       refine AA (I64 ns) (CY C9 rfl) rfl ?_
       refine AA (Ptr nb1 1) (AB 1 23 1 BF rfl DG rfl rfl) rfl ?_
       refine AA (SL ai ni ci) (AI rfl (AQ DL (AS 0 rfl (AE (Seg.head))))) rfl ?_
       refine AA (I64 ni) (CY BW rfl) rfl ?_
       refine AA (.bool (decide (((ns:Int)) = ((ni:Int))))) (AU rfl rfl fun _ => BO _ _) rfl ?_
       refine AA _ (AH rfl) rfl ?_
       refine AN (AF (BK (BP [false] ?_)))
       show JQ _ _ _ _ []
       refine BJ (.bool (decide (((ns:Int)) = ((ni:Int))))) (res1 EI (BH rfl)) fun w1 hw1 => ?_
       refine ⟨_, [], rfl, ⟨congrArg Value.bool ?_, rfl⟩, hw1.sub (by simp) (by simp)⟩
       unfold RightO
       rw [hl, hls]
       first | rw [if_pos (show kd = 1 by omega)] | rw [if_neg (show ¬ kd = 1 by omega), if_pos (show kd = 2 by omega)] | rw [if_neg (show ¬ kd = 1 by omega), if_neg (show ¬ kd = 2 by omega), if_pos (show kd = 3 by omega)] | rw [if_neg (show ¬ kd = 1 by omega), if_neg (show ¬ kd = 2 by omega), if_neg (show ¬ kd = 3 by omega)]
       have ha : ls.any (fun x => oddB (headE ls) (SealR.e x)) = false := any_no (by rw [hls]; intro k hk; exact hi2 k (by omega))
       rw [ha, decide_eq_true (Classical.not_not.1 ‹¬ bl ≠ 0›), decide_eq_true ‹RightI l›]
       simp only [Bool.true_and, Bool.not_false, Bool.and_true]
       exact decide_eq_decide.2 (by omega)
theorem large_c (kd : Int) (ai : Option Addr) (ni ci : Nat) (l : List UInt64) (sa : Option Addr) (ns sc : Nat) (ls : List SealR) (bl : UInt64)  (w : World) : Calls Tryd.prog 18 #[.agg #[I64 (kd), SL ai ni ci, SL sa ns sc, U64 bl]] w (Post w [] (fun v L => v = .bool (decide (LargeP ni ns)) ∧ L = [])) := by
 refine enter (P := Tryd.prog) (f := 18) (fn := Tryd.f18) w [] 25 [] [.agg #[I64 (kd), SL ai ni ci, SL sa ns sc, U64 bl]] Tryd.func18 rfl rfl (by simp) (CC (by simp) (by simp) (by simp)) ?_
 show JC _ _ _ [(0, .agg #[I64 (kd), SL ai ni ci, SL sa ns sc, U64 bl])] _
 refine AK (AD (A9 (CL (.agg #[I64 (kd), SL ai ni ci, SL sa ns sc, U64 bl]) ([I64 (kd), SL ai ni ci, SL sa ns sc, U64 bl]) rfl (by first | rfl | simp)) rfl ?_))
 rintro v1 L1 ⟨nb1, hnb1, rfl, rfl⟩
 show JL _ _ _ _ ((1, Ptr nb1 0) :: _) [⟨nb1, [I64 (kd), SL ai ni ci, SL sa ns sc, U64 bl], 26, (0, 0)⟩]
 refine AA _ (AH rfl) rfl ?_
 refine AN (AF (AK (AD (AA (Ptr nb1 1) (AB 1 23 1 BC rfl DG rfl rfl) rfl ?_))))
 refine AA (SL ai ni ci) (AI rfl (AQ DL (AS 0 rfl (AE (Seg.head))))) rfl ?_
 refine AA (I64 ni) (CY BW rfl) rfl ?_
 refine AA (.bool (decide ((300:Int) < ((ni:Int))))) (AU rfl rfl fun _ => D1 _ _) rfl ?_
 refine AA _ (AL rfl) rfl ?_
 rcases Bool.eq_false_or_eq_true (decide ((300:Int) < ((ni:Int)))) with hb1 | hb1
 ·
  have hp1 : (300:Int) < ((ni:Int)) := of_decide_eq_true hb1
  refine AC 4 7 false _ rfl rfl hb1 rfl ?_
  refine AC 4 7 false _ rfl rfl hb1 rfl ?_
  refine AC 4 7 false _ rfl rfl hb1 rfl ?_
  refine AC 4 7 false _ rfl rfl hb1 rfl ?_
  refine AA _ (A2 _ rfl hb1 rfl) rfl ?_
  refine AA _ (AL rfl) rfl ?_
  refine AC 10 13 false _ rfl rfl rfl rfl ?_
  refine AC 10 13 false _ rfl rfl rfl rfl ?_
  refine AC 10 13 false _ rfl rfl rfl rfl ?_
  refine AC 10 13 false _ rfl rfl rfl rfl ?_
  refine AC 10 13 false _ rfl rfl rfl rfl ?_
  refine BX 15 18 true rfl rfl rfl ?_
  refine BX 15 18 true rfl rfl rfl ?_
  refine BX 15 18 true rfl rfl rfl ?_
  refine BX 15 18 true rfl rfl rfl ?_
  refine AC 10 13 false _ rfl rfl rfl rfl ?_
  refine AA _ (A2 _ rfl rfl rfl) rfl ?_
  refine AA _ (AH rfl) rfl ?_
  refine AN (AF (BK (BJ (.bool true) (res1 Tryd.results18 (BH rfl)) fun w1 hw1 => ?_)))
  refine ⟨_, [], rfl, ⟨congrArg Value.bool ?_, rfl⟩, hw1.sub (by simp) (by simp)⟩
  first | exact (decide_eq_true (by unfold LargeP; omega)).symm | exact (decide_eq_false (by unfold LargeP; omega)).symm | exact decide_eq_decide.2 (by unfold LargeP; omega)
 ·
  have hp1 : ¬ ((300:Int) < ((ni:Int))) := of_decide_eq_false hb1
  refine AP 4 7 false _ (Ptr nb1 2) rfl rfl hb1 (AB 2 24 1 BC rfl EG rfl rfl) rfl ?_
  refine AP 4 7 false _ (SL sa ns sc) rfl rfl hb1 (AI rfl (AQ ES (AS 0 rfl (AE (AE (Seg.head)))))) rfl ?_
  refine AP 4 7 false _ (I64 ns) rfl rfl hb1 (CY C3 rfl) rfl ?_
  refine AP 4 7 false _ (.bool (decide ((300:Int) < ((ns:Int))))) rfl rfl hb1 (AU rfl rfl fun _ => D1 _ _) rfl ?_
  refine AA _ (A0 _ rfl hb1 rfl) rfl ?_
  refine AA _ (AL rfl) rfl ?_
  rcases Bool.eq_false_or_eq_true (decide ((300:Int) < ((ns:Int)))) with hb2 | hb2
  ·
   have hp2 : (300:Int) < ((ns:Int)) := of_decide_eq_true hb2
   refine AC 10 13 false _ rfl rfl hb2 rfl ?_
   refine AC 10 13 false _ rfl rfl hb2 rfl ?_
   refine AC 10 13 false _ rfl rfl hb2 rfl ?_
   refine AC 10 13 false _ rfl rfl hb2 rfl ?_
   refine AC 10 13 false _ rfl rfl hb2 rfl ?_
   refine BX 15 18 true rfl rfl rfl ?_
   refine BX 15 18 true rfl rfl rfl ?_
   refine BX 15 18 true rfl rfl rfl ?_
   refine BX 15 18 true rfl rfl rfl ?_
   refine AC 10 13 false _ rfl rfl hb2 rfl ?_
   refine AA _ (A2 _ rfl hb2 rfl) rfl ?_
   refine AA _ (AH rfl) rfl ?_
   refine AN (AF (BK (BJ (.bool true) (res1 Tryd.results18 (BH rfl)) fun w1 hw1 => ?_)))
   refine ⟨_, [], rfl, ⟨congrArg Value.bool ?_, rfl⟩, hw1.sub (by simp) (by simp)⟩
   first | exact (decide_eq_true (by unfold LargeP; omega)).symm | exact (decide_eq_false (by unfold LargeP; omega)).symm | exact decide_eq_decide.2 (by unfold LargeP; omega)
  ·
   have hp2 : ¬ ((300:Int) < ((ns:Int))) := of_decide_eq_false hb2
   refine AP 10 13 false _ (Ptr nb1 2) rfl rfl hb2 (AB 2 24 1 BC rfl EG rfl rfl) rfl ?_
   refine AP 10 13 false _ (SL sa ns sc) rfl rfl hb2 (AI rfl (AQ ES (AS 0 rfl (AE (AE (Seg.head)))))) rfl ?_
   refine AP 10 13 false _ (I64 ns) rfl rfl hb2 (CY C3 rfl) rfl ?_
   refine AP 10 13 false _ (.bool (decide ((20:Int) < ((ns:Int))))) rfl rfl hb2 (AU rfl rfl fun _ => D1 _ _) rfl ?_
   refine AP 10 13 false _ _ rfl rfl hb2 (AL rfl) rfl ?_
   rcases Bool.eq_false_or_eq_true (decide ((20:Int) < ((ns:Int)))) with hb3 | hb3
   ·
    have hp3 : (20:Int) < ((ns:Int)) := of_decide_eq_true hb3
    refine AP 15 18 true _ (Ptr nb1 2) rfl rfl hb3 (AB 2 24 1 BC rfl EG rfl rfl) rfl ?_
    refine AP 15 18 true _ (SL sa ns sc) rfl rfl hb3 (AI rfl (AQ ES (AS 0 rfl (AE (AE (Seg.head)))))) rfl ?_
    refine AP 15 18 true _ (I64 ns) rfl rfl hb3 (CY C3 rfl) rfl ?_
    refine AP 15 18 true _ (.bool (decide (((ns:Int)) ≤ (256:Int)))) rfl rfl hb3 (AU rfl rfl fun _ => bin_leq_i _ _) rfl ?_
    refine AP 10 13 false _ _ rfl rfl hb2 (A2 _ rfl hb3 rfl) rfl ?_
    refine AA _ (A0 _ rfl hb2 rfl) rfl ?_
    refine AA _ (AH rfl) rfl ?_
    refine AN (AF (BK (BJ (.bool (decide (((ns:Int)) ≤ (256:Int)))) (res1 Tryd.results18 (BH rfl)) fun w1 hw1 => ?_)))
    refine ⟨_, [], rfl, ⟨congrArg Value.bool ?_, rfl⟩, hw1.sub (by simp) (by simp)⟩
    first | exact (decide_eq_true (by unfold LargeP; omega)).symm | exact (decide_eq_false (by unfold LargeP; omega)).symm | exact decide_eq_decide.2 (by unfold LargeP; omega)
   ·
    have hp3 : ¬ ((20:Int) < ((ns:Int))) := of_decide_eq_false hb3
    refine AC 15 18 true _ rfl rfl hb3 rfl ?_
    refine AC 15 18 true _ rfl rfl hb3 rfl ?_
    refine AC 15 18 true _ rfl rfl hb3 rfl ?_
    refine AC 15 18 true _ rfl rfl hb3 rfl ?_
    refine AP 10 13 false _ _ rfl rfl hb2 (A0 _ rfl hb3 rfl) rfl ?_
    refine AA _ (A0 _ rfl hb2 rfl) rfl ?_
    refine AA _ (AH rfl) rfl ?_
    refine AN (AF (BK (BJ (.bool false) (res1 Tryd.results18 (BH rfl)) fun w1 hw1 => ?_)))
    refine ⟨_, [], rfl, ⟨congrArg Value.bool ?_, rfl⟩, hw1.sub (by simp) (by simp)⟩
    first | exact (decide_eq_true (by unfold LargeP; omega)).symm | exact (decide_eq_false (by unfold LargeP; omega)).symm | exact decide_eq_decide.2 (by unfold LargeP; omega)
theorem eq64_c (ai : Option Addr) (ni ci : Nat) (l : List UInt64) (ai2 : Option Addr) (ni2 ci2 : Nat) (l2 : List UInt64)  (w : World) (hl : l.length = ni) (hnm : ni ≤ 2000000) (hnc : ni ≤ ci) (hcm : ci ≤ maxLen) (hv : RdV w ai (cu64 l)) (hl2 : l2.length = ni2) (hnm2 : ni2 ≤ 2000000) (hnc2 : ni2 ≤ ci2) (hcm2 : ci2 ≤ maxLen) (hv2 : RdV w ai2 (cu64 l2))  : Calls Tryd.prog 115 #[SL ai ni ci, SL ai2 ni2 ci2] w (Post w [] (fun v L => v = .bool (decide (l = l2)) ∧ L = [])) := by
 have hmx : maxLen = 9223372036854775807 := rfl
 refine enter w [] 26 [] [SL ai ni ci, SL ai2 ni2 ci2] Tryd.func115 rfl rfl (by simp) (CC (by simp) (by simp) (by simp)) ?_
 show JC _ _ _ [(0, SL ai ni ci), (1, SL ai2 ni2 ci2)] _
 refine AK (AD (AA _ (AH rfl) rfl ?_))
 refine AN (AF (AK (AK (AD (AA _ (AL rfl) rfl ?_)))))
 refine AA (I64 ni) (CY BW rfl) rfl ?_
 refine AA _ (AL rfl) rfl ?_
 refine AA (I64 ni2) (CY BW rfl) rfl ?_
 refine AA (.bool (decide (((ni:Int)) ≠ ((ni2:Int))))) (AU rfl rfl fun _ => EO _ _) rfl ?_
 refine AN (AF (CI (decide (((ni:Int)) ≠ ((ni2:Int)))) rfl (fun hb1 => ?_) (fun hb1 => ?_)))
 ·
  have hp1 : ((ni:Int)) ≠ ((ni2:Int)) := of_decide_eq_true hb1
  refine AK (AD (AA _ (AH rfl) rfl ?_))
  refine AN (AF (BK (A1 (BJ (.bool false) (res1 Tryd.results115 (BH rfl)) fun w1 hw1 => ?_))))
  refine ⟨_, [], rfl, ⟨congrArg Value.bool ?_, rfl⟩, hw1.sub (by simp) (by simp)⟩
  refine (decide_eq_false (fun h => ?_)).symm
  first | (have := congrArg List.length h; omega) | exact GA (FZ (i := i) (by omega)) (FZ (i := i) (by omega)) (by assumption) h
 ·
  have hp1 : ¬ (((ni:Int)) ≠ ((ni2:Int))) := of_decide_eq_false hb1
  refine BE (AF (AK (AK (AD (AA _ (AL rfl) rfl ?_)))))
  refine AA (I64 ni) (CY BW rfl) rfl ?_
  refine AA _ (AL rfl) rfl ?_
  refine AN (AF (B2 (DV (ι := Nat) (fun i => [(0, SL ai ni ci), (1, SL ai2 ni2 ci2), (12, I64 ni), (13, I64 i)]) (fun i => []) (fun i => i ≤ ni ∧ ∀ k, k < i → ∀ x y, l[k]? = some x → l2[k]? = some y → x = y) (fun i => ni - i) 0 ⟨by omega, fun k hk => absurd hk (by omega)⟩ (Sub.all rfl) rfl ?_)))
  rintro i ⟨hi1, hi2⟩
  show JC _ _ _ [(0, SL ai ni ci), (1, SL ai2 ni2 ci2), (12, I64 ni), (13, I64 i)] []
  refine AK (AD (AA (.bool (decide (((i:Int)) < ((ni:Int))))) (AU rfl rfl fun _ => CR _ _) rfl ?_))
  refine AN (AF (AK (CI (decide (((i:Int)) < ((ni:Int)))) rfl (fun hb2 => ?_) (fun hb2 => ?_))))
  ·
   have hp2 : ((i:Int)) < ((ni:Int)) := of_decide_eq_true hb2
   refine BE (AF (AK (B2 (AK (AD (AA _ (AL rfl) rfl ?_))))))
   refine AA _ (AH rfl) rfl ?_
   refine AN (AF (AK ?_))
   obtain ⟨bz1, oz1, hz1, hm1⟩ := RdV.pos hv (by rw [FP, hl]; omega)
   obtain ⟨bz2, oz2, hz2, hm2⟩ := RdV.pos hv2 (by rw [FP, hl2]; omega)
   refine DH 26 1 [(0, SL ai ni ci), (1, I64 i), (2, Ptr bz1 (i + oz1)), (3, U64 (g64 l i)), (4, SL ai2 ni2 ci2), (5, I64 i), (6, Ptr bz2 (i + oz2)), (7, U64 (g64 l2 i)), (8, .bool (decide ((g64 l i) ≠ (g64 l2 i))))] B8 rfl (by decide +kernel) ?_
   refine DN ⟨[], [0, 1, 2, 3, 4, 5, 6, 7, 8], [], [0, 1, 2, 3, 4, 5, 6, 7, 8], []⟩ rfl rfl (by decide +kernel) rfl ⟨CD rfl rfl rfl, CD rfl rfl rfl, ⟨_, rfl, AJ rfl (B4 22 1 (i + oz1) BW AX rfl hz1 rfl (by omega) (by omega) (by omega))⟩, ⟨_, rfl, AJ rfl (AI rfl (AQ AY (CK (hm1.mem (by simp)) (Seg.get (g64_get (i := i) (by rw [hl]; omega))) (by omega))))⟩, CD rfl rfl rfl, CD rfl rfl rfl, ⟨_, rfl, AJ rfl (B4 22 1 (i + oz2) BW AX rfl hz2 rfl (by omega) (by omega) (by omega))⟩, ⟨_, rfl, AJ rfl (AI rfl (AQ AY (CK (hm2.mem (by simp)) (Seg.get (g64_get (i := i) (by rw [hl2]; omega))) (by omega))))⟩, ⟨_, rfl, AJ rfl (AU rfl rfl fun _ => EQ (g64 l i) (g64 l2 i))⟩, trivial⟩ ?_
   refine C7 (F' := [(16, SL ai ni ci), (17, I64 i), (18, Ptr bz1 (i + oz1)), (19, U64 (g64 l i)), (20, SL ai2 ni2 ci2), (21, I64 i), (22, Ptr bz2 (i + oz2)), (23, U64 (g64 l2 i)), (24, .bool (decide ((g64 l i) ≠ (g64 l2 i)))), (0, SL ai ni ci), (1, SL ai2 ni2 ci2), (12, I64 ni), (13, I64 i), (14, .bool (decide (((i:Int)) < ((ni:Int))))), (15, I64 i), (5, I64 i)]) (by kernel_rfl) ?_
   refine AF (CI (decide ((g64 l i) ≠ (g64 l2 i))) rfl (fun hb3 => ?_) (fun hb3 => ?_))
   ·
    have hp3 : (g64 l i) ≠ (g64 l2 i) := of_decide_eq_true hb3
    refine AK (AD (AA _ (AH rfl) rfl ?_))
    refine AN (AF (BK (CT (A1 (A1 (CT (A1 (BJ (.bool false) (res1 Tryd.results115 (BH rfl)) fun w1 hw1 => ?_))))))))
    refine ⟨_, [], rfl, ⟨congrArg Value.bool ?_, rfl⟩, hw1.sub (by simp) (by simp)⟩
    refine (decide_eq_false (fun h => ?_)).symm
    first | (have := congrArg List.length h; omega) | exact GA (FZ (i := i) (by omega)) (FZ (i := i) (by omega)) (by assumption) h
   ·
    have hp3 : ¬ ((g64 l i) ≠ (g64 l2 i)) := of_decide_eq_false hb3
    refine BE (BY (AF (AD (AA (I64 ((i:Int) + 1)) (AU rfl rfl fun _ => DE _ _ ((i:Int) + 1) (by omega) (by omega)) rfl ?_))))
    refine AA _ (AL rfl) rfl ?_
    refine AN (DK (EM (i + 1) ⟨by omega, eq_step (FZ (i := i) (by omega)) (FZ (i := i) (by omega)) (Classical.not_not.1 (by assumption)) hi2⟩ (by first | (simp; omega) | simp | (dsimp only; omega) | omega) (Sub.all rfl) rfl))
  ·
   have hp2 : ¬ (((i:Int)) < ((ni:Int))) := of_decide_eq_false hb2
   refine DU (A5 (A5 (CQ (AF (AK (AD (AA _ (AH rfl) rfl ?_)))))))
   refine AN (AF (BK (BJ (.bool true) (res1 Tryd.results115 (BH rfl)) fun w1 hw1 => ?_)))
   refine ⟨_, [], rfl, ⟨congrArg Value.bool ?_, rfl⟩, hw1.sub (by simp) (by simp)⟩
   exact (decide_eq_true (list_eq (by omega) (by rw [hl]; intro k hk; exact hi2 k (by omega)))).symm
theorem eqS_c (sa : Option Addr) (ns sc : Nat) (ls : List SealR) (sa2 : Option Addr) (ns2 sc2 : Nat) (ls2 : List SealR)  (w : World) (hls : ls.length = ns) (hnn : ns ≤ 2000000) (hnd : ns ≤ sc) (hcn : sc ≤ maxLen) (hs : RdV w sa (ls.flatMap sealC)) (hls2 : ls2.length = ns2) (hnn2 : ns2 ≤ 2000000) (hnd2 : ns2 ≤ sc2) (hcn2 : sc2 ≤ maxLen) (hs2 : RdV w sa2 (ls2.flatMap sealC))  : Calls Tryd.prog 116 #[SL sa ns sc, SL sa2 ns2 sc2] w (Post w [] (fun v L => v = .bool (decide (ls = ls2)) ∧ L = [])) := by
 have hmx : maxLen = 9223372036854775807 := rfl
 refine enter w [] 26 [] [SL sa ns sc, SL sa2 ns2 sc2] Tryd.func116 rfl rfl (by simp) (CC (by simp) (by simp) (by simp)) ?_
 show JC _ _ _ [(0, SL sa ns sc), (1, SL sa2 ns2 sc2)] _
 refine AK (AD (AA _ (AH rfl) rfl ?_))
 refine AN (AF (AK (AK (AD (AA _ (AL rfl) rfl ?_)))))
 refine AA (I64 ns) (CY C3 rfl) rfl ?_
 refine AA _ (AL rfl) rfl ?_
 refine AA (I64 ns2) (CY C3 rfl) rfl ?_
 refine AA (.bool (decide (((ns:Int)) ≠ ((ns2:Int))))) (AU rfl rfl fun _ => EO _ _) rfl ?_
 refine AN (AF (CI (decide (((ns:Int)) ≠ ((ns2:Int)))) rfl (fun hb1 => ?_) (fun hb1 => ?_)))
 ·
  have hp1 : ((ns:Int)) ≠ ((ns2:Int)) := of_decide_eq_true hb1
  refine AK (AD (AA _ (AH rfl) rfl ?_))
  refine AN (AF (BK (A1 (BJ (.bool false) (res1 Tryd.results116 (BH rfl)) fun w1 hw1 => ?_))))
  refine ⟨_, [], rfl, ⟨congrArg Value.bool ?_, rfl⟩, hw1.sub (by simp) (by simp)⟩
  refine (decide_eq_false (fun h => ?_)).symm
  first | (have := congrArg List.length h; omega) | exact absurd h h
 ·
  have hp1 : ¬ (((ns:Int)) ≠ ((ns2:Int))) := of_decide_eq_false hb1
  refine BE (AF (AK (AK (AD (AA _ (AL rfl) rfl ?_)))))
  refine AA (I64 ns) (CY C3 rfl) rfl ?_
  refine AA _ (AL rfl) rfl ?_
  refine AN (AF (B2 (DV (ι := Nat) (fun i => [(0, SL sa ns sc), (1, SL sa2 ns2 sc2), (12, I64 ns), (13, I64 i)]) (fun i => []) (fun i => i ≤ ns ∧ ∀ k, k < i → ∀ x y, ls[k]? = some x → ls2[k]? = some y → x = y) (fun i => ns - i) 0 ⟨by omega, fun k hk => absurd hk (by omega)⟩ (Sub.all rfl) rfl ?_)))
  rintro i ⟨hi1, hi2⟩
  show JC _ _ _ [(0, SL sa ns sc), (1, SL sa2 ns2 sc2), (12, I64 ns), (13, I64 i)] []
  refine AK (AD (AA (.bool (decide (((i:Int)) < ((ns:Int))))) (AU rfl rfl fun _ => CR _ _) rfl ?_))
  refine AN (AF (AK (CI (decide (((i:Int)) < ((ns:Int)))) rfl (fun hb2 => ?_) (fun hb2 => ?_))))
  ·
   have hp2 : ((i:Int)) < ((ns:Int)) := of_decide_eq_true hb2
   refine BE (AF (AK (B2 (AK (AD (AA _ (AL rfl) rfl ?_))))))
   refine AA _ (AH rfl) rfl ?_
   refine AN (AF (AK ?_))
   obtain ⟨x1, hx1⟩ : ∃ x, ls[i]? = some x := ⟨_, List.getElem?_eq_getElem (by rw [hls]; omega)⟩
   obtain ⟨bz1, oz1, hz1, hm1⟩ := E4 FB (by decide) hs hx1
   obtain ⟨x2, hx2⟩ : ∃ x, ls2[i]? = some x := ⟨_, List.getElem?_eq_getElem (by rw [hls2]; omega)⟩
   obtain ⟨bz2, oz2, hz2, hm2⟩ := E4 FB (by decide) hs2 hx2
   refine DH 26 1 [(0, SL sa ns sc), (1, I64 i), (2, Ptr bz1 (49*i + oz1)), (3, .agg ([U64 x1.e] ++ cu8 x1.d ++ cu8 x1.t).toArray), (4, SL sa2 ns2 sc2), (5, I64 i), (6, Ptr bz2 (49*i + oz2)), (7, .agg ([U64 x2.e] ++ cu8 x2.d ++ cu8 x2.t).toArray), (8, .bool (!(decide (x1.e = x2.e ∧ x1.d = x2.d ∧ x1.t = x2.t))))] B8 rfl (by decide +kernel) ?_
   refine DN ⟨[], [0, 1, 2, 3, 4, 5, 6, 7, 8], [], [0, 1, 2, 3, 4, 5, 6, 7, 8], []⟩ rfl rfl (by decide +kernel) rfl ⟨CD rfl rfl rfl, CD rfl rfl rfl, ⟨_, rfl, AJ rfl (B4 161 49 (49*i + oz1) C3 CJ rfl hz1 rfl (by omega) (by omega) (by omega))⟩, ⟨_, rfl, AJ rfl (AI rfl (BV D2 CJ (by simp [x1.hd, x1.ht]) (CK (hm1.mem (by simp)) (AV _) (by omega))))⟩, CD rfl rfl rfl, CD rfl rfl rfl, ⟨_, rfl, AJ rfl (B4 161 49 (49*i + oz2) C3 CJ rfl hz2 rfl (by omega) (by omega) (by omega))⟩, ⟨_, rfl, AJ rfl (AI rfl (BV D2 CJ (by simp [x2.hd, x2.ht]) (CK (hm2.mem (by simp)) (AV _) (by omega))))⟩, ⟨_, rfl, AJ rfl (E3 _ _ _ rfl rfl (fun _ => FF _ _ _ _ _ _ (by kernel_rfl)) (neq_struct (x1.e = x2.e ∧ x1.d = x2.d ∧ x1.t = x2.t) (F8 (d := 9999) (by kernel_rfl) (by kernel_rfl) (by kernel_rfl) (EqRs.cons 22 0 (U64 x1.e) (U64 x2.e) _ _ _ (PartV.one AY (AG (AG (Seg.head)))) (PartV.one AY (AG (AG (Seg.head)))) (EqV.u64 (d := 9998) A3 x1.e x2.e) (EqRs.cons 159 1 (.agg (cu8 x1.d).toArray) (.agg (cu8 x2.d).toArray) _ _ _ (PartV.agg E8 ED (E9 (AG (Seg.right 1 0 rfl rfl (AV _))) (D7 x1.hd) (by omega))) (PartV.agg E8 ED (E9 (AG (Seg.right 1 0 rfl rfl (AV _))) (D7 x2.hd) (by omega))) (EqV.arr8 (d := 9997) D0 BA EC EN FC (by simp [x1.hd]) (by simp [x2.hd])) (EqRs.last 27 33 (.agg (cu8 x1.t).toArray) (.agg (cu8 x2.t).toArray) _ (PartV.agg DY CN (E9 (Seg.right 33 0 (by simp [x1.hd]) rfl (AV _)) (D7 x1.ht) (by omega))) (PartV.agg DY CN (E9 (Seg.right 33 0 (by simp [x2.hd]) rfl (AV _)) (D7 x2.ht) (by omega))) (EqV.arr8 (d := 9997) C5 BA EC EN FC (by simp [x1.ht]) (by simp [x2.ht])))))) (by first | rfl | (simp only [Bool.decide_and, Bool.and_assoc]; done) | (simp [Bool.and_assoc]; done))))⟩, trivial⟩ ?_
   refine C7 (F' := [(16, SL sa ns sc), (17, I64 i), (18, Ptr bz1 (49*i + oz1)), (19, .agg ([U64 x1.e] ++ cu8 x1.d ++ cu8 x1.t).toArray), (20, SL sa2 ns2 sc2), (21, I64 i), (22, Ptr bz2 (49*i + oz2)), (23, .agg ([U64 x2.e] ++ cu8 x2.d ++ cu8 x2.t).toArray), (24, .bool (!(decide (x1.e = x2.e ∧ x1.d = x2.d ∧ x1.t = x2.t)))), (0, SL sa ns sc), (1, SL sa2 ns2 sc2), (12, I64 ns), (13, I64 i), (14, .bool (decide (((i:Int)) < ((ns:Int))))), (15, I64 i), (5, I64 i)]) (by kernel_rfl) ?_
   refine AF (CI (!(decide (x1.e = x2.e ∧ x1.d = x2.d ∧ x1.t = x2.t))) rfl (fun hb3 => ?_) (fun hb3 => ?_))
   ·
    have hb4 : (decide (x1.e = x2.e ∧ x1.d = x2.d ∧ x1.t = x2.t)) = false := by first | simpa using hb3 | exact Eq.mp (Bool.not_eq_true' _) hb3
    have hp4 : ¬ (x1.e = x2.e ∧ x1.d = x2.d ∧ x1.t = x2.t) := of_decide_eq_false hb4
    refine AK (AD (AA _ (AH rfl) rfl ?_))
    refine AN (AF (BK (CT (A1 (A1 (CT (A1 (BJ (.bool false) (res1 Tryd.results116 (BH rfl)) fun w1 hw1 => ?_))))))))
    refine ⟨_, [], rfl, ⟨congrArg Value.bool ?_, rfl⟩, hw1.sub (by simp) (by simp)⟩
    refine (decide_eq_false (fun h => ?_)).symm
    first | (have := congrArg List.length h; omega) | exact GA hx1 hx2 (fun e => (by assumption : ¬ _) ((SealR.eq_iff _ _).1 e)) h
   ·
    have hb5 : (decide (x1.e = x2.e ∧ x1.d = x2.d ∧ x1.t = x2.t)) = true := by first | simpa using hb3 | exact Eq.mp (Bool.not_eq_false' _) hb3
    have hp5 : x1.e = x2.e ∧ x1.d = x2.d ∧ x1.t = x2.t := of_decide_eq_true hb5
    refine BE (BY (AF (AD (AA (I64 ((i:Int) + 1)) (AU rfl rfl fun _ => DE _ _ ((i:Int) + 1) (by omega) (by omega)) rfl ?_))))
    refine AA _ (AL rfl) rfl ?_
    refine AN (DK (EM (i + 1) ⟨by omega, eq_step hx1 hx2 ((SealR.eq_iff _ _).2 (by first | assumption | exact Classical.not_not.1 (by assumption))) hi2⟩ (by first | (simp; omega) | simp | (dsimp only; omega) | omega) (Sub.all rfl) rfl))
  ·
   have hp2 : ¬ (((i:Int)) < ((ns:Int))) := of_decide_eq_false hb2
   refine DU (A5 (A5 (CQ (AF (AK (AD (AA _ (AH rfl) rfl ?_)))))))
   refine AN (AF (BK (BJ (.bool true) (res1 Tryd.results116 (BH rfl)) fun w1 hw1 => ?_)))
   refine ⟨_, [], rfl, ⟨congrArg Value.bool ?_, rfl⟩, hw1.sub (by simp) (by simp)⟩
   exact (decide_eq_true (list_eq (by omega) (by rw [hls]; intro k hk; exact hi2 k (by omega)))).symm
theorem same13_c (pv ep : UInt64) (kd : Int) (ai : Option Addr) (ni ci : Nat) (l : List UInt64) (sa : Option Addr) (ns sc : Nat) (ls : List SealR) (bl : UInt64) (tg : List UInt8) (pv2 ep2 : UInt64) (kd2 : Int) (ai2 : Option Addr) (ni2 ci2 : Nat) (l2 : List UInt64) (sa2 : Option Addr) (ns2 sc2 : Nat) (ls2 : List SealR) (bl2 : UInt64) (tg2 : List UInt8)  (w : World) (hl : l.length = ni) (hnm : ni ≤ 2000000) (hnc : ni ≤ ci) (hcm : ci ≤ maxLen) (hv : RdV w ai (cu64 l)) (hls : ls.length = ns) (hnn : ns ≤ 2000000) (hnd : ns ≤ sc) (hcn : sc ≤ maxLen) (hs : RdV w sa (ls.flatMap sealC)) (htg : tg.length = 16) (hl2 : l2.length = ni2) (hnm2 : ni2 ≤ 2000000) (hnc2 : ni2 ≤ ci2) (hcm2 : ci2 ≤ maxLen) (hv2 : RdV w ai2 (cu64 l2)) (hls2 : ls2.length = ns2) (hnn2 : ns2 ≤ 2000000) (hnd2 : ns2 ≤ sc2) (hcn2 : sc2 ≤ maxLen) (hs2 : RdV w sa2 (ls2.flatMap sealC)) (htg2 : tg2.length = 16)  : Calls Tryd.prog 49 #[.agg ([U64 pv, U64 ep, I64 (kd), SL ai ni ci, SL sa ns sc, U64 bl] ++ cu8 tg).toArray, .agg ([U64 pv2, U64 ep2, I64 (kd2), SL ai2 ni2 ci2, SL sa2 ns2 sc2, U64 bl2] ++ cu8 tg2).toArray] w (Post w [] (fun v L => v = .bool (decide (pv = pv2 ∧ ep = ep2 ∧ tg = tg2 ∧ kd = kd2 ∧ bl = bl2 ∧ l = l2 ∧ ls = ls2)) ∧ L = [])) := by
 have hmx : maxLen = 9223372036854775807 := rfl
 refine enter (P := Tryd.prog) (f := 49) (fn := Tryd.f49) w [] 58 [] [.agg ([U64 pv, U64 ep, I64 (kd), SL ai ni ci, SL sa ns sc, U64 bl] ++ cu8 tg).toArray, .agg ([U64 pv2, U64 ep2, I64 (kd2), SL ai2 ni2 ci2, SL sa2 ns2 sc2, U64 bl2] ++ cu8 tg2).toArray] Tryd.func49 rfl rfl (by simp) (CC (by simp) (by simp) (by simp)) ?_
 show JC _ _ _ [(0, .agg ([U64 pv, U64 ep, I64 (kd), SL ai ni ci, SL sa ns sc, U64 bl] ++ cu8 tg).toArray), (1, .agg ([U64 pv2, U64 ep2, I64 (kd2), SL ai2 ni2 ci2, SL sa2 ns2 sc2, U64 bl2] ++ cu8 tg2).toArray)] _
 refine AK (AD (A9 (CL (.agg ([U64 pv, U64 ep, I64 (kd), SL ai ni ci, SL sa ns sc, U64 bl] ++ cu8 tg).toArray) ([U64 pv, U64 ep, I64 (kd), SL ai ni ci, SL sa ns sc, U64 bl] ++ cu8 tg) rfl (by first | rfl | simp)) rfl ?_))
 rintro v1 L1 ⟨nb1, hnb1, rfl, rfl⟩
 show JL _ _ _ _ ((2, Ptr nb1 0) :: _) [⟨nb1, [U64 pv, U64 ep, I64 (kd), SL ai ni ci, SL sa ns sc, U64 bl] ++ cu8 tg, 29, (0, 0)⟩]
 refine A9 (CL (.agg ([U64 pv2, U64 ep2, I64 (kd2), SL ai2 ni2 ci2, SL sa2 ns2 sc2, U64 bl2] ++ cu8 tg2).toArray) ([U64 pv2, U64 ep2, I64 (kd2), SL ai2 ni2 ci2, SL sa2 ns2 sc2, U64 bl2] ++ cu8 tg2) rfl (by first | rfl | simp)) rfl ?_
 rintro v1 L1 ⟨nb2, hnb2, rfl, rfl⟩
 show JL _ _ _ _ ((3, Ptr nb2 0) :: _) [_, ⟨nb2, [U64 pv2, U64 ep2, I64 (kd2), SL ai2 ni2 ci2, SL sa2 ns2 sc2, U64 bl2] ++ cu8 tg2, 29, (0, 0)⟩]
 refine AA _ (AH rfl) rfl ?_
 refine AN (AF (AK (DH 58 5 [(0, Ptr nb1 2), (1, .agg #[I64 (kd), SL ai ni ci, SL sa ns sc, U64 bl]), (2, Ptr nb2 2), (3, .agg #[I64 (kd2), SL ai2 ni2 ci2, SL sa2 ns2 sc2, U64 bl2])] B8 rfl (by decide +kernel) ?_)))
 refine DP_two ⟨[], [0, 1, 2, 3], [], [0, 1, 2, 3], [4, 5]⟩ 4 5 _ _ rfl rfl (by decide +kernel) rfl ⟨⟨_, rfl, AJ rfl (AB 2 26 4 A7 rfl B7 rfl rfl)⟩, ⟨_, rfl, AJ rfl (AI rfl (BV D9 B7 rfl (AS 0 rfl (C6 (p := [U64 pv, U64 ep]) (q := cu8 tg) (vs := [I64 (kd), SL ai ni ci, SL sa ns sc, U64 bl]) (by first | rfl | (simp only [List.append_assoc, List.nil_append, List.append_nil, List.cons_append]; done)) rfl))))⟩, ⟨_, rfl, AJ rfl (AB 2 26 4 A7 rfl B7 rfl rfl)⟩, ⟨_, rfl, AJ rfl (AI rfl (BV D9 B7 rfl (AS 1 rfl (C6 (p := [U64 pv2, U64 ep2]) (q := cu8 tg2) (vs := [I64 (kd2), SL ai2 ni2 ci2, SL sa2 ns2 sc2, U64 bl2]) (by first | rfl | (simp only [List.append_assoc, List.nil_append, List.append_nil, List.cons_append]; done)) rfl))))⟩, trivial⟩ rfl rfl (BI rfl (DI _ ([I64 0, SL none 0 0, SL none 0 0, U64 0]) Tryd.zeroValue26 (by kernel_rfl))) (BI rfl (DI _ ([I64 0, SL none 0 0, SL none 0 0, U64 0]) Tryd.zeroValue26 (by kernel_rfl))) ?_ ?_
 ·
  rintro v1 L1 ⟨nb3, hnb3, rfl, rfl⟩
  refine ⟨[], ?_⟩
  show DP _ _ _ _ _ _ _ _ [_, _, ⟨nb3, [I64 0, SL none 0 0, SL none 0 0, U64 0], 26, (0, 0)⟩]
  refine CZ ⟨[4], [0, 1, 2, 3], [], [0, 1, 2, 3], [5]⟩ 5 _ rfl rfl (by decide +kernel) rfl ⟨⟨_, rfl, AJ rfl (AB 2 26 4 A7 rfl B7 rfl rfl)⟩, ⟨_, rfl, AJ rfl (AI rfl (BV D9 B7 rfl (AS 0 rfl (C6 (p := [U64 pv, U64 ep]) (q := cu8 tg) (vs := [I64 (kd), SL ai ni ci, SL sa ns sc, U64 bl]) (by first | rfl | (simp only [List.append_assoc, List.nil_append, List.append_nil, List.cons_append]; done)) rfl))))⟩, ⟨_, rfl, AJ rfl (AB 2 26 4 A7 rfl B7 rfl rfl)⟩, ⟨_, rfl, AJ rfl (AI rfl (BV D9 B7 rfl (AS 1 rfl (C6 (p := [U64 pv2, U64 ep2]) (q := cu8 tg2) (vs := [I64 (kd2), SL ai2 ni2 ci2, SL sa2 ns2 sc2, U64 bl2]) (by first | rfl | (simp only [List.append_assoc, List.nil_append, List.append_nil, List.cons_append]; done)) rfl))))⟩, trivial⟩ rfl (BI rfl (DI _ ([I64 0, SL none 0 0, SL none 0 0, U64 0]) Tryd.zeroValue26 (by kernel_rfl))) ?_
  rintro v1 L1 ⟨nb5, hnb5, rfl, rfl⟩
  refine ⟨[], ?_⟩
  show DP _ _ _ _ _ _ _ _ [_, _, _, ⟨nb5, [I64 0, SL none 0 0, SL none 0 0, U64 0], 26, (0, 0)⟩]
  refine FH ⟨[4, 5], [0, 1, 2, 3], [], [0, 1, 2, 3], [6]⟩ 6 rfl rfl (by decide +kernel) rfl ⟨⟨_, rfl, AJ rfl (AB 2 26 4 A7 rfl B7 rfl rfl)⟩, ⟨_, rfl, AJ rfl (AI rfl (BV D9 B7 rfl (AS 0 rfl (C6 (p := [U64 pv, U64 ep]) (q := cu8 tg) (vs := [I64 (kd), SL ai ni ci, SL sa ns sc, U64 bl]) (by first | rfl | (simp only [List.append_assoc, List.nil_append, List.append_nil, List.cons_append]; done)) rfl))))⟩, ⟨_, rfl, AJ rfl (AB 2 26 4 A7 rfl B7 rfl rfl)⟩, ⟨_, rfl, AJ rfl (AI rfl (BV D9 B7 rfl (AS 1 rfl (C6 (p := [U64 pv2, U64 ep2]) (q := cu8 tg2) (vs := [I64 (kd2), SL ai2 ni2 ci2, SL sa2 ns2 sc2, U64 bl2]) (by first | rfl | (simp only [List.append_assoc, List.nil_append, List.append_nil, List.cons_append]; done)) rfl))))⟩, trivial⟩ rfl (BI rfl (CW 2 nb3 4 ([I64 0, SL none 0 0, SL none 0 0, U64 0]) 26 ([I64 (kd), SL ai ni ci, SL sa ns sc, U64 bl]) rfl rfl rfl B7 rfl (by simp [Value.oneCell']) (Nat.le_of_ble_eq_true rfl) (DC (by simp [])))) ?_
  show DP _ _ _ _ _ _ _ _ [_, _, ⟨nb3, [I64 (kd), SL ai ni ci, SL sa ns sc, U64 bl], 26, (0, 0)⟩, _]
  refine FH ⟨[4, 5, 6], [0, 1, 2, 3], [0, 1], [2, 3], [7]⟩ 7 rfl rfl (by decide +kernel) rfl ⟨⟨_, rfl, AJ rfl (AB 2 26 4 A7 rfl B7 rfl rfl)⟩, ⟨_, rfl, AJ rfl (AI rfl (BV D9 B7 rfl (AS 1 rfl (C6 (p := [U64 pv2, U64 ep2]) (q := cu8 tg2) (vs := [I64 (kd2), SL ai2 ni2 ci2, SL sa2 ns2 sc2, U64 bl2]) (by first | rfl | (simp only [List.append_assoc, List.nil_append, List.append_nil, List.cons_append]; done)) rfl))))⟩, trivial⟩ rfl (BI rfl (CW 3 nb5 4 ([I64 0, SL none 0 0, SL none 0 0, U64 0]) 26 ([I64 (kd2), SL ai2 ni2 ci2, SL sa2 ns2 sc2, U64 bl2]) rfl rfl rfl B7 rfl (by simp [Value.oneCell']) (Nat.le_of_ble_eq_true rfl) (DC (by simp [])))) ?_
  show DP _ _ _ _ _ _ _ _ [_, _, _, ⟨nb5, [I64 (kd2), SL ai2 ni2 ci2, SL sa2 ns2 sc2, U64 bl2], 26, (0, 0)⟩]
  refine DN ⟨[4, 5, 6, 7], [0, 1, 2, 3], [0, 1, 2, 3], [], []⟩ rfl rfl (by decide +kernel) rfl trivial ?_
  refine C7 (F' := [(5, Ptr nb3 0), (6, Ptr nb5 0), (2, Ptr nb1 0), (3, Ptr nb2 0), (4, .bool false)]) (by kernel_rfl) ?_
  refine AF (AK (AD (AA (Ptr nb1 0) (AB 0 22 1 A7 rfl AX rfl rfl) rfl ?_)))
  refine AA (U64 pv) (AI rfl (AQ AY (AS 0 rfl (AG (Seg.head))))) rfl ?_
  refine AA (Ptr nb2 0) (AB 0 22 1 A7 rfl AX rfl rfl) rfl ?_
  refine AA (U64 pv2) (AI rfl (AQ AY (AS 1 rfl (AG (Seg.head))))) rfl ?_
  refine AA (.bool (decide (pv = pv2))) (AU rfl rfl fun _ => FU pv pv2) rfl ?_
  refine AA _ (AL rfl) rfl ?_
  rcases Bool.eq_false_or_eq_true (decide (pv = pv2)) with hb1 | hb1
  ·
   have hp1 : pv = pv2 := of_decide_eq_true hb1
   refine AP 5 16 true _ (Ptr nb1 1) rfl rfl hb1 (AB 1 22 1 A7 rfl AX rfl rfl) rfl ?_
   refine AP 5 16 true _ (U64 ep) rfl rfl hb1 (AI rfl (AQ AY (AS 0 rfl (AG (AE (Seg.head)))))) rfl ?_
   refine AP 5 16 true _ (Ptr nb2 1) rfl rfl hb1 (AB 1 22 1 A7 rfl AX rfl rfl) rfl ?_
   refine AP 5 16 true _ (U64 ep2) rfl rfl hb1 (AI rfl (AQ AY (AS 1 rfl (AG (AE (Seg.head)))))) rfl ?_
   refine AP 5 16 true _ (.bool (decide (ep = ep2))) rfl rfl hb1 (AU rfl rfl fun _ => FU ep ep2) rfl ?_
   refine AA _ (A2 _ rfl hb1 rfl) rfl ?_
   refine AA _ (AL rfl) rfl ?_
   rcases Bool.eq_false_or_eq_true (decide (ep = ep2)) with hb2 | hb2
   ·
    have hp2 : ep = ep2 := of_decide_eq_true hb2
    refine AP 12 23 true _ (Ptr nb1 6) rfl rfl hb2 (AB 6 27 16 A7 rfl CN rfl rfl) rfl ?_
    refine AP 12 23 true _ (.agg (cu8 tg).toArray) rfl rfl hb2 (AI rfl (BV DY CN (D7 htg) (AS 0 rfl (Seg.right 6 0 rfl rfl (AV _))))) rfl ?_
    refine AP 12 23 true _ (Ptr nb2 6) rfl rfl hb2 (AB 6 27 16 A7 rfl CN rfl rfl) rfl ?_
    refine AP 12 23 true _ (.agg (cu8 tg2).toArray) rfl rfl hb2 (AI rfl (BV DY CN (D7 htg2) (AS 1 rfl (Seg.right 6 0 rfl rfl (AV _))))) rfl ?_
    refine AP 12 23 true _ (.bool (decide (tg = tg2))) rfl rfl hb2 (E3 _ _ _ rfl rfl (fun _ => FF _ _ _ _ _ _ (by kernel_rfl)) fun _ => eql_arr8 C5 BA EC EN FC (by simp [htg]) (by simp [htg2])) rfl ?_
    refine AA _ (A2 _ rfl hb2 rfl) rfl ?_
    refine AA _ (AL rfl) rfl ?_
    rcases Bool.eq_false_or_eq_true (decide (tg = tg2)) with hb3 | hb3
    ·
     have hp3 : tg = tg2 := of_decide_eq_true hb3
     refine AP 19 30 true _ (Ptr nb3 0) rfl rfl hb3 (AB 0 3 1 BC rfl AR rfl rfl) rfl ?_
     refine AP 19 30 true _ (I64 (kd)) rfl rfl hb3 (AI rfl (AQ AT (AS 2 rfl (Seg.head)))) rfl ?_
     refine AP 19 30 true _ (Ptr nb5 0) rfl rfl hb3 (AB 0 3 1 BC rfl AR rfl rfl) rfl ?_
     refine AP 19 30 true _ (I64 (kd2)) rfl rfl hb3 (AI rfl (AQ AT (AS 3 rfl (Seg.head)))) rfl ?_
     refine AP 19 30 true _ (.bool (decide ((kd) = (kd2)))) rfl rfl hb3 (AU rfl rfl fun _ => BO _ _) rfl ?_
     refine AA _ (A2 _ rfl hb3 rfl) rfl ?_
     refine AA _ (AL rfl) rfl ?_
     rcases Bool.eq_false_or_eq_true (decide ((kd) = (kd2))) with hb4 | hb4
     ·
      have hp4 : (kd) = (kd2) := of_decide_eq_true hb4
      refine AP 26 37 true _ (Ptr nb3 3) rfl rfl hb4 (AB 3 22 1 BC rfl AX rfl rfl) rfl ?_
      refine AP 26 37 true _ (U64 bl) rfl rfl hb4 (AI rfl (AQ AY (AS 2 rfl (AE (AE (AE (Seg.head))))))) rfl ?_
      refine AP 26 37 true _ (Ptr nb5 3) rfl rfl hb4 (AB 3 22 1 BC rfl AX rfl rfl) rfl ?_
      refine AP 26 37 true _ (U64 bl2) rfl rfl hb4 (AI rfl (AQ AY (AS 3 rfl (AE (AE (AE (Seg.head))))))) rfl ?_
      refine AP 26 37 true _ (.bool (decide (bl = bl2))) rfl rfl hb4 (AU rfl rfl fun _ => FU bl bl2) rfl ?_
      refine AA _ (A2 _ rfl hb4 rfl) rfl ?_
      refine AA _ (AL rfl) rfl ?_
      rcases Bool.eq_false_or_eq_true (decide (bl = bl2)) with hb5 | hb5
      ·
       have hp5 : bl = bl2 := of_decide_eq_true hb5
       refine AP 33 44 true _ (Ptr nb3 1) rfl rfl hb5 (AB 1 23 1 BC rfl DG rfl rfl) rfl ?_
       refine AP 33 44 true _ (SL ai ni ci) rfl rfl hb5 (AI rfl (AQ DL (AS 2 rfl (AE (Seg.head))))) rfl ?_
       refine AP 33 44 true _ (Ptr nb5 1) rfl rfl hb5 (AB 1 23 1 BC rfl DG rfl rfl) rfl ?_
       refine AP 33 44 true _ (SL ai2 ni2 ci2) rfl rfl hb5 (AI rfl (AQ DL (AS 3 rfl (AE (Seg.head))))) rfl ?_
       refine ET 33 44 true _ rfl rfl hb5 (BG 115 [SL ai ni ci, SL ai2 ni2 ci2] (.bool (decide (l = l2))) (A6 _ Tryd.call115 rfl) (fun w1 hw1 => eq64_c ai ni ci l ai2 ni2 ci2 l2 w1 hl (by omega) (by omega) (by omega) (CA hw1 rfl hv) hl2 (by omega) (by omega) (by omega) (CA hw1 rfl hv2))) rfl ?_
       rintro v1 L1 ⟨rfl, rfl⟩
       show JL _ _ _ _ ((49, .bool (decide (l = l2))) :: _) [_, _, _, _]
       refine AA _ (A2 _ rfl hb5 rfl) rfl ?_
       refine AA _ (AL rfl) rfl ?_
       rcases Bool.eq_false_or_eq_true (decide (l = l2)) with hb6 | hb6
       ·
        have hp6 : l = l2 := of_decide_eq_true hb6
        refine AP 40 51 true _ (Ptr nb3 2) rfl rfl hb6 (AB 2 24 1 BC rfl EG rfl rfl) rfl ?_
        refine AP 40 51 true _ (SL sa ns sc) rfl rfl hb6 (AI rfl (AQ ES (AS 2 rfl (AE (AE (Seg.head)))))) rfl ?_
        refine AP 40 51 true _ (Ptr nb5 2) rfl rfl hb6 (AB 2 24 1 BC rfl EG rfl rfl) rfl ?_
        refine AP 40 51 true _ (SL sa2 ns2 sc2) rfl rfl hb6 (AI rfl (AQ ES (AS 3 rfl (AE (AE (Seg.head)))))) rfl ?_
        refine ET 40 51 true _ rfl rfl hb6 (BG 116 [SL sa ns sc, SL sa2 ns2 sc2] (.bool (decide (ls = ls2))) (A6 _ Tryd.call116 rfl) (fun w1 hw1 => eqS_c sa ns sc ls sa2 ns2 sc2 ls2 w1 hls (by omega) (by omega) (by omega) (CA hw1 rfl hs) hls2 (by omega) (by omega) (by omega) (CA hw1 rfl hs2))) rfl ?_
        rintro v1 L1 ⟨rfl, rfl⟩
        show JL _ _ _ _ ((56, .bool (decide (ls = ls2))) :: _) [_, _, _, _]
        refine AA _ (A2 _ rfl hb6 rfl) rfl ?_
        refine AA _ (AH rfl) rfl ?_
        refine AN (AF (BK (BP [false, false, false, false] ?_)))
        show JQ _ _ _ _ []
        refine BJ (.bool (decide (ls = ls2))) (res1 EJ (BH rfl)) fun w1 hw1 => ?_
        refine ⟨_, [], rfl, ⟨congrArg Value.bool ?_, rfl⟩, hw1.sub (by simp) (by simp)⟩
        first | (simp [*]; done) | (simp_all; done)
       ·
        have hp6 : ¬ (l = l2) := of_decide_eq_false hb6
        refine AC 40 51 true _ rfl rfl hb6 rfl ?_
        refine AC 40 51 true _ rfl rfl hb6 rfl ?_
        refine AC 40 51 true _ rfl rfl hb6 rfl ?_
        refine AC 40 51 true _ rfl rfl hb6 rfl ?_
        refine AC 40 51 true _ rfl rfl hb6 rfl ?_
        refine AA _ (A0 _ rfl hb6 rfl) rfl ?_
        refine AA _ (AH rfl) rfl ?_
        refine AN (AF (BK (BP [false, false, false, false] ?_)))
        show JQ _ _ _ _ []
        refine BJ (.bool false) (res1 EJ (BH rfl)) fun w1 hw1 => ?_
        refine ⟨_, [], rfl, ⟨congrArg Value.bool ?_, rfl⟩, hw1.sub (by simp) (by simp)⟩
        first | (simp [*]; done) | (simp_all; done)
      ·
       have hp5 : ¬ (bl = bl2) := of_decide_eq_false hb5
       refine AC 33 44 true _ rfl rfl hb5 rfl ?_
       refine AC 33 44 true _ rfl rfl hb5 rfl ?_
       refine AC 33 44 true _ rfl rfl hb5 rfl ?_
       refine AC 33 44 true _ rfl rfl hb5 rfl ?_
       refine AC 33 44 true _ rfl rfl hb5 rfl ?_
       refine AA _ (A0 _ rfl hb5 rfl) rfl ?_
       refine AA _ (AL rfl) rfl ?_
       refine AC 40 51 true _ rfl rfl rfl rfl ?_
       refine AC 40 51 true _ rfl rfl rfl rfl ?_
       refine AC 40 51 true _ rfl rfl rfl rfl ?_
       refine AC 40 51 true _ rfl rfl rfl rfl ?_
       refine AC 40 51 true _ rfl rfl rfl rfl ?_
       refine AA _ (A0 _ rfl rfl rfl) rfl ?_
       refine AA _ (AH rfl) rfl ?_
       refine AN (AF (BK (BP [false, false, false, false] ?_)))
       show JQ _ _ _ _ []
       refine BJ (.bool false) (res1 EJ (BH rfl)) fun w1 hw1 => ?_
       refine ⟨_, [], rfl, ⟨congrArg Value.bool ?_, rfl⟩, hw1.sub (by simp) (by simp)⟩
       first | (simp [*]; done) | (simp_all; done)
     ·
      have hp4 : ¬ ((kd) = (kd2)) := of_decide_eq_false hb4
      refine AC 26 37 true _ rfl rfl hb4 rfl ?_
      refine AC 26 37 true _ rfl rfl hb4 rfl ?_
      refine AC 26 37 true _ rfl rfl hb4 rfl ?_
      refine AC 26 37 true _ rfl rfl hb4 rfl ?_
      refine AC 26 37 true _ rfl rfl hb4 rfl ?_
      refine AA _ (A0 _ rfl hb4 rfl) rfl ?_
      refine AA _ (AL rfl) rfl ?_
      refine AC 33 44 true _ rfl rfl rfl rfl ?_
      refine AC 33 44 true _ rfl rfl rfl rfl ?_
      refine AC 33 44 true _ rfl rfl rfl rfl ?_
      refine AC 33 44 true _ rfl rfl rfl rfl ?_
      refine AC 33 44 true _ rfl rfl rfl rfl ?_
      refine AA _ (A0 _ rfl rfl rfl) rfl ?_
      refine AA _ (AL rfl) rfl ?_
      refine AC 40 51 true _ rfl rfl rfl rfl ?_
      refine AC 40 51 true _ rfl rfl rfl rfl ?_
      refine AC 40 51 true _ rfl rfl rfl rfl ?_
      refine AC 40 51 true _ rfl rfl rfl rfl ?_
      refine AC 40 51 true _ rfl rfl rfl rfl ?_
      refine AA _ (A0 _ rfl rfl rfl) rfl ?_
      refine AA _ (AH rfl) rfl ?_
      refine AN (AF (BK (BP [false, false, false, false] ?_)))
      show JQ _ _ _ _ []
      refine BJ (.bool false) (res1 EJ (BH rfl)) fun w1 hw1 => ?_
      refine ⟨_, [], rfl, ⟨congrArg Value.bool ?_, rfl⟩, hw1.sub (by simp) (by simp)⟩
      first | (simp [*]; done) | (simp_all; done)
    ·
     have hp3 : ¬ (tg = tg2) := of_decide_eq_false hb3
     refine AC 19 30 true _ rfl rfl hb3 rfl ?_
     refine AC 19 30 true _ rfl rfl hb3 rfl ?_
     refine AC 19 30 true _ rfl rfl hb3 rfl ?_
     refine AC 19 30 true _ rfl rfl hb3 rfl ?_
     refine AC 19 30 true _ rfl rfl hb3 rfl ?_
     refine AA _ (A0 _ rfl hb3 rfl) rfl ?_
     refine AA _ (AL rfl) rfl ?_
     refine AC 26 37 true _ rfl rfl rfl rfl ?_
     refine AC 26 37 true _ rfl rfl rfl rfl ?_
     refine AC 26 37 true _ rfl rfl rfl rfl ?_
     refine AC 26 37 true _ rfl rfl rfl rfl ?_
     refine AC 26 37 true _ rfl rfl rfl rfl ?_
     refine AA _ (A0 _ rfl rfl rfl) rfl ?_
     refine AA _ (AL rfl) rfl ?_
     refine AC 33 44 true _ rfl rfl rfl rfl ?_
     refine AC 33 44 true _ rfl rfl rfl rfl ?_
     refine AC 33 44 true _ rfl rfl rfl rfl ?_
     refine AC 33 44 true _ rfl rfl rfl rfl ?_
     refine AC 33 44 true _ rfl rfl rfl rfl ?_
     refine AA _ (A0 _ rfl rfl rfl) rfl ?_
     refine AA _ (AL rfl) rfl ?_
     refine AC 40 51 true _ rfl rfl rfl rfl ?_
     refine AC 40 51 true _ rfl rfl rfl rfl ?_
     refine AC 40 51 true _ rfl rfl rfl rfl ?_
     refine AC 40 51 true _ rfl rfl rfl rfl ?_
     refine AC 40 51 true _ rfl rfl rfl rfl ?_
     refine AA _ (A0 _ rfl rfl rfl) rfl ?_
     refine AA _ (AH rfl) rfl ?_
     refine AN (AF (BK (BP [false, false, false, false] ?_)))
     show JQ _ _ _ _ []
     refine BJ (.bool false) (res1 EJ (BH rfl)) fun w1 hw1 => ?_
     refine ⟨_, [], rfl, ⟨congrArg Value.bool ?_, rfl⟩, hw1.sub (by simp) (by simp)⟩
     first | (simp [*]; done) | (simp_all; done)
   ·
    have hp2 : ¬ (ep = ep2) := of_decide_eq_false hb2
    refine AC 12 23 true _ rfl rfl hb2 rfl ?_
    refine AC 12 23 true _ rfl rfl hb2 rfl ?_
    refine AC 12 23 true _ rfl rfl hb2 rfl ?_
    refine AC 12 23 true _ rfl rfl hb2 rfl ?_
    refine AC 12 23 true _ rfl rfl hb2 rfl ?_
    refine AA _ (A0 _ rfl hb2 rfl) rfl ?_
    refine AA _ (AL rfl) rfl ?_
    refine AC 19 30 true _ rfl rfl rfl rfl ?_
    refine AC 19 30 true _ rfl rfl rfl rfl ?_
    refine AC 19 30 true _ rfl rfl rfl rfl ?_
    refine AC 19 30 true _ rfl rfl rfl rfl ?_
    refine AC 19 30 true _ rfl rfl rfl rfl ?_
    refine AA _ (A0 _ rfl rfl rfl) rfl ?_
    refine AA _ (AL rfl) rfl ?_
    refine AC 26 37 true _ rfl rfl rfl rfl ?_
    refine AC 26 37 true _ rfl rfl rfl rfl ?_
    refine AC 26 37 true _ rfl rfl rfl rfl ?_
    refine AC 26 37 true _ rfl rfl rfl rfl ?_
    refine AC 26 37 true _ rfl rfl rfl rfl ?_
    refine AA _ (A0 _ rfl rfl rfl) rfl ?_
    refine AA _ (AL rfl) rfl ?_
    refine AC 33 44 true _ rfl rfl rfl rfl ?_
    refine AC 33 44 true _ rfl rfl rfl rfl ?_
    refine AC 33 44 true _ rfl rfl rfl rfl ?_
    refine AC 33 44 true _ rfl rfl rfl rfl ?_
    refine AC 33 44 true _ rfl rfl rfl rfl ?_
    refine AA _ (A0 _ rfl rfl rfl) rfl ?_
    refine AA _ (AL rfl) rfl ?_
    refine AC 40 51 true _ rfl rfl rfl rfl ?_
    refine AC 40 51 true _ rfl rfl rfl rfl ?_
    refine AC 40 51 true _ rfl rfl rfl rfl ?_
    refine AC 40 51 true _ rfl rfl rfl rfl ?_
    refine AC 40 51 true _ rfl rfl rfl rfl ?_
    refine AA _ (A0 _ rfl rfl rfl) rfl ?_
    refine AA _ (AH rfl) rfl ?_
    refine AN (AF (BK (BP [false, false, false, false] ?_)))
    show JQ _ _ _ _ []
    refine BJ (.bool false) (res1 EJ (BH rfl)) fun w1 hw1 => ?_
    refine ⟨_, [], rfl, ⟨congrArg Value.bool ?_, rfl⟩, hw1.sub (by simp) (by simp)⟩
    first | (simp [*]; done) | (simp_all; done)
  ·
   have hp1 : ¬ (pv = pv2) := of_decide_eq_false hb1
   refine AC 5 16 true _ rfl rfl hb1 rfl ?_
   refine AC 5 16 true _ rfl rfl hb1 rfl ?_
   refine AC 5 16 true _ rfl rfl hb1 rfl ?_
   refine AC 5 16 true _ rfl rfl hb1 rfl ?_
   refine AC 5 16 true _ rfl rfl hb1 rfl ?_
   refine AA _ (A0 _ rfl hb1 rfl) rfl ?_
   refine AA _ (AL rfl) rfl ?_
   refine AC 12 23 true _ rfl rfl rfl rfl ?_
   refine AC 12 23 true _ rfl rfl rfl rfl ?_
   refine AC 12 23 true _ rfl rfl rfl rfl ?_
   refine AC 12 23 true _ rfl rfl rfl rfl ?_
   refine AC 12 23 true _ rfl rfl rfl rfl ?_
   refine AA _ (A0 _ rfl rfl rfl) rfl ?_
   refine AA _ (AL rfl) rfl ?_
   refine AC 19 30 true _ rfl rfl rfl rfl ?_
   refine AC 19 30 true _ rfl rfl rfl rfl ?_
   refine AC 19 30 true _ rfl rfl rfl rfl ?_
   refine AC 19 30 true _ rfl rfl rfl rfl ?_
   refine AC 19 30 true _ rfl rfl rfl rfl ?_
   refine AA _ (A0 _ rfl rfl rfl) rfl ?_
   refine AA _ (AL rfl) rfl ?_
   refine AC 26 37 true _ rfl rfl rfl rfl ?_
   refine AC 26 37 true _ rfl rfl rfl rfl ?_
   refine AC 26 37 true _ rfl rfl rfl rfl ?_
   refine AC 26 37 true _ rfl rfl rfl rfl ?_
   refine AC 26 37 true _ rfl rfl rfl rfl ?_
   refine AA _ (A0 _ rfl rfl rfl) rfl ?_
   refine AA _ (AL rfl) rfl ?_
   refine AC 33 44 true _ rfl rfl rfl rfl ?_
   refine AC 33 44 true _ rfl rfl rfl rfl ?_
   refine AC 33 44 true _ rfl rfl rfl rfl ?_
   refine AC 33 44 true _ rfl rfl rfl rfl ?_
   refine AC 33 44 true _ rfl rfl rfl rfl ?_
   refine AA _ (A0 _ rfl rfl rfl) rfl ?_
   refine AA _ (AL rfl) rfl ?_
   refine AC 40 51 true _ rfl rfl rfl rfl ?_
   refine AC 40 51 true _ rfl rfl rfl rfl ?_
   refine AC 40 51 true _ rfl rfl rfl rfl ?_
   refine AC 40 51 true _ rfl rfl rfl rfl ?_
   refine AC 40 51 true _ rfl rfl rfl rfl ?_
   refine AA _ (A0 _ rfl rfl rfl) rfl ?_
   refine AA _ (AH rfl) rfl ?_
   refine AN (AF (BK (BP [false, false, false, false] ?_)))
   show JQ _ _ _ _ []
   refine BJ (.bool false) (res1 EJ (BH rfl)) fun w1 hw1 => ?_
   refine ⟨_, [], rfl, ⟨congrArg Value.bool ?_, rfl⟩, hw1.sub (by simp) (by simp)⟩
   first | (simp [*]; done) | (simp_all; done)
 ·
  rintro v1 L1 ⟨nb4, hnb4, rfl, rfl⟩
  refine ⟨[], ?_⟩
  show DP _ _ _ _ _ _ _ _ [_, _, ⟨nb4, [I64 0, SL none 0 0, SL none 0 0, U64 0], 26, (0, 0)⟩]
  refine CZ ⟨[5], [0, 1, 2, 3], [], [0, 1, 2, 3], [4]⟩ 4 _ rfl rfl (by decide +kernel) rfl ⟨⟨_, rfl, AJ rfl (AB 2 26 4 A7 rfl B7 rfl rfl)⟩, ⟨_, rfl, AJ rfl (AI rfl (BV D9 B7 rfl (AS 0 rfl (C6 (p := [U64 pv, U64 ep]) (q := cu8 tg) (vs := [I64 (kd), SL ai ni ci, SL sa ns sc, U64 bl]) (by first | rfl | (simp only [List.append_assoc, List.nil_append, List.append_nil, List.cons_append]; done)) rfl))))⟩, ⟨_, rfl, AJ rfl (AB 2 26 4 A7 rfl B7 rfl rfl)⟩, ⟨_, rfl, AJ rfl (AI rfl (BV D9 B7 rfl (AS 1 rfl (C6 (p := [U64 pv2, U64 ep2]) (q := cu8 tg2) (vs := [I64 (kd2), SL ai2 ni2 ci2, SL sa2 ns2 sc2, U64 bl2]) (by first | rfl | (simp only [List.append_assoc, List.nil_append, List.append_nil, List.cons_append]; done)) rfl))))⟩, trivial⟩ rfl (BI rfl (DI _ ([I64 0, SL none 0 0, SL none 0 0, U64 0]) Tryd.zeroValue26 (by kernel_rfl))) ?_
  rintro v1 L1 ⟨nb6, hnb6, rfl, rfl⟩
  refine ⟨[], ?_⟩
  show DP _ _ _ _ _ _ _ _ [_, _, _, ⟨nb6, [I64 0, SL none 0 0, SL none 0 0, U64 0], 26, (0, 0)⟩]
  refine FH ⟨[5, 4], [0, 1, 2, 3], [], [0, 1, 2, 3], [6]⟩ 6 rfl rfl (by decide +kernel) rfl ⟨⟨_, rfl, AJ rfl (AB 2 26 4 A7 rfl B7 rfl rfl)⟩, ⟨_, rfl, AJ rfl (AI rfl (BV D9 B7 rfl (AS 0 rfl (C6 (p := [U64 pv, U64 ep]) (q := cu8 tg) (vs := [I64 (kd), SL ai ni ci, SL sa ns sc, U64 bl]) (by first | rfl | (simp only [List.append_assoc, List.nil_append, List.append_nil, List.cons_append]; done)) rfl))))⟩, ⟨_, rfl, AJ rfl (AB 2 26 4 A7 rfl B7 rfl rfl)⟩, ⟨_, rfl, AJ rfl (AI rfl (BV D9 B7 rfl (AS 1 rfl (C6 (p := [U64 pv2, U64 ep2]) (q := cu8 tg2) (vs := [I64 (kd2), SL ai2 ni2 ci2, SL sa2 ns2 sc2, U64 bl2]) (by first | rfl | (simp only [List.append_assoc, List.nil_append, List.append_nil, List.cons_append]; done)) rfl))))⟩, trivial⟩ rfl (BI rfl (CW 3 nb6 4 ([I64 0, SL none 0 0, SL none 0 0, U64 0]) 26 ([I64 (kd), SL ai ni ci, SL sa ns sc, U64 bl]) rfl rfl rfl B7 rfl (by simp [Value.oneCell']) (Nat.le_of_ble_eq_true rfl) (DC (by simp [])))) ?_
  show DP _ _ _ _ _ _ _ _ [_, _, _, ⟨nb6, [I64 (kd), SL ai ni ci, SL sa ns sc, U64 bl], 26, (0, 0)⟩]
  refine FH ⟨[5, 4, 6], [0, 1, 2, 3], [0, 1], [2, 3], [7]⟩ 7 rfl rfl (by decide +kernel) rfl ⟨⟨_, rfl, AJ rfl (AB 2 26 4 A7 rfl B7 rfl rfl)⟩, ⟨_, rfl, AJ rfl (AI rfl (BV D9 B7 rfl (AS 1 rfl (C6 (p := [U64 pv2, U64 ep2]) (q := cu8 tg2) (vs := [I64 (kd2), SL ai2 ni2 ci2, SL sa2 ns2 sc2, U64 bl2]) (by first | rfl | (simp only [List.append_assoc, List.nil_append, List.append_nil, List.cons_append]; done)) rfl))))⟩, trivial⟩ rfl (BI rfl (CW 2 nb4 4 ([I64 0, SL none 0 0, SL none 0 0, U64 0]) 26 ([I64 (kd2), SL ai2 ni2 ci2, SL sa2 ns2 sc2, U64 bl2]) rfl rfl rfl B7 rfl (by simp [Value.oneCell']) (Nat.le_of_ble_eq_true rfl) (DC (by simp [])))) ?_
  show DP _ _ _ _ _ _ _ _ [_, _, ⟨nb4, [I64 (kd2), SL ai2 ni2 ci2, SL sa2 ns2 sc2, U64 bl2], 26, (0, 0)⟩, _]
  refine DN ⟨[5, 4, 6, 7], [0, 1, 2, 3], [0, 1, 2, 3], [], []⟩ rfl rfl (by decide +kernel) rfl trivial ?_
  refine C7 (F' := [(5, Ptr nb6 0), (6, Ptr nb4 0), (2, Ptr nb1 0), (3, Ptr nb2 0), (4, .bool false)]) (by kernel_rfl) ?_
  refine AF (AK (AD (AA (Ptr nb1 0) (AB 0 22 1 A7 rfl AX rfl rfl) rfl ?_)))
  refine AA (U64 pv) (AI rfl (AQ AY (AS 0 rfl (AG (Seg.head))))) rfl ?_
  refine AA (Ptr nb2 0) (AB 0 22 1 A7 rfl AX rfl rfl) rfl ?_
  refine AA (U64 pv2) (AI rfl (AQ AY (AS 1 rfl (AG (Seg.head))))) rfl ?_
  refine AA (.bool (decide (pv = pv2))) (AU rfl rfl fun _ => FU pv pv2) rfl ?_
  refine AA _ (AL rfl) rfl ?_
  rcases Bool.eq_false_or_eq_true (decide (pv = pv2)) with hb7 | hb7
  ·
   have hp7 : pv = pv2 := of_decide_eq_true hb7
   refine AP 5 16 true _ (Ptr nb1 1) rfl rfl hb7 (AB 1 22 1 A7 rfl AX rfl rfl) rfl ?_
   refine AP 5 16 true _ (U64 ep) rfl rfl hb7 (AI rfl (AQ AY (AS 0 rfl (AG (AE (Seg.head)))))) rfl ?_
   refine AP 5 16 true _ (Ptr nb2 1) rfl rfl hb7 (AB 1 22 1 A7 rfl AX rfl rfl) rfl ?_
   refine AP 5 16 true _ (U64 ep2) rfl rfl hb7 (AI rfl (AQ AY (AS 1 rfl (AG (AE (Seg.head)))))) rfl ?_
   refine AP 5 16 true _ (.bool (decide (ep = ep2))) rfl rfl hb7 (AU rfl rfl fun _ => FU ep ep2) rfl ?_
   refine AA _ (A2 _ rfl hb7 rfl) rfl ?_
   refine AA _ (AL rfl) rfl ?_
   rcases Bool.eq_false_or_eq_true (decide (ep = ep2)) with hb8 | hb8
   ·
    have hp8 : ep = ep2 := of_decide_eq_true hb8
    refine AP 12 23 true _ (Ptr nb1 6) rfl rfl hb8 (AB 6 27 16 A7 rfl CN rfl rfl) rfl ?_
    refine AP 12 23 true _ (.agg (cu8 tg).toArray) rfl rfl hb8 (AI rfl (BV DY CN (D7 htg) (AS 0 rfl (Seg.right 6 0 rfl rfl (AV _))))) rfl ?_
    refine AP 12 23 true _ (Ptr nb2 6) rfl rfl hb8 (AB 6 27 16 A7 rfl CN rfl rfl) rfl ?_
    refine AP 12 23 true _ (.agg (cu8 tg2).toArray) rfl rfl hb8 (AI rfl (BV DY CN (D7 htg2) (AS 1 rfl (Seg.right 6 0 rfl rfl (AV _))))) rfl ?_
    refine AP 12 23 true _ (.bool (decide (tg = tg2))) rfl rfl hb8 (E3 _ _ _ rfl rfl (fun _ => FF _ _ _ _ _ _ (by kernel_rfl)) fun _ => eql_arr8 C5 BA EC EN FC (by simp [htg]) (by simp [htg2])) rfl ?_
    refine AA _ (A2 _ rfl hb8 rfl) rfl ?_
    refine AA _ (AL rfl) rfl ?_
    rcases Bool.eq_false_or_eq_true (decide (tg = tg2)) with hb9 | hb9
    ·
     have hp9 : tg = tg2 := of_decide_eq_true hb9
     refine AP 19 30 true _ (Ptr nb6 0) rfl rfl hb9 (AB 0 3 1 BC rfl AR rfl rfl) rfl ?_
     refine AP 19 30 true _ (I64 (kd)) rfl rfl hb9 (AI rfl (AQ AT (AS 3 rfl (Seg.head)))) rfl ?_
     refine AP 19 30 true _ (Ptr nb4 0) rfl rfl hb9 (AB 0 3 1 BC rfl AR rfl rfl) rfl ?_
     refine AP 19 30 true _ (I64 (kd2)) rfl rfl hb9 (AI rfl (AQ AT (AS 2 rfl (Seg.head)))) rfl ?_
     refine AP 19 30 true _ (.bool (decide ((kd) = (kd2)))) rfl rfl hb9 (AU rfl rfl fun _ => BO _ _) rfl ?_
     refine AA _ (A2 _ rfl hb9 rfl) rfl ?_
     refine AA _ (AL rfl) rfl ?_
     rcases Bool.eq_false_or_eq_true (decide ((kd) = (kd2))) with hb10 | hb10
     ·
      have hp10 : (kd) = (kd2) := of_decide_eq_true hb10
      refine AP 26 37 true _ (Ptr nb6 3) rfl rfl hb10 (AB 3 22 1 BC rfl AX rfl rfl) rfl ?_
      refine AP 26 37 true _ (U64 bl) rfl rfl hb10 (AI rfl (AQ AY (AS 3 rfl (AE (AE (AE (Seg.head))))))) rfl ?_
      refine AP 26 37 true _ (Ptr nb4 3) rfl rfl hb10 (AB 3 22 1 BC rfl AX rfl rfl) rfl ?_
      refine AP 26 37 true _ (U64 bl2) rfl rfl hb10 (AI rfl (AQ AY (AS 2 rfl (AE (AE (AE (Seg.head))))))) rfl ?_
      refine AP 26 37 true _ (.bool (decide (bl = bl2))) rfl rfl hb10 (AU rfl rfl fun _ => FU bl bl2) rfl ?_
      refine AA _ (A2 _ rfl hb10 rfl) rfl ?_
      refine AA _ (AL rfl) rfl ?_
      rcases Bool.eq_false_or_eq_true (decide (bl = bl2)) with hb11 | hb11
      ·
       have hp11 : bl = bl2 := of_decide_eq_true hb11
       refine AP 33 44 true _ (Ptr nb6 1) rfl rfl hb11 (AB 1 23 1 BC rfl DG rfl rfl) rfl ?_
       refine AP 33 44 true _ (SL ai ni ci) rfl rfl hb11 (AI rfl (AQ DL (AS 3 rfl (AE (Seg.head))))) rfl ?_
       refine AP 33 44 true _ (Ptr nb4 1) rfl rfl hb11 (AB 1 23 1 BC rfl DG rfl rfl) rfl ?_
       refine AP 33 44 true _ (SL ai2 ni2 ci2) rfl rfl hb11 (AI rfl (AQ DL (AS 2 rfl (AE (Seg.head))))) rfl ?_
       refine ET 33 44 true _ rfl rfl hb11 (BG 115 [SL ai ni ci, SL ai2 ni2 ci2] (.bool (decide (l = l2))) (A6 _ Tryd.call115 rfl) (fun w1 hw1 => eq64_c ai ni ci l ai2 ni2 ci2 l2 w1 hl (by omega) (by omega) (by omega) (CA hw1 rfl hv) hl2 (by omega) (by omega) (by omega) (CA hw1 rfl hv2))) rfl ?_
       rintro v1 L1 ⟨rfl, rfl⟩
       show JL _ _ _ _ ((49, .bool (decide (l = l2))) :: _) [_, _, _, _]
       refine AA _ (A2 _ rfl hb11 rfl) rfl ?_
       refine AA _ (AL rfl) rfl ?_
       rcases Bool.eq_false_or_eq_true (decide (l = l2)) with hb12 | hb12
       ·
        have hp12 : l = l2 := of_decide_eq_true hb12
        refine AP 40 51 true _ (Ptr nb6 2) rfl rfl hb12 (AB 2 24 1 BC rfl EG rfl rfl) rfl ?_
        refine AP 40 51 true _ (SL sa ns sc) rfl rfl hb12 (AI rfl (AQ ES (AS 3 rfl (AE (AE (Seg.head)))))) rfl ?_
        refine AP 40 51 true _ (Ptr nb4 2) rfl rfl hb12 (AB 2 24 1 BC rfl EG rfl rfl) rfl ?_
        refine AP 40 51 true _ (SL sa2 ns2 sc2) rfl rfl hb12 (AI rfl (AQ ES (AS 2 rfl (AE (AE (Seg.head)))))) rfl ?_
        refine ET 40 51 true _ rfl rfl hb12 (BG 116 [SL sa ns sc, SL sa2 ns2 sc2] (.bool (decide (ls = ls2))) (A6 _ Tryd.call116 rfl) (fun w1 hw1 => eqS_c sa ns sc ls sa2 ns2 sc2 ls2 w1 hls (by omega) (by omega) (by omega) (CA hw1 rfl hs) hls2 (by omega) (by omega) (by omega) (CA hw1 rfl hs2))) rfl ?_
        rintro v1 L1 ⟨rfl, rfl⟩
        show JL _ _ _ _ ((56, .bool (decide (ls = ls2))) :: _) [_, _, _, _]
        refine AA _ (A2 _ rfl hb12 rfl) rfl ?_
        refine AA _ (AH rfl) rfl ?_
        refine AN (AF (BK (BP [false, false, false, false] ?_)))
        show JQ _ _ _ _ []
        refine BJ (.bool (decide (ls = ls2))) (res1 EJ (BH rfl)) fun w1 hw1 => ?_
        refine ⟨_, [], rfl, ⟨congrArg Value.bool ?_, rfl⟩, hw1.sub (by simp) (by simp)⟩
        first | (simp [*]; done) | (simp_all; done)
       ·
        have hp12 : ¬ (l = l2) := of_decide_eq_false hb12
        refine AC 40 51 true _ rfl rfl hb12 rfl ?_
        refine AC 40 51 true _ rfl rfl hb12 rfl ?_
        refine AC 40 51 true _ rfl rfl hb12 rfl ?_
        refine AC 40 51 true _ rfl rfl hb12 rfl ?_
        refine AC 40 51 true _ rfl rfl hb12 rfl ?_
        refine AA _ (A0 _ rfl hb12 rfl) rfl ?_
        refine AA _ (AH rfl) rfl ?_
        refine AN (AF (BK (BP [false, false, false, false] ?_)))
        show JQ _ _ _ _ []
        refine BJ (.bool false) (res1 EJ (BH rfl)) fun w1 hw1 => ?_
        refine ⟨_, [], rfl, ⟨congrArg Value.bool ?_, rfl⟩, hw1.sub (by simp) (by simp)⟩
        first | (simp [*]; done) | (simp_all; done)
      ·
       have hp11 : ¬ (bl = bl2) := of_decide_eq_false hb11
       refine AC 33 44 true _ rfl rfl hb11 rfl ?_
       refine AC 33 44 true _ rfl rfl hb11 rfl ?_
       refine AC 33 44 true _ rfl rfl hb11 rfl ?_
       refine AC 33 44 true _ rfl rfl hb11 rfl ?_
       refine AC 33 44 true _ rfl rfl hb11 rfl ?_
       refine AA _ (A0 _ rfl hb11 rfl) rfl ?_
       refine AA _ (AL rfl) rfl ?_
       refine AC 40 51 true _ rfl rfl rfl rfl ?_
       refine AC 40 51 true _ rfl rfl rfl rfl ?_
       refine AC 40 51 true _ rfl rfl rfl rfl ?_
       refine AC 40 51 true _ rfl rfl rfl rfl ?_
       refine AC 40 51 true _ rfl rfl rfl rfl ?_
       refine AA _ (A0 _ rfl rfl rfl) rfl ?_
       refine AA _ (AH rfl) rfl ?_
       refine AN (AF (BK (BP [false, false, false, false] ?_)))
       show JQ _ _ _ _ []
       refine BJ (.bool false) (res1 EJ (BH rfl)) fun w1 hw1 => ?_
       refine ⟨_, [], rfl, ⟨congrArg Value.bool ?_, rfl⟩, hw1.sub (by simp) (by simp)⟩
       first | (simp [*]; done) | (simp_all; done)
     ·
      have hp10 : ¬ ((kd) = (kd2)) := of_decide_eq_false hb10
      refine AC 26 37 true _ rfl rfl hb10 rfl ?_
      refine AC 26 37 true _ rfl rfl hb10 rfl ?_
      refine AC 26 37 true _ rfl rfl hb10 rfl ?_
      refine AC 26 37 true _ rfl rfl hb10 rfl ?_
      refine AC 26 37 true _ rfl rfl hb10 rfl ?_
      refine AA _ (A0 _ rfl hb10 rfl) rfl ?_
      refine AA _ (AL rfl) rfl ?_
      refine AC 33 44 true _ rfl rfl rfl rfl ?_
      refine AC 33 44 true _ rfl rfl rfl rfl ?_
      refine AC 33 44 true _ rfl rfl rfl rfl ?_
      refine AC 33 44 true _ rfl rfl rfl rfl ?_
      refine AC 33 44 true _ rfl rfl rfl rfl ?_
      refine AA _ (A0 _ rfl rfl rfl) rfl ?_
      refine AA _ (AL rfl) rfl ?_
      refine AC 40 51 true _ rfl rfl rfl rfl ?_
      refine AC 40 51 true _ rfl rfl rfl rfl ?_
      refine AC 40 51 true _ rfl rfl rfl rfl ?_
      refine AC 40 51 true _ rfl rfl rfl rfl ?_
      refine AC 40 51 true _ rfl rfl rfl rfl ?_
      refine AA _ (A0 _ rfl rfl rfl) rfl ?_
      refine AA _ (AH rfl) rfl ?_
      refine AN (AF (BK (BP [false, false, false, false] ?_)))
      show JQ _ _ _ _ []
      refine BJ (.bool false) (res1 EJ (BH rfl)) fun w1 hw1 => ?_
      refine ⟨_, [], rfl, ⟨congrArg Value.bool ?_, rfl⟩, hw1.sub (by simp) (by simp)⟩
      first | (simp [*]; done) | (simp_all; done)
    ·
     have hp9 : ¬ (tg = tg2) := of_decide_eq_false hb9
     refine AC 19 30 true _ rfl rfl hb9 rfl ?_
     refine AC 19 30 true _ rfl rfl hb9 rfl ?_
     refine AC 19 30 true _ rfl rfl hb9 rfl ?_
     refine AC 19 30 true _ rfl rfl hb9 rfl ?_
     refine AC 19 30 true _ rfl rfl hb9 rfl ?_
     refine AA _ (A0 _ rfl hb9 rfl) rfl ?_
     refine AA _ (AL rfl) rfl ?_
     refine AC 26 37 true _ rfl rfl rfl rfl ?_
     refine AC 26 37 true _ rfl rfl rfl rfl ?_
     refine AC 26 37 true _ rfl rfl rfl rfl ?_
     refine AC 26 37 true _ rfl rfl rfl rfl ?_
     refine AC 26 37 true _ rfl rfl rfl rfl ?_
     refine AA _ (A0 _ rfl rfl rfl) rfl ?_
     refine AA _ (AL rfl) rfl ?_
     refine AC 33 44 true _ rfl rfl rfl rfl ?_
     refine AC 33 44 true _ rfl rfl rfl rfl ?_
     refine AC 33 44 true _ rfl rfl rfl rfl ?_
     refine AC 33 44 true _ rfl rfl rfl rfl ?_
     refine AC 33 44 true _ rfl rfl rfl rfl ?_
     refine AA _ (A0 _ rfl rfl rfl) rfl ?_
     refine AA _ (AL rfl) rfl ?_
     refine AC 40 51 true _ rfl rfl rfl rfl ?_
     refine AC 40 51 true _ rfl rfl rfl rfl ?_
     refine AC 40 51 true _ rfl rfl rfl rfl ?_
     refine AC 40 51 true _ rfl rfl rfl rfl ?_
     refine AC 40 51 true _ rfl rfl rfl rfl ?_
     refine AA _ (A0 _ rfl rfl rfl) rfl ?_
     refine AA _ (AH rfl) rfl ?_
     refine AN (AF (BK (BP [false, false, false, false] ?_)))
     show JQ _ _ _ _ []
     refine BJ (.bool false) (res1 EJ (BH rfl)) fun w1 hw1 => ?_
     refine ⟨_, [], rfl, ⟨congrArg Value.bool ?_, rfl⟩, hw1.sub (by simp) (by simp)⟩
     first | (simp [*]; done) | (simp_all; done)
   ·
    have hp8 : ¬ (ep = ep2) := of_decide_eq_false hb8
    refine AC 12 23 true _ rfl rfl hb8 rfl ?_
    refine AC 12 23 true _ rfl rfl hb8 rfl ?_
    refine AC 12 23 true _ rfl rfl hb8 rfl ?_
    refine AC 12 23 true _ rfl rfl hb8 rfl ?_
    refine AC 12 23 true _ rfl rfl hb8 rfl ?_
    refine AA _ (A0 _ rfl hb8 rfl) rfl ?_
    refine AA _ (AL rfl) rfl ?_
    refine AC 19 30 true _ rfl rfl rfl rfl ?_
    refine AC 19 30 true _ rfl rfl rfl rfl ?_
    refine AC 19 30 true _ rfl rfl rfl rfl ?_
    refine AC 19 30 true _ rfl rfl rfl rfl ?_
    refine AC 19 30 true _ rfl rfl rfl rfl ?_
    refine AA _ (A0 _ rfl rfl rfl) rfl ?_
    refine AA _ (AL rfl) rfl ?_
    refine AC 26 37 true _ rfl rfl rfl rfl ?_
    refine AC 26 37 true _ rfl rfl rfl rfl ?_
    refine AC 26 37 true _ rfl rfl rfl rfl ?_
    refine AC 26 37 true _ rfl rfl rfl rfl ?_
    refine AC 26 37 true _ rfl rfl rfl rfl ?_
    refine AA _ (A0 _ rfl rfl rfl) rfl ?_
    refine AA _ (AL rfl) rfl ?_
    refine AC 33 44 true _ rfl rfl rfl rfl ?_
    refine AC 33 44 true _ rfl rfl rfl rfl ?_
    refine AC 33 44 true _ rfl rfl rfl rfl ?_
    refine AC 33 44 true _ rfl rfl rfl rfl ?_
    refine AC 33 44 true _ rfl rfl rfl rfl ?_
    refine AA _ (A0 _ rfl rfl rfl) rfl ?_
    refine AA _ (AL rfl) rfl ?_
    refine AC 40 51 true _ rfl rfl rfl rfl ?_
    refine AC 40 51 true _ rfl rfl rfl rfl ?_
    refine AC 40 51 true _ rfl rfl rfl rfl ?_
    refine AC 40 51 true _ rfl rfl rfl rfl ?_
    refine AC 40 51 true _ rfl rfl rfl rfl ?_
    refine AA _ (A0 _ rfl rfl rfl) rfl ?_
    refine AA _ (AH rfl) rfl ?_
    refine AN (AF (BK (BP [false, false, false, false] ?_)))
    show JQ _ _ _ _ []
    refine BJ (.bool false) (res1 EJ (BH rfl)) fun w1 hw1 => ?_
    refine ⟨_, [], rfl, ⟨congrArg Value.bool ?_, rfl⟩, hw1.sub (by simp) (by simp)⟩
    first | (simp [*]; done) | (simp_all; done)
  ·
   have hp7 : ¬ (pv = pv2) := of_decide_eq_false hb7
   refine AC 5 16 true _ rfl rfl hb7 rfl ?_
   refine AC 5 16 true _ rfl rfl hb7 rfl ?_
   refine AC 5 16 true _ rfl rfl hb7 rfl ?_
   refine AC 5 16 true _ rfl rfl hb7 rfl ?_
   refine AC 5 16 true _ rfl rfl hb7 rfl ?_
   refine AA _ (A0 _ rfl hb7 rfl) rfl ?_
   refine AA _ (AL rfl) rfl ?_
   refine AC 12 23 true _ rfl rfl rfl rfl ?_
   refine AC 12 23 true _ rfl rfl rfl rfl ?_
   refine AC 12 23 true _ rfl rfl rfl rfl ?_
   refine AC 12 23 true _ rfl rfl rfl rfl ?_
   refine AC 12 23 true _ rfl rfl rfl rfl ?_
   refine AA _ (A0 _ rfl rfl rfl) rfl ?_
   refine AA _ (AL rfl) rfl ?_
   refine AC 19 30 true _ rfl rfl rfl rfl ?_
   refine AC 19 30 true _ rfl rfl rfl rfl ?_
   refine AC 19 30 true _ rfl rfl rfl rfl ?_
   refine AC 19 30 true _ rfl rfl rfl rfl ?_
   refine AC 19 30 true _ rfl rfl rfl rfl ?_
   refine AA _ (A0 _ rfl rfl rfl) rfl ?_
   refine AA _ (AL rfl) rfl ?_
   refine AC 26 37 true _ rfl rfl rfl rfl ?_
   refine AC 26 37 true _ rfl rfl rfl rfl ?_
   refine AC 26 37 true _ rfl rfl rfl rfl ?_
   refine AC 26 37 true _ rfl rfl rfl rfl ?_
   refine AC 26 37 true _ rfl rfl rfl rfl ?_
   refine AA _ (A0 _ rfl rfl rfl) rfl ?_
   refine AA _ (AL rfl) rfl ?_
   refine AC 33 44 true _ rfl rfl rfl rfl ?_
   refine AC 33 44 true _ rfl rfl rfl rfl ?_
   refine AC 33 44 true _ rfl rfl rfl rfl ?_
   refine AC 33 44 true _ rfl rfl rfl rfl ?_
   refine AC 33 44 true _ rfl rfl rfl rfl ?_
   refine AA _ (A0 _ rfl rfl rfl) rfl ?_
   refine AA _ (AL rfl) rfl ?_
   refine AC 40 51 true _ rfl rfl rfl rfl ?_
   refine AC 40 51 true _ rfl rfl rfl rfl ?_
   refine AC 40 51 true _ rfl rfl rfl rfl ?_
   refine AC 40 51 true _ rfl rfl rfl rfl ?_
   refine AC 40 51 true _ rfl rfl rfl rfl ?_
   refine AA _ (A0 _ rfl rfl rfl) rfl ?_
   refine AA _ (AH rfl) rfl ?_
   refine AN (AF (BK (BP [false, false, false, false] ?_)))
   show JQ _ _ _ _ []
   refine BJ (.bool false) (res1 EJ (BH rfl)) fun w1 hw1 => ?_
   refine ⟨_, [], rfl, ⟨congrArg Value.bool ?_, rfl⟩, hw1.sub (by simp) (by simp)⟩
   first | (simp [*]; done) | (simp_all; done)
theorem rsame13_c (pv ep : UInt64) (kd : Int) (ai : Option Addr) (ni ci : Nat) (l : List UInt64) (sa : Option Addr) (ns sc : Nat) (ls : List SealR) (bl : UInt64) (tg : List UInt8) (pv2 ep2 : UInt64) (kd2 : Int) (ai2 : Option Addr) (ni2 ci2 : Nat) (l2 : List UInt64) (sa2 : Option Addr) (ns2 sc2 : Nat) (ls2 : List SealR) (bl2 : UInt64) (tg2 : List UInt8)  (w : World) (hl : l.length = ni) (hnm : ni ≤ 2000000) (hnc : ni ≤ ci) (hcm : ci ≤ maxLen) (hv : RdV w ai (cu64 l)) (hls : ls.length = ns) (hnn : ns ≤ 2000000) (hnd : ns ≤ sc) (hcn : sc ≤ maxLen) (hs : RdV w sa (ls.flatMap sealC)) (htg : tg.length = 16) (hl2 : l2.length = ni2) (hnm2 : ni2 ≤ 2000000) (hnc2 : ni2 ≤ ci2) (hcm2 : ci2 ≤ maxLen) (hv2 : RdV w ai2 (cu64 l2)) (hls2 : ls2.length = ns2) (hnn2 : ns2 ≤ 2000000) (hnd2 : ns2 ≤ sc2) (hcn2 : sc2 ≤ maxLen) (hs2 : RdV w sa2 (ls2.flatMap sealC)) (htg2 : tg2.length = 16)  : Calls Tryd.prog 51 #[.agg ([U64 pv, U64 ep, I64 (kd), SL ai ni ci, SL sa ns sc, U64 bl] ++ cu8 tg).toArray, .agg ([U64 pv2, U64 ep2, I64 (kd2), SL ai2 ni2 ci2, SL sa2 ns2 sc2, U64 bl2] ++ cu8 tg2).toArray] w (Post w [] (fun v L => v = .bool (decide (pv = pv2 ∧ ep = ep2 ∧ tg = tg2 ∧ kd = kd2 ∧ bl = bl2 ∧ l = l2 ∧ ls = ls2)) ∧ L = [])) := by
 have hmx : maxLen = 9223372036854775807 := rfl
 refine enter (P := Tryd.prog) (f := 51) (fn := Tryd.f51) w [] 108 [] [.agg ([U64 pv, U64 ep, I64 (kd), SL ai ni ci, SL sa ns sc, U64 bl] ++ cu8 tg).toArray, .agg ([U64 pv2, U64 ep2, I64 (kd2), SL ai2 ni2 ci2, SL sa2 ns2 sc2, U64 bl2] ++ cu8 tg2).toArray] Tryd.func51 rfl rfl (by simp) (CC (by simp) (by simp) (by simp)) ?_
 show JC _ _ _ [(0, .agg ([U64 pv, U64 ep, I64 (kd), SL ai ni ci, SL sa ns sc, U64 bl] ++ cu8 tg).toArray), (1, .agg ([U64 pv2, U64 ep2, I64 (kd2), SL ai2 ni2 ci2, SL sa2 ns2 sc2, U64 bl2] ++ cu8 tg2).toArray)] _
 refine AK (AD (A9 (CL (.agg ([U64 pv, U64 ep, I64 (kd), SL ai ni ci, SL sa ns sc, U64 bl] ++ cu8 tg).toArray) ([U64 pv, U64 ep, I64 (kd), SL ai ni ci, SL sa ns sc, U64 bl] ++ cu8 tg) rfl (by first | rfl | simp)) rfl ?_))
 rintro v1 L1 ⟨nb1, hnb1, rfl, rfl⟩
 show JL _ _ _ _ ((2, Ptr nb1 0) :: _) [⟨nb1, [U64 pv, U64 ep, I64 (kd), SL ai ni ci, SL sa ns sc, U64 bl] ++ cu8 tg, 38, (0, 0)⟩]
 refine A9 (CL (.agg ([U64 pv2, U64 ep2, I64 (kd2), SL ai2 ni2 ci2, SL sa2 ns2 sc2, U64 bl2] ++ cu8 tg2).toArray) ([U64 pv2, U64 ep2, I64 (kd2), SL ai2 ni2 ci2, SL sa2 ns2 sc2, U64 bl2] ++ cu8 tg2) rfl (by first | rfl | simp)) rfl ?_
 rintro v1 L1 ⟨nb2, hnb2, rfl, rfl⟩
 show JL _ _ _ _ ((3, Ptr nb2 0) :: _) [_, ⟨nb2, [U64 pv2, U64 ep2, I64 (kd2), SL ai2 ni2 ci2, SL sa2 ns2 sc2, U64 bl2] ++ cu8 tg2, 38, (0, 0)⟩]
 refine AA _ (AH rfl) rfl ?_
 refine AN (AF (AK (AK (AD (AA (Ptr nb1 0) (AB 0 22 1 BL rfl AX rfl rfl) rfl ?_)))))
 refine AA (U64 pv) (AI rfl (AQ AY (AS 0 rfl (AG (Seg.head))))) rfl ?_
 refine AA (Ptr nb2 0) (AB 0 22 1 BL rfl AX rfl rfl) rfl ?_
 refine AA (U64 pv2) (AI rfl (AQ AY (AS 1 rfl (AG (Seg.head))))) rfl ?_
 refine AA (.bool (decide (pv ≠ pv2))) (AU rfl rfl fun _ => EQ pv pv2) rfl ?_
 refine AA _ (AL rfl) rfl ?_
 rcases Bool.eq_false_or_eq_true (decide (pv ≠ pv2)) with hb1 | hb1
 ·
  have hp1 : pv ≠ pv2 := of_decide_eq_true hb1
  refine AC 5 12 false _ rfl rfl hb1 rfl ?_
  refine AC 5 12 false _ rfl rfl hb1 rfl ?_
  refine AC 5 12 false _ rfl rfl hb1 rfl ?_
  refine AC 5 12 false _ rfl rfl hb1 rfl ?_
  refine AC 5 12 false _ rfl rfl hb1 rfl ?_
  refine AA _ (A2 _ rfl hb1 rfl) rfl ?_
  refine AA _ (AL rfl) rfl ?_
  refine AC 12 19 false _ rfl rfl rfl rfl ?_
  refine AC 12 19 false _ rfl rfl rfl rfl ?_
  refine AC 12 19 false _ rfl rfl rfl rfl ?_
  refine AC 12 19 false _ rfl rfl rfl rfl ?_
  refine AC 12 19 false _ rfl rfl rfl rfl ?_
  refine AA _ (A2 _ rfl rfl rfl) rfl ?_
  refine AA _ (AL rfl) rfl ?_
  refine AC 19 26 false _ rfl rfl rfl rfl ?_
  refine AC 19 26 false _ rfl rfl rfl rfl ?_
  refine AC 19 26 false _ rfl rfl rfl rfl ?_
  refine AC 19 26 false _ rfl rfl rfl rfl ?_
  refine AC 19 26 false _ rfl rfl rfl rfl ?_
  refine AC 19 26 false _ rfl rfl rfl rfl ?_
  refine AC 19 26 false _ rfl rfl rfl rfl ?_
  refine AA _ (A2 _ rfl rfl rfl) rfl ?_
  refine AA _ (AL rfl) rfl ?_
  refine AC 28 35 false _ rfl rfl rfl rfl ?_
  refine AC 28 35 false _ rfl rfl rfl rfl ?_
  refine AC 28 35 false _ rfl rfl rfl rfl ?_
  refine AC 28 35 false _ rfl rfl rfl rfl ?_
  refine AC 28 35 false _ rfl rfl rfl rfl ?_
  refine AC 28 35 false _ rfl rfl rfl rfl ?_
  refine AC 28 35 false _ rfl rfl rfl rfl ?_
  refine AA _ (A2 _ rfl rfl rfl) rfl ?_
  refine AA _ (AL rfl) rfl ?_
  refine AC 37 44 false _ rfl rfl rfl rfl ?_
  refine AC 37 44 false _ rfl rfl rfl rfl ?_
  refine AC 37 44 false _ rfl rfl rfl rfl ?_
  refine AC 37 44 false _ rfl rfl rfl rfl ?_
  refine AC 37 44 false _ rfl rfl rfl rfl ?_
  refine AC 37 44 false _ rfl rfl rfl rfl ?_
  refine AC 37 44 false _ rfl rfl rfl rfl ?_
  refine AC 37 44 false _ rfl rfl rfl rfl ?_
  refine AC 37 44 false _ rfl rfl rfl rfl ?_
  refine AA _ (A2 _ rfl rfl rfl) rfl ?_
  refine AA _ (AL rfl) rfl ?_
  refine AC 48 55 false _ rfl rfl rfl rfl ?_
  refine AC 48 55 false _ rfl rfl rfl rfl ?_
  refine AC 48 55 false _ rfl rfl rfl rfl ?_
  refine AC 48 55 false _ rfl rfl rfl rfl ?_
  refine AC 48 55 false _ rfl rfl rfl rfl ?_
  refine AC 48 55 false _ rfl rfl rfl rfl ?_
  refine AC 48 55 false _ rfl rfl rfl rfl ?_
  refine AC 48 55 false _ rfl rfl rfl rfl ?_
  refine AC 48 55 false _ rfl rfl rfl rfl ?_
  refine AA _ (A2 _ rfl rfl rfl) rfl ?_
  refine AN (AF (CO _ rfl rfl ?_))
  refine AK (AD (AA _ (AH rfl) rfl ?_))
  refine AN (AF (BK (A1 (BP [false, false] ?_))))
  show JQ _ _ _ _ []
  refine BJ (.bool false) (res1 Tryd.results51 (BH rfl)) fun w1 hw1 => ?_
  refine ⟨_, [], rfl, ⟨congrArg Value.bool ?_, rfl⟩, hw1.sub (by simp) (by simp)⟩
  refine (decide_eq_false (fun h => ?_)).symm
  obtain ⟨h1, h2, h3, h4, h5, h6, h7⟩ := h
  have h8 := congrArg List.length h6
  have h9 := congrArg List.length h7
  first | omega | contradiction | exact GA (FZ (i := i) (by omega)) (FZ (i := i) (by omega)) (by assumption) h6 | (simp_all; done)
 ·
  have hp1 : ¬ (pv ≠ pv2) := of_decide_eq_false hb1
  refine AP 5 12 false _ (Ptr nb1 1) rfl rfl hb1 (AB 1 22 1 BL rfl AX rfl rfl) rfl ?_
  refine AP 5 12 false _ (U64 ep) rfl rfl hb1 (AI rfl (AQ AY (AS 0 rfl (AG (AE (Seg.head)))))) rfl ?_
  refine AP 5 12 false _ (Ptr nb2 1) rfl rfl hb1 (AB 1 22 1 BL rfl AX rfl rfl) rfl ?_
  refine AP 5 12 false _ (U64 ep2) rfl rfl hb1 (AI rfl (AQ AY (AS 1 rfl (AG (AE (Seg.head)))))) rfl ?_
  refine AP 5 12 false _ (.bool (decide (ep ≠ ep2))) rfl rfl hb1 (AU rfl rfl fun _ => EQ ep ep2) rfl ?_
  refine AA _ (A0 _ rfl hb1 rfl) rfl ?_
  refine AA _ (AL rfl) rfl ?_
  rcases Bool.eq_false_or_eq_true (decide (ep ≠ ep2)) with hb2 | hb2
  ·
   have hp2 : ep ≠ ep2 := of_decide_eq_true hb2
   refine AC 12 19 false _ rfl rfl hb2 rfl ?_
   refine AC 12 19 false _ rfl rfl hb2 rfl ?_
   refine AC 12 19 false _ rfl rfl hb2 rfl ?_
   refine AC 12 19 false _ rfl rfl hb2 rfl ?_
   refine AC 12 19 false _ rfl rfl hb2 rfl ?_
   refine AA _ (A2 _ rfl hb2 rfl) rfl ?_
   refine AA _ (AL rfl) rfl ?_
   refine AC 19 26 false _ rfl rfl rfl rfl ?_
   refine AC 19 26 false _ rfl rfl rfl rfl ?_
   refine AC 19 26 false _ rfl rfl rfl rfl ?_
   refine AC 19 26 false _ rfl rfl rfl rfl ?_
   refine AC 19 26 false _ rfl rfl rfl rfl ?_
   refine AC 19 26 false _ rfl rfl rfl rfl ?_
   refine AC 19 26 false _ rfl rfl rfl rfl ?_
   refine AA _ (A2 _ rfl rfl rfl) rfl ?_
   refine AA _ (AL rfl) rfl ?_
   refine AC 28 35 false _ rfl rfl rfl rfl ?_
   refine AC 28 35 false _ rfl rfl rfl rfl ?_
   refine AC 28 35 false _ rfl rfl rfl rfl ?_
   refine AC 28 35 false _ rfl rfl rfl rfl ?_
   refine AC 28 35 false _ rfl rfl rfl rfl ?_
   refine AC 28 35 false _ rfl rfl rfl rfl ?_
   refine AC 28 35 false _ rfl rfl rfl rfl ?_
   refine AA _ (A2 _ rfl rfl rfl) rfl ?_
   refine AA _ (AL rfl) rfl ?_
   refine AC 37 44 false _ rfl rfl rfl rfl ?_
   refine AC 37 44 false _ rfl rfl rfl rfl ?_
   refine AC 37 44 false _ rfl rfl rfl rfl ?_
   refine AC 37 44 false _ rfl rfl rfl rfl ?_
   refine AC 37 44 false _ rfl rfl rfl rfl ?_
   refine AC 37 44 false _ rfl rfl rfl rfl ?_
   refine AC 37 44 false _ rfl rfl rfl rfl ?_
   refine AC 37 44 false _ rfl rfl rfl rfl ?_
   refine AC 37 44 false _ rfl rfl rfl rfl ?_
   refine AA _ (A2 _ rfl rfl rfl) rfl ?_
   refine AA _ (AL rfl) rfl ?_
   refine AC 48 55 false _ rfl rfl rfl rfl ?_
   refine AC 48 55 false _ rfl rfl rfl rfl ?_
   refine AC 48 55 false _ rfl rfl rfl rfl ?_
   refine AC 48 55 false _ rfl rfl rfl rfl ?_
   refine AC 48 55 false _ rfl rfl rfl rfl ?_
   refine AC 48 55 false _ rfl rfl rfl rfl ?_
   refine AC 48 55 false _ rfl rfl rfl rfl ?_
   refine AC 48 55 false _ rfl rfl rfl rfl ?_
   refine AC 48 55 false _ rfl rfl rfl rfl ?_
   refine AA _ (A2 _ rfl rfl rfl) rfl ?_
   refine AN (AF (CO _ rfl rfl ?_))
   refine AK (AD (AA _ (AH rfl) rfl ?_))
   refine AN (AF (BK (A1 (BP [false, false] ?_))))
   show JQ _ _ _ _ []
   refine BJ (.bool false) (res1 Tryd.results51 (BH rfl)) fun w1 hw1 => ?_
   refine ⟨_, [], rfl, ⟨congrArg Value.bool ?_, rfl⟩, hw1.sub (by simp) (by simp)⟩
   refine (decide_eq_false (fun h => ?_)).symm
   obtain ⟨h1, h2, h3, h4, h5, h6, h7⟩ := h
   have h8 := congrArg List.length h6
   have h9 := congrArg List.length h7
   first | omega | contradiction | exact GA (FZ (i := i) (by omega)) (FZ (i := i) (by omega)) (by assumption) h6 | (simp_all; done)
  ·
   have hp2 : ¬ (ep ≠ ep2) := of_decide_eq_false hb2
   refine AP 12 19 false _ (Ptr nb1 6) rfl rfl hb2 (AB 6 27 16 BL rfl CN rfl rfl) rfl ?_
   refine AP 12 19 false _ (.agg (cu8 tg).toArray) rfl rfl hb2 (AI rfl (BV DY CN (D7 htg) (AS 0 rfl (Seg.right 6 0 rfl rfl (AV _))))) rfl ?_
   refine AP 12 19 false _ (Ptr nb2 6) rfl rfl hb2 (AB 6 27 16 BL rfl CN rfl rfl) rfl ?_
   refine AP 12 19 false _ (.agg (cu8 tg2).toArray) rfl rfl hb2 (AI rfl (BV DY CN (D7 htg2) (AS 1 rfl (Seg.right 6 0 rfl rfl (AV _))))) rfl ?_
   refine AP 12 19 false _ (.bool (!(decide (tg = tg2)))) rfl rfl hb2 (E3 _ _ _ rfl rfl (fun _ => FF _ _ _ _ _ _ (by kernel_rfl)) fun _ => neq_arr8 C5 BA EC EN FC (by simp [htg]) (by simp [htg2])) rfl ?_
   refine AA _ (A0 _ rfl hb2 rfl) rfl ?_
   refine AA _ (AL rfl) rfl ?_
   rcases Bool.eq_false_or_eq_true (decide (tg = tg2)) with hb3 | hb3
   ·
    have hp3 : tg = tg2 := of_decide_eq_true hb3
    refine AP 19 26 false _ (Ptr nb1 2) rfl rfl (by rw [show (decide (tg = tg2)) = true from hb3] <;> rfl) (AB 2 36 4 BL rfl CU rfl rfl) rfl ?_
    refine AP 19 26 false _ (Ptr nb1 2) rfl rfl (by rw [show (decide (tg = tg2)) = true from hb3] <;> rfl) (AB 0 3 1 BF rfl AR rfl rfl) rfl ?_
    refine AP 19 26 false _ (I64 (kd)) rfl rfl (by rw [show (decide (tg = tg2)) = true from hb3] <;> rfl) (AI rfl (AQ AT (AS 0 rfl (AG (AE (AE (Seg.head))))))) rfl ?_
    refine AP 19 26 false _ (Ptr nb2 2) rfl rfl (by rw [show (decide (tg = tg2)) = true from hb3] <;> rfl) (AB 2 36 4 BL rfl CU rfl rfl) rfl ?_
    refine AP 19 26 false _ (Ptr nb2 2) rfl rfl (by rw [show (decide (tg = tg2)) = true from hb3] <;> rfl) (AB 0 3 1 BF rfl AR rfl rfl) rfl ?_
    refine AP 19 26 false _ (I64 (kd2)) rfl rfl (by rw [show (decide (tg = tg2)) = true from hb3] <;> rfl) (AI rfl (AQ AT (AS 1 rfl (AG (AE (AE (Seg.head))))))) rfl ?_
    refine AP 19 26 false _ (.bool (decide ((kd) ≠ (kd2)))) rfl rfl (by rw [show (decide (tg = tg2)) = true from hb3] <;> rfl) (AU rfl rfl fun _ => EO _ _) rfl ?_
    refine AA _ (A0 _ rfl (by rw [show (decide (tg = tg2)) = true from hb3] <;> rfl) rfl) rfl ?_
    refine AA _ (AL rfl) rfl ?_
    rcases Bool.eq_false_or_eq_true (decide ((kd) ≠ (kd2))) with hb4 | hb4
    ·
     have hp4 : (kd) ≠ (kd2) := of_decide_eq_true hb4
     refine AC 28 35 false _ rfl rfl hb4 rfl ?_
     refine AC 28 35 false _ rfl rfl hb4 rfl ?_
     refine AC 28 35 false _ rfl rfl hb4 rfl ?_
     refine AC 28 35 false _ rfl rfl hb4 rfl ?_
     refine AC 28 35 false _ rfl rfl hb4 rfl ?_
     refine AC 28 35 false _ rfl rfl hb4 rfl ?_
     refine AC 28 35 false _ rfl rfl hb4 rfl ?_
     refine AA _ (A2 _ rfl hb4 rfl) rfl ?_
     refine AA _ (AL rfl) rfl ?_
     refine AC 37 44 false _ rfl rfl rfl rfl ?_
     refine AC 37 44 false _ rfl rfl rfl rfl ?_
     refine AC 37 44 false _ rfl rfl rfl rfl ?_
     refine AC 37 44 false _ rfl rfl rfl rfl ?_
     refine AC 37 44 false _ rfl rfl rfl rfl ?_
     refine AC 37 44 false _ rfl rfl rfl rfl ?_
     refine AC 37 44 false _ rfl rfl rfl rfl ?_
     refine AC 37 44 false _ rfl rfl rfl rfl ?_
     refine AC 37 44 false _ rfl rfl rfl rfl ?_
     refine AA _ (A2 _ rfl rfl rfl) rfl ?_
     refine AA _ (AL rfl) rfl ?_
     refine AC 48 55 false _ rfl rfl rfl rfl ?_
     refine AC 48 55 false _ rfl rfl rfl rfl ?_
     refine AC 48 55 false _ rfl rfl rfl rfl ?_
     refine AC 48 55 false _ rfl rfl rfl rfl ?_
     refine AC 48 55 false _ rfl rfl rfl rfl ?_
     refine AC 48 55 false _ rfl rfl rfl rfl ?_
     refine AC 48 55 false _ rfl rfl rfl rfl ?_
     refine AC 48 55 false _ rfl rfl rfl rfl ?_
     refine AC 48 55 false _ rfl rfl rfl rfl ?_
     refine AA _ (A2 _ rfl rfl rfl) rfl ?_
     refine AN (AF (CO _ rfl rfl ?_))
     refine AK (AD (AA _ (AH rfl) rfl ?_))
     refine AN (AF (BK (A1 (BP [false, false] ?_))))
     show JQ _ _ _ _ []
     refine BJ (.bool false) (res1 Tryd.results51 (BH rfl)) fun w1 hw1 => ?_
     refine ⟨_, [], rfl, ⟨congrArg Value.bool ?_, rfl⟩, hw1.sub (by simp) (by simp)⟩
     refine (decide_eq_false (fun h => ?_)).symm
     obtain ⟨h1, h2, h3, h4, h5, h6, h7⟩ := h
     have h8 := congrArg List.length h6
     have h9 := congrArg List.length h7
     first | omega | contradiction | exact GA (FZ (i := i) (by omega)) (FZ (i := i) (by omega)) (by assumption) h6 | (simp_all; done)
    ·
     have hp4 : ¬ ((kd) ≠ (kd2)) := of_decide_eq_false hb4
     refine AP 28 35 false _ (Ptr nb1 2) rfl rfl hb4 (AB 2 36 4 BL rfl CU rfl rfl) rfl ?_
     refine AP 28 35 false _ (Ptr nb1 5) rfl rfl hb4 (AB 3 22 1 BF rfl AX rfl rfl) rfl ?_
     refine AP 28 35 false _ (U64 bl) rfl rfl hb4 (AI rfl (AQ AY (AS 0 rfl (AG (AE (AE (AE (AE (AE (Seg.head)))))))))) rfl ?_
     refine AP 28 35 false _ (Ptr nb2 2) rfl rfl hb4 (AB 2 36 4 BL rfl CU rfl rfl) rfl ?_
     refine AP 28 35 false _ (Ptr nb2 5) rfl rfl hb4 (AB 3 22 1 BF rfl AX rfl rfl) rfl ?_
     refine AP 28 35 false _ (U64 bl2) rfl rfl hb4 (AI rfl (AQ AY (AS 1 rfl (AG (AE (AE (AE (AE (AE (Seg.head)))))))))) rfl ?_
     refine AP 28 35 false _ (.bool (decide (bl ≠ bl2))) rfl rfl hb4 (AU rfl rfl fun _ => EQ bl bl2) rfl ?_
     refine AA _ (A0 _ rfl hb4 rfl) rfl ?_
     refine AA _ (AL rfl) rfl ?_
     rcases Bool.eq_false_or_eq_true (decide (bl ≠ bl2)) with hb5 | hb5
     ·
      have hp5 : bl ≠ bl2 := of_decide_eq_true hb5
      refine AC 37 44 false _ rfl rfl hb5 rfl ?_
      refine AC 37 44 false _ rfl rfl hb5 rfl ?_
      refine AC 37 44 false _ rfl rfl hb5 rfl ?_
      refine AC 37 44 false _ rfl rfl hb5 rfl ?_
      refine AC 37 44 false _ rfl rfl hb5 rfl ?_
      refine AC 37 44 false _ rfl rfl hb5 rfl ?_
      refine AC 37 44 false _ rfl rfl hb5 rfl ?_
      refine AC 37 44 false _ rfl rfl hb5 rfl ?_
      refine AC 37 44 false _ rfl rfl hb5 rfl ?_
      refine AA _ (A2 _ rfl hb5 rfl) rfl ?_
      refine AA _ (AL rfl) rfl ?_
      refine AC 48 55 false _ rfl rfl rfl rfl ?_
      refine AC 48 55 false _ rfl rfl rfl rfl ?_
      refine AC 48 55 false _ rfl rfl rfl rfl ?_
      refine AC 48 55 false _ rfl rfl rfl rfl ?_
      refine AC 48 55 false _ rfl rfl rfl rfl ?_
      refine AC 48 55 false _ rfl rfl rfl rfl ?_
      refine AC 48 55 false _ rfl rfl rfl rfl ?_
      refine AC 48 55 false _ rfl rfl rfl rfl ?_
      refine AC 48 55 false _ rfl rfl rfl rfl ?_
      refine AA _ (A2 _ rfl rfl rfl) rfl ?_
      refine AN (AF (CO _ rfl rfl ?_))
      refine AK (AD (AA _ (AH rfl) rfl ?_))
      refine AN (AF (BK (A1 (BP [false, false] ?_))))
      show JQ _ _ _ _ []
      refine BJ (.bool false) (res1 Tryd.results51 (BH rfl)) fun w1 hw1 => ?_
      refine ⟨_, [], rfl, ⟨congrArg Value.bool ?_, rfl⟩, hw1.sub (by simp) (by simp)⟩
      refine (decide_eq_false (fun h => ?_)).symm
      obtain ⟨h1, h2, h3, h4, h5, h6, h7⟩ := h
      have h8 := congrArg List.length h6
      have h9 := congrArg List.length h7
      first | omega | contradiction | exact GA (FZ (i := i) (by omega)) (FZ (i := i) (by omega)) (by assumption) h6 | (simp_all; done)
     ·
      have hp5 : ¬ (bl ≠ bl2) := of_decide_eq_false hb5
      refine AP 37 44 false _ (Ptr nb1 2) rfl rfl hb5 (AB 2 36 4 BL rfl CU rfl rfl) rfl ?_
      refine AP 37 44 false _ (Ptr nb1 3) rfl rfl hb5 (AB 1 23 1 BF rfl DG rfl rfl) rfl ?_
      refine AP 37 44 false _ (SL ai ni ci) rfl rfl hb5 (AI rfl (AQ DL (AS 0 rfl (AG (AE (AE (AE (Seg.head)))))))) rfl ?_
      refine AP 37 44 false _ (I64 ni) rfl rfl hb5 (CY BW rfl) rfl ?_
      refine AP 37 44 false _ (Ptr nb2 2) rfl rfl hb5 (AB 2 36 4 BL rfl CU rfl rfl) rfl ?_
      refine AP 37 44 false _ (Ptr nb2 3) rfl rfl hb5 (AB 1 23 1 BF rfl DG rfl rfl) rfl ?_
      refine AP 37 44 false _ (SL ai2 ni2 ci2) rfl rfl hb5 (AI rfl (AQ DL (AS 1 rfl (AG (AE (AE (AE (Seg.head)))))))) rfl ?_
      refine AP 37 44 false _ (I64 ni2) rfl rfl hb5 (CY BW rfl) rfl ?_
      refine AP 37 44 false _ (.bool (decide (((ni:Int)) ≠ ((ni2:Int))))) rfl rfl hb5 (AU rfl rfl fun _ => EO _ _) rfl ?_
      refine AA _ (A0 _ rfl hb5 rfl) rfl ?_
      refine AA _ (AL rfl) rfl ?_
      rcases Bool.eq_false_or_eq_true (decide (((ni:Int)) ≠ ((ni2:Int)))) with hb6 | hb6
      ·
       have hp6 : ((ni:Int)) ≠ ((ni2:Int)) := of_decide_eq_true hb6
       refine AC 48 55 false _ rfl rfl hb6 rfl ?_
       refine AC 48 55 false _ rfl rfl hb6 rfl ?_
       refine AC 48 55 false _ rfl rfl hb6 rfl ?_
       refine AC 48 55 false _ rfl rfl hb6 rfl ?_
       refine AC 48 55 false _ rfl rfl hb6 rfl ?_
       refine AC 48 55 false _ rfl rfl hb6 rfl ?_
       refine AC 48 55 false _ rfl rfl hb6 rfl ?_
       refine AC 48 55 false _ rfl rfl hb6 rfl ?_
       refine AC 48 55 false _ rfl rfl hb6 rfl ?_
       refine AA _ (A2 _ rfl hb6 rfl) rfl ?_
       refine AN (AF (CO _ rfl rfl ?_))
       refine AK (AD (AA _ (AH rfl) rfl ?_))
       refine AN (AF (BK (A1 (BP [false, false] ?_))))
       show JQ _ _ _ _ []
       refine BJ (.bool false) (res1 Tryd.results51 (BH rfl)) fun w1 hw1 => ?_
       refine ⟨_, [], rfl, ⟨congrArg Value.bool ?_, rfl⟩, hw1.sub (by simp) (by simp)⟩
       refine (decide_eq_false (fun h => ?_)).symm
       obtain ⟨h1, h2, h3, h4, h5, h6, h7⟩ := h
       have h8 := congrArg List.length h6
       have h9 := congrArg List.length h7
       first | omega | contradiction | exact GA (FZ (i := i) (by omega)) (FZ (i := i) (by omega)) (by assumption) h6 | (simp_all; done)
      ·
       have hp6 : ¬ (((ni:Int)) ≠ ((ni2:Int))) := of_decide_eq_false hb6
       refine AP 48 55 false _ (Ptr nb1 2) rfl rfl hb6 (AB 2 36 4 BL rfl CU rfl rfl) rfl ?_
       refine AP 48 55 false _ (Ptr nb1 4) rfl rfl hb6 (AB 2 34 1 BF rfl DF rfl rfl) rfl ?_
       refine AP 48 55 false _ (SL sa ns sc) rfl rfl hb6 (AI rfl (AQ DW (AS 0 rfl (AG (AE (AE (AE (AE (Seg.head))))))))) rfl ?_
       refine AP 48 55 false _ (I64 ns) rfl rfl hb6 (CY C9 rfl) rfl ?_
       refine AP 48 55 false _ (Ptr nb2 2) rfl rfl hb6 (AB 2 36 4 BL rfl CU rfl rfl) rfl ?_
       refine AP 48 55 false _ (Ptr nb2 4) rfl rfl hb6 (AB 2 34 1 BF rfl DF rfl rfl) rfl ?_
       refine AP 48 55 false _ (SL sa2 ns2 sc2) rfl rfl hb6 (AI rfl (AQ DW (AS 1 rfl (AG (AE (AE (AE (AE (Seg.head))))))))) rfl ?_
       refine AP 48 55 false _ (I64 ns2) rfl rfl hb6 (CY C9 rfl) rfl ?_
       refine AP 48 55 false _ (.bool (decide (((ns:Int)) ≠ ((ns2:Int))))) rfl rfl hb6 (AU rfl rfl fun _ => EO _ _) rfl ?_
       refine AA _ (A0 _ rfl hb6 rfl) rfl ?_
       refine AN (AF (CI (decide (((ns:Int)) ≠ ((ns2:Int)))) rfl (fun hb7 => ?_) (fun hb7 => ?_)))
       ·
        have hp7 : ((ns:Int)) ≠ ((ns2:Int)) := of_decide_eq_true hb7
        refine AK (AD (AA _ (AH rfl) rfl ?_))
        refine AN (AF (BK (A1 (BP [false, false] ?_))))
        show JQ _ _ _ _ []
        refine BJ (.bool false) (res1 Tryd.results51 (BH rfl)) fun w1 hw1 => ?_
        refine ⟨_, [], rfl, ⟨congrArg Value.bool ?_, rfl⟩, hw1.sub (by simp) (by simp)⟩
        refine (decide_eq_false (fun h => ?_)).symm
        obtain ⟨h1, h2, h3, h4, h5, h6, h7⟩ := h
        have h8 := congrArg List.length h6
        have h9 := congrArg List.length h7
        first | omega | contradiction | exact GA (FZ (i := i) (by omega)) (FZ (i := i) (by omega)) (by assumption) h6 | (simp_all; done)
       ·
        have hp7 : ¬ (((ns:Int)) ≠ ((ns2:Int))) := of_decide_eq_false hb7
        refine BE (AF (AK (AK (AD (AA _ (AH rfl) rfl ?_)))))
        refine AN (AF (B2 (DV (ι := Nat) (fun i => [(2, Ptr nb1 0), (3, Ptr nb2 0), (5, I64 i)]) (fun i => [⟨nb1, [U64 pv, U64 ep, I64 (kd), SL ai ni ci, SL sa ns sc, U64 bl] ++ cu8 tg, 38, (0, 0)⟩, ⟨nb2, [U64 pv2, U64 ep2, I64 (kd2), SL ai2 ni2 ci2, SL sa2 ns2 sc2, U64 bl2] ++ cu8 tg2, 38, (0, 0)⟩]) (fun i => i ≤ ni ∧ ∀ k, k < i → ∀ x y, l[k]? = some x → l2[k]? = some y → x = y) (fun i => ni - i) 0 ⟨by omega, fun k hk => absurd hk (by omega)⟩ (Sub.all rfl) rfl ?_)))
        rintro i ⟨hi1, hi2⟩
        show JC _ _ _ [(2, Ptr nb1 0), (3, Ptr nb2 0), (5, I64 i)] [⟨nb1, [U64 pv, U64 ep, I64 (kd), SL ai ni ci, SL sa ns sc, U64 bl] ++ cu8 tg, 38, (0, 0)⟩, ⟨nb2, [U64 pv2, U64 ep2, I64 (kd2), SL ai2 ni2 ci2, SL sa2 ns2 sc2, U64 bl2] ++ cu8 tg2, 38, (0, 0)⟩]
        refine AK (AK (AD (AA _ (AL rfl) rfl ?_)))
        refine AA (Ptr nb1 2) (AB 2 36 4 BL rfl CU rfl rfl) rfl ?_
        refine AA (Ptr nb1 3) (AB 1 23 1 BF rfl DG rfl rfl) rfl ?_
        refine AA (SL ai ni ci) (AI rfl (AQ DL (AS 0 rfl (AG (AE (AE (AE (Seg.head)))))))) rfl ?_
        refine AA (I64 ni) (CY BW rfl) rfl ?_
        refine AA (.bool (decide (((i:Int)) < ((ni:Int))))) (AU rfl rfl fun _ => CR _ _) rfl ?_
        refine AN (AF (CI (decide (((i:Int)) < ((ni:Int)))) rfl (fun hb8 => ?_) (fun hb8 => ?_)))
        ·
         have hp8 : ((i:Int)) < ((ni:Int)) := of_decide_eq_true hb8
         refine BE (AF (AK (B2 (AK ?_))))
         obtain ⟨bz1, oz1, hz1, hm1⟩ := RdV.pos hv (by rw [FP, hl]; omega)
         obtain ⟨bz2, oz2, hz2, hm2⟩ := RdV.pos hv2 (by rw [FP, hl2]; omega)
         refine DH 108 1 [(0, Ptr nb1 2), (1, Ptr nb1 3), (2, SL ai ni ci), (3, I64 i), (4, Ptr bz1 (i + oz1)), (5, U64 (g64 l i)), (6, Ptr nb2 2), (7, Ptr nb2 3), (8, SL ai2 ni2 ci2), (9, I64 i), (10, Ptr bz2 (i + oz2)), (11, U64 (g64 l2 i)), (12, .bool (decide ((g64 l i) ≠ (g64 l2 i))))] B8 rfl (by decide +kernel) ?_
         refine DN ⟨[], [0, 1, 2, 3, 4, 5, 6, 7, 8, 9, 10, 11, 12], [], [0, 1, 2, 3, 4, 5, 6, 7, 8, 9, 10, 11, 12], []⟩ rfl rfl (by decide +kernel) rfl ⟨⟨_, rfl, AJ rfl (AB 2 36 4 BL rfl CU rfl rfl)⟩, ⟨_, rfl, AJ rfl (AB 1 23 1 BF rfl DG rfl rfl)⟩, ⟨_, rfl, AJ rfl (AI rfl (AQ DL (AS 0 rfl (AG (AE (AE (AE (Seg.head))))))))⟩, CD rfl rfl rfl, ⟨_, rfl, AJ rfl (B4 22 1 (i + oz1) BW AX rfl hz1 rfl (by omega) (by omega) (by omega))⟩, ⟨_, rfl, AJ rfl (AI rfl (AQ AY (CK (hm1.mem (by simp)) (Seg.get (g64_get (i := i) (by rw [hl]; omega))) (by omega))))⟩, ⟨_, rfl, AJ rfl (AB 2 36 4 BL rfl CU rfl rfl)⟩, ⟨_, rfl, AJ rfl (AB 1 23 1 BF rfl DG rfl rfl)⟩, ⟨_, rfl, AJ rfl (AI rfl (AQ DL (AS 1 rfl (AG (AE (AE (AE (Seg.head))))))))⟩, CD rfl rfl rfl, ⟨_, rfl, AJ rfl (B4 22 1 (i + oz2) BW AX rfl hz2 rfl (by omega) (by omega) (by omega))⟩, ⟨_, rfl, AJ rfl (AI rfl (AQ AY (CK (hm2.mem (by simp)) (Seg.get (g64_get (i := i) (by rw [hl2]; omega))) (by omega))))⟩, ⟨_, rfl, AJ rfl (AU rfl rfl fun _ => EQ (g64 l i) (g64 l2 i))⟩, trivial⟩ ?_
         refine C7 (F' := [(74, Ptr nb1 2), (75, Ptr nb1 3), (76, SL ai ni ci), (77, I64 i), (78, Ptr bz1 (i + oz1)), (79, U64 (g64 l i)), (80, Ptr nb2 2), (81, Ptr nb2 3), (82, SL ai2 ni2 ci2), (83, I64 i), (84, Ptr bz2 (i + oz2)), (85, U64 (g64 l2 i)), (86, .bool (decide ((g64 l i) ≠ (g64 l2 i)))), (2, Ptr nb1 0), (3, Ptr nb2 0), (5, I64 i), (66, I64 i), (67, Ptr nb1 2), (68, Ptr nb1 3), (69, SL ai ni ci), (70, I64 ni), (71, .bool (decide (((i:Int)) < ((ni:Int)))))]) (by kernel_rfl) ?_
         refine AF (CI (decide ((g64 l i) ≠ (g64 l2 i))) rfl (fun hb9 => ?_) (fun hb9 => ?_))
         ·
          have hp9 : (g64 l i) ≠ (g64 l2 i) := of_decide_eq_true hb9
          refine AK (AD (AA _ (AH rfl) rfl ?_))
          refine AN (AF (BK (CT (A1 (A1 (CT (A1 (BP [false, false] ?_))))))))
          show JQ _ _ _ _ []
          refine BJ (.bool false) (res1 Tryd.results51 (BH rfl)) fun w1 hw1 => ?_
          refine ⟨_, [], rfl, ⟨congrArg Value.bool ?_, rfl⟩, hw1.sub (by simp) (by simp)⟩
          refine (decide_eq_false (fun h => ?_)).symm
          obtain ⟨h1, h2, h3, h4, h5, h6, h7⟩ := h
          have h8 := congrArg List.length h6
          have h9 := congrArg List.length h7
          first | omega | contradiction | exact GA (FZ (i := i) (by omega)) (FZ (i := i) (by omega)) (by assumption) h6 | (simp_all; done)
         ·
          have hp9 : ¬ ((g64 l i) ≠ (g64 l2 i)) := of_decide_eq_false hb9
          refine BE (BY (AF (AD (AA _ (AL rfl) rfl ?_))))
          refine AA (I64 ((i:Int) + 1)) (AU rfl rfl fun _ => DE _ _ ((i:Int) + 1) (by omega) (by omega)) rfl ?_
          refine AA _ (AH rfl) rfl ?_
          refine AN (DK (EM (i + 1) ⟨by omega, eq_step (FZ (i := i) (by omega)) (FZ (i := i) (by omega)) (Classical.not_not.1 (by assumption)) hi2⟩ (by first | (simp; omega) | simp | (dsimp only; omega) | omega) (Sub.all rfl) rfl))
        ·
         have hp8 : ¬ (((i:Int)) < ((ni:Int))) := of_decide_eq_false hb8
         refine DU (A5 (A5 (CQ (AF (AK (AK (AD (AA _ (AH rfl) rfl ?_))))))))
         refine AN (AF (B2 (DV (ι := Nat) (fun j => [(2, Ptr nb1 0), (3, Ptr nb2 0), (6, I64 j)]) (fun j => [⟨nb1, [U64 pv, U64 ep, I64 (kd), SL ai ni ci, SL sa ns sc, U64 bl] ++ cu8 tg, 38, (0, 0)⟩, ⟨nb2, [U64 pv2, U64 ep2, I64 (kd2), SL ai2 ni2 ci2, SL sa2 ns2 sc2, U64 bl2] ++ cu8 tg2, 38, (0, 0)⟩]) (fun j => j ≤ ns ∧ ∀ k, k < j → ∀ x y, ls[k]? = some x → ls2[k]? = some y → x = y) (fun j => ns - j) 0 ⟨by omega, fun k hk => absurd hk (by omega)⟩ (Sub.all rfl) rfl ?_)))
         rintro j ⟨hj1, hj2⟩
         show JC _ _ _ [(2, Ptr nb1 0), (3, Ptr nb2 0), (6, I64 j)] [⟨nb1, [U64 pv, U64 ep, I64 (kd), SL ai ni ci, SL sa ns sc, U64 bl] ++ cu8 tg, 38, (0, 0)⟩, ⟨nb2, [U64 pv2, U64 ep2, I64 (kd2), SL ai2 ni2 ci2, SL sa2 ns2 sc2, U64 bl2] ++ cu8 tg2, 38, (0, 0)⟩]
         refine AK (AK (AD (AA _ (AL rfl) rfl ?_)))
         refine AA (Ptr nb1 2) (AB 2 36 4 BL rfl CU rfl rfl) rfl ?_
         refine AA (Ptr nb1 4) (AB 2 34 1 BF rfl DF rfl rfl) rfl ?_
         refine AA (SL sa ns sc) (AI rfl (AQ DW (AS 0 rfl (AG (AE (AE (AE (AE (Seg.head))))))))) rfl ?_
         refine AA (I64 ns) (CY C9 rfl) rfl ?_
         refine AA (.bool (decide (((j:Int)) < ((ns:Int))))) (AU rfl rfl fun _ => CR _ _) rfl ?_
         refine AN (AF (CI (decide (((j:Int)) < ((ns:Int)))) rfl (fun hb10 => ?_) (fun hb10 => ?_)))
         ·
          have hp10 : ((j:Int)) < ((ns:Int)) := of_decide_eq_true hb10
          refine BE (AF (AK (B2 (AK ?_))))
          obtain ⟨x1, hx1⟩ : ∃ x, ls[j]? = some x := ⟨_, List.getElem?_eq_getElem (by rw [hls]; omega)⟩
          obtain ⟨bz3, oz3, hz3, hm3⟩ := E4 FB (by decide) hs hx1
          obtain ⟨x2, hx2⟩ : ∃ x, ls2[j]? = some x := ⟨_, List.getElem?_eq_getElem (by rw [hls2]; omega)⟩
          obtain ⟨bz4, oz4, hz4, hm4⟩ := E4 FB (by decide) hs2 hx2
          refine DH 108 1 [(0, Ptr nb1 2), (1, Ptr nb1 4), (2, SL sa ns sc), (3, I64 j), (4, Ptr bz3 (49*j + oz3)), (5, .agg ([U64 x1.e] ++ cu8 x1.d ++ cu8 x1.t).toArray), (6, Ptr nb2 2), (7, Ptr nb2 4), (8, SL sa2 ns2 sc2), (9, I64 j), (10, Ptr bz4 (49*j + oz4)), (11, .agg ([U64 x2.e] ++ cu8 x2.d ++ cu8 x2.t).toArray), (12, .bool (!(decide (x1.e = x2.e ∧ x1.d = x2.d ∧ x1.t = x2.t))))] B8 rfl (by decide +kernel) ?_
          refine DN ⟨[], [0, 1, 2, 3, 4, 5, 6, 7, 8, 9, 10, 11, 12], [], [0, 1, 2, 3, 4, 5, 6, 7, 8, 9, 10, 11, 12], []⟩ rfl rfl (by decide +kernel) rfl ⟨⟨_, rfl, AJ rfl (AB 2 36 4 BL rfl CU rfl rfl)⟩, ⟨_, rfl, AJ rfl (AB 2 34 1 BF rfl DF rfl rfl)⟩, ⟨_, rfl, AJ rfl (AI rfl (AQ DW (AS 0 rfl (AG (AE (AE (AE (AE (Seg.head)))))))))⟩, CD rfl rfl rfl, ⟨_, rfl, AJ rfl (B4 164 49 (49*j + oz3) C9 C8 rfl hz3 rfl (by omega) (by omega) (by omega))⟩, ⟨_, rfl, AJ rfl (AI rfl (BV Tryd.isAgg164 C8 (by simp [x1.hd, x1.ht]) (CK (hm3.mem (by simp)) (AV _) (by omega))))⟩, ⟨_, rfl, AJ rfl (AB 2 36 4 BL rfl CU rfl rfl)⟩, ⟨_, rfl, AJ rfl (AB 2 34 1 BF rfl DF rfl rfl)⟩, ⟨_, rfl, AJ rfl (AI rfl (AQ DW (AS 1 rfl (AG (AE (AE (AE (AE (Seg.head)))))))))⟩, CD rfl rfl rfl, ⟨_, rfl, AJ rfl (B4 164 49 (49*j + oz4) C9 C8 rfl hz4 rfl (by omega) (by omega) (by omega))⟩, ⟨_, rfl, AJ rfl (AI rfl (BV Tryd.isAgg164 C8 (by simp [x2.hd, x2.ht]) (CK (hm4.mem (by simp)) (AV _) (by omega))))⟩, ⟨_, rfl, AJ rfl (E3 _ _ _ rfl rfl (fun _ => FF _ _ _ _ _ _ (by kernel_rfl)) (neq_struct (x1.e = x2.e ∧ x1.d = x2.d ∧ x1.t = x2.t) (F8 (d := 9999) (by kernel_rfl) (by kernel_rfl) (by kernel_rfl) (EqRs.cons 22 0 (U64 x1.e) (U64 x2.e) _ _ _ (PartV.one AY (AG (AG (Seg.head)))) (PartV.one AY (AG (AG (Seg.head)))) (EqV.u64 (d := 9998) A3 x1.e x2.e) (EqRs.cons 159 1 (.agg (cu8 x1.d).toArray) (.agg (cu8 x2.d).toArray) _ _ _ (PartV.agg E8 ED (E9 (AG (Seg.right 1 0 rfl rfl (AV _))) (D7 x1.hd) (by omega))) (PartV.agg E8 ED (E9 (AG (Seg.right 1 0 rfl rfl (AV _))) (D7 x2.hd) (by omega))) (EqV.arr8 (d := 9997) D0 BA EC EN FC (by simp [x1.hd]) (by simp [x2.hd])) (EqRs.last 27 33 (.agg (cu8 x1.t).toArray) (.agg (cu8 x2.t).toArray) _ (PartV.agg DY CN (E9 (Seg.right 33 0 (by simp [x1.hd]) rfl (AV _)) (D7 x1.ht) (by omega))) (PartV.agg DY CN (E9 (Seg.right 33 0 (by simp [x2.hd]) rfl (AV _)) (D7 x2.ht) (by omega))) (EqV.arr8 (d := 9997) C5 BA EC EN FC (by simp [x1.ht]) (by simp [x2.ht])))))) (by first | rfl | (simp only [Bool.decide_and, Bool.and_assoc]; done) | (simp [Bool.and_assoc]; done))))⟩, trivial⟩ ?_
          refine C7 (F' := [(95, Ptr nb1 2), (96, Ptr nb1 4), (97, SL sa ns sc), (98, I64 j), (99, Ptr bz3 (49*j + oz3)), (100, .agg ([U64 x1.e] ++ cu8 x1.d ++ cu8 x1.t).toArray), (101, Ptr nb2 2), (102, Ptr nb2 4), (103, SL sa2 ns2 sc2), (104, I64 j), (105, Ptr bz4 (49*j + oz4)), (106, .agg ([U64 x2.e] ++ cu8 x2.d ++ cu8 x2.t).toArray), (107, .bool (!(decide (x1.e = x2.e ∧ x1.d = x2.d ∧ x1.t = x2.t)))), (2, Ptr nb1 0), (3, Ptr nb2 0), (6, I64 j), (87, I64 j), (88, Ptr nb1 2), (89, Ptr nb1 4), (90, SL sa ns sc), (91, I64 ns), (92, .bool (decide (((j:Int)) < ((ns:Int)))))]) (by kernel_rfl) ?_
          refine AF (CI (!(decide (x1.e = x2.e ∧ x1.d = x2.d ∧ x1.t = x2.t))) rfl (fun hb11 => ?_) (fun hb11 => ?_))
          ·
           have hb12 : (decide (x1.e = x2.e ∧ x1.d = x2.d ∧ x1.t = x2.t)) = false := by first | simpa using hb11 | exact Eq.mp (Bool.not_eq_true' _) hb11
           have hp12 : ¬ (x1.e = x2.e ∧ x1.d = x2.d ∧ x1.t = x2.t) := of_decide_eq_false hb12
           refine AK (AD (AA _ (AH rfl) rfl ?_))
           refine AN (AF (BK (CT (A1 (A1 (CT (A1 (BP [false, false] ?_))))))))
           show JQ _ _ _ _ []
           refine BJ (.bool false) (res1 Tryd.results51 (BH rfl)) fun w1 hw1 => ?_
           refine ⟨_, [], rfl, ⟨congrArg Value.bool ?_, rfl⟩, hw1.sub (by simp) (by simp)⟩
           refine (decide_eq_false (fun h => ?_)).symm
           obtain ⟨h1, h2, h3, h4, h5, h6, h7⟩ := h
           exact GA hx1 hx2 (fun e => (by assumption : ¬ _) ((SealR.eq_iff _ _).1 e)) h7
          ·
           have hb13 : (decide (x1.e = x2.e ∧ x1.d = x2.d ∧ x1.t = x2.t)) = true := by first | simpa using hb11 | exact Eq.mp (Bool.not_eq_false' _) hb11
           have hp13 : x1.e = x2.e ∧ x1.d = x2.d ∧ x1.t = x2.t := of_decide_eq_true hb13
           refine BE (BY (AF (AD (AA _ (AL rfl) rfl ?_))))
           refine AA (I64 ((j:Int) + 1)) (AU rfl rfl fun _ => DE _ _ ((j:Int) + 1) (by omega) (by omega)) rfl ?_
           refine AA _ (AH rfl) rfl ?_
           refine AN (DK (EM (j + 1) ⟨by omega, eq_step hx1 hx2 ((SealR.eq_iff _ _).2 (by first | assumption | exact Classical.not_not.1 (by assumption))) hj2⟩ (by first | (simp; omega) | simp | (dsimp only; omega) | omega) (Sub.all rfl) rfl))
         ·
          have hp10 : ¬ (((j:Int)) < ((ns:Int))) := of_decide_eq_false hb10
          refine DU (A5 (A5 (CQ (AF (AK (AD (AA _ (AH rfl) rfl ?_)))))))
          refine AN (AF (BK (BP [false, false] ?_)))
          show JQ _ _ _ _ []
          refine BJ (.bool true) (res1 Tryd.results51 (BH rfl)) fun w1 hw1 => ?_
          refine ⟨_, [], rfl, ⟨congrArg Value.bool ?_, rfl⟩, hw1.sub (by simp) (by simp)⟩
          have e1 : l = l2 := list_eq (by omega) (by rw [hl]; intro k hk; exact hi2 k (by omega))
          have e2 : ls = ls2 := list_eq (by omega) (by rw [hls]; intro k hk; exact hj2 k (by omega))
          exact (decide_eq_true (by simp_all)).symm
   ·
    have hp3 : ¬ (tg = tg2) := of_decide_eq_false hb3
    refine AC 19 26 false _ rfl rfl (by rw [show (decide (tg = tg2)) = false from hb3] <;> rfl) rfl ?_
    refine AC 19 26 false _ rfl rfl (by rw [show (decide (tg = tg2)) = false from hb3] <;> rfl) rfl ?_
    refine AC 19 26 false _ rfl rfl (by rw [show (decide (tg = tg2)) = false from hb3] <;> rfl) rfl ?_
    refine AC 19 26 false _ rfl rfl (by rw [show (decide (tg = tg2)) = false from hb3] <;> rfl) rfl ?_
    refine AC 19 26 false _ rfl rfl (by rw [show (decide (tg = tg2)) = false from hb3] <;> rfl) rfl ?_
    refine AC 19 26 false _ rfl rfl (by rw [show (decide (tg = tg2)) = false from hb3] <;> rfl) rfl ?_
    refine AC 19 26 false _ rfl rfl (by rw [show (decide (tg = tg2)) = false from hb3] <;> rfl) rfl ?_
    refine AA _ (A2 _ rfl (by rw [show (decide (tg = tg2)) = false from hb3] <;> rfl) rfl) rfl ?_
    refine AA _ (AL rfl) rfl ?_
    refine AC 28 35 false _ rfl rfl rfl rfl ?_
    refine AC 28 35 false _ rfl rfl rfl rfl ?_
    refine AC 28 35 false _ rfl rfl rfl rfl ?_
    refine AC 28 35 false _ rfl rfl rfl rfl ?_
    refine AC 28 35 false _ rfl rfl rfl rfl ?_
    refine AC 28 35 false _ rfl rfl rfl rfl ?_
    refine AC 28 35 false _ rfl rfl rfl rfl ?_
    refine AA _ (A2 _ rfl rfl rfl) rfl ?_
    refine AA _ (AL rfl) rfl ?_
    refine AC 37 44 false _ rfl rfl rfl rfl ?_
    refine AC 37 44 false _ rfl rfl rfl rfl ?_
    refine AC 37 44 false _ rfl rfl rfl rfl ?_
    refine AC 37 44 false _ rfl rfl rfl rfl ?_
    refine AC 37 44 false _ rfl rfl rfl rfl ?_
    refine AC 37 44 false _ rfl rfl rfl rfl ?_
    refine AC 37 44 false _ rfl rfl rfl rfl ?_
    refine AC 37 44 false _ rfl rfl rfl rfl ?_
    refine AC 37 44 false _ rfl rfl rfl rfl ?_
    refine AA _ (A2 _ rfl rfl rfl) rfl ?_
    refine AA _ (AL rfl) rfl ?_
    refine AC 48 55 false _ rfl rfl rfl rfl ?_
    refine AC 48 55 false _ rfl rfl rfl rfl ?_
    refine AC 48 55 false _ rfl rfl rfl rfl ?_
    refine AC 48 55 false _ rfl rfl rfl rfl ?_
    refine AC 48 55 false _ rfl rfl rfl rfl ?_
    refine AC 48 55 false _ rfl rfl rfl rfl ?_
    refine AC 48 55 false _ rfl rfl rfl rfl ?_
    refine AC 48 55 false _ rfl rfl rfl rfl ?_
    refine AC 48 55 false _ rfl rfl rfl rfl ?_
    refine AA _ (A2 _ rfl rfl rfl) rfl ?_
    refine AN (AF (CO _ rfl rfl ?_))
    refine AK (AD (AA _ (AH rfl) rfl ?_))
    refine AN (AF (BK (A1 (BP [false, false] ?_))))
    show JQ _ _ _ _ []
    refine BJ (.bool false) (res1 Tryd.results51 (BH rfl)) fun w1 hw1 => ?_
    refine ⟨_, [], rfl, ⟨congrArg Value.bool ?_, rfl⟩, hw1.sub (by simp) (by simp)⟩
    refine (decide_eq_false (fun h => ?_)).symm
    obtain ⟨h1, h2, h3, h4, h5, h6, h7⟩ := h
    have h8 := congrArg List.length h6
    have h9 := congrArg List.length h7
    first | omega | contradiction | exact GA (FZ (i := i) (by omega)) (FZ (i := i) (by omega)) (by assumption) h6 | (simp_all; done)
end Go.Proofs.YtkdpdgpphpngeaaDoor
