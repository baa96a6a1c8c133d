import Derived.Test.YtncoifiafklkjaaOct4
namespace Go.Proofs.Ytncoifiafklkjaa
open Go Go.Sx
set_option linter.unusedVariables false
set_option linter.unusedSimpArgs false
set_option maxRecDepth 100000
attribute [local irreducible] mid zr8 zr32 zr64 numK rnK ftN valK rvalK
theorem stEq {rb T R e1 e2 n1 n2 c c2 : Nat} {a : Option Addr} {f : Nat × Nat} (h : e1 = e2) (h' : n1 = n2) (h2 : c = c2) : [(⟨rb, [errV T e1, .slice a n1 c], R, f⟩ : Ent)] = [⟨rb, [errV T e2, .slice a n2 c2], R, f⟩] := by rw [h, h', h2]
theorem okE_ok {e : Nat} {p : Prop} [Decidable p] (he : e = 0) (hp : p) : e = okE e (decide p) := by subst he; rw [decide_eq_true hp]; rfl
theorem okE_bad {e : Nat} {p : Prop} [Decidable p] (hp : ¬ p) : erN e 2 = okE e (decide p) := by rw [decide_eq_false hp]; rfl
theorem okE_keep {e : Nat} {p : Prop} [Decidable p] (he : e ≠ 0) (hp : ¬ p) : e = okE e (decide p) := by rw [decide_eq_false hp]; exact (erN_pos he).symm
/-- bytes that a reader gives: none, or new ones -/
def Fresh8 (l : List UInt8) (v : Value) (L : List Ent) : Prop := (l = [] ∧ v = .slice none 0 0 ∧ L = []) ∨ (∃ g sp cap, v = Slc g 0 l.length cap ∧ L = [⟨g, cu8 l ++ sp, 5, (0, 0)⟩] ∧ sp.length = cap - l.length ∧ l.length ≤ cap ∧ cap ≤ maxLen)

theorem numR_w (rb e : Nat) (ao : Option Addr) (n c : Nat) (z : List UInt8) (s : Int) (w : World) (h0 : w.heap[rb]? = some (.cells [errV 36 e, .slice ao n c].toArray 123 (0, 0))) (hz : z.length = n) (hn : n ≤ 2000000000) (hc : n ≤ c) (hcm : c ≤ maxLen) (hr : RdB w [rb] ao z) : Calls Try.prog 54 #[Ptr rb 0, I64 s] w (Post w [rb] (fun v L => v = U64 (nuV z e s) ∧ ∃ ao' c', Adv ao z c ao' (nuZ z e s) c' ∧ L = [⟨rb, [errV 36 (okE e (decide (NuOk z e s))), .slice ao' (nuZ z e s).length c'], 123, (0, 0)⟩])) := by
  by_cases hok : NuOk z e s
  · obtain ⟨he, hs, hl⟩ := id hok
    obtain ⟨k, rfl⟩ : ∃ k : Nat, s = k := ⟨s.toNat, by unfold Szd at hs; omega⟩
    have hk : k ≤ n := by omega
    refine (numROk_c rb e ao n c z k (n - k) (c - k) w h0 hz hn hc hcm hr he hs hk (by omega) (by omega)).mono ?_
    rintro E W ⟨v, L, rfl, ⟨rfl, rfl⟩, hw⟩
    refine ⟨_, _, rfl, ⟨by rw [nuV, if_pos hok]; rfl, advA ao c k, c - k, by rw [nuZ, if_pos hok]; exact Adv.drop k (by omega) (by omega) hcm, ?_⟩, hw⟩
    rw [nuZ, if_pos hok]
    exact stEq (okE_ok he hok) (by simp [hz]) rfl
  · by_cases hs : Szd s
    · by_cases he : e = 0
      · have hl : (n:Int) < s := by
          rcases Int.lt_or_le (n:Int) s with h | h
          · exact h
          · exact absurd ⟨he, hs, by rw [hz]; exact h⟩ hok
        refine (numRS_c rb e ao n c s w h0 he hs hl).mono ?_
        rintro E W ⟨v, L, rfl, ⟨rfl, rfl⟩, hw⟩
        exact ⟨_, _, rfl, ⟨(by rw [nuV, if_neg hok]), ao, c, by rw [nuZ, if_neg hok]; exact Adv.same (by omega) hcm, by rw [nuZ, if_neg hok]; exact stEq (okE_bad hok) hz.symm rfl⟩, hw⟩
      · refine (numRE_c rb e _ s w h0 he hs).mono ?_
        rintro E W ⟨v, L, rfl, ⟨rfl, rfl⟩, hw⟩
        exact ⟨_, _, rfl, ⟨(by rw [nuV, if_neg hok]), ao, c, by rw [nuZ, if_neg hok]; exact Adv.same (by omega) hcm, by rw [nuZ, if_neg hok]; exact stEq (okE_bad hok) hz.symm rfl⟩, hw⟩
    · refine (numRF_c rb e _ s w h0 hs).mono ?_
      rintro E W ⟨v, L, rfl, ⟨rfl, rfl⟩, hw⟩
      exact ⟨_, _, rfl, ⟨(by rw [nuV, if_neg hok]), ao, c, by rw [nuZ, if_neg hok]; exact Adv.same (by omega) hcm, by rw [nuZ, if_neg hok]; exact stEq (okE_bad hok) hz.symm rfl⟩, hw⟩

theorem rawR_w (rb e : Nat) (ao : Option Addr) (n c : Nat) (z : List UInt8) (s : Int) (w : World) (h0 : w.heap[rb]? = some (.cells [errV 36 e, .slice ao n c].toArray 123 (0, 0))) (hz : z.length = n) (hn : n ≤ 2000000000) (hc : n ≤ c) (hcm : c ≤ maxLen) (hr : RdB w [rb] ao z) : Calls Try.prog 58 #[Ptr rb 0, I64 s] w (Post w [rb] (fun v L => ∃ ao' c', Adv ao z c ao' (tkZ z e s) c' ∧ ∃ L2, L = [⟨rb, [errV 36 (okE e (decide (TkOk z e s))), .slice ao' (tkZ z e s).length c'], 123, (0, 0)⟩] ++ L2 ∧ Fresh8 (tkV z e s) v L2)) := by
  by_cases hok : TkOk z e s
  · obtain ⟨he, h1, hl⟩ := id hok
    by_cases h0s : s = 0
    · refine (rawRZ0_c rb e ao n c s w h0 he h0s).mono ?_
      rintro E W ⟨v, L, rfl, ⟨rfl, rfl⟩, hw⟩
      have ez : z.drop s.toNat = z := by subst h0s; rfl
      exact ⟨_, _, rfl, ⟨ao, c, by rw [tkZ, if_pos hok, ez]; exact Adv.same (by omega) hcm, [], by rw [tkZ, if_pos hok, ez, List.append_nil]; exact stEq (okE_ok he hok) hz.symm rfl, .inl ⟨by rw [tkV, if_pos hok]; subst h0s; exact mid_zero _ _, rfl, rfl⟩⟩, hw⟩
    · obtain ⟨k, rfl⟩ : ∃ k : Nat, s = k := ⟨s.toNat, by omega⟩
      have hk : k ≤ n := by omega
      refine (rawROk_c rb e ao n c z k (n - k) (c - k) w h0 hz hn hc hcm hr he (by omega) hk (by omega) (by omega)).mono ?_
      rintro E W ⟨v, L, rfl, ⟨g, sp, cap, rfl, rfl, hs1, hs2, hs3⟩, hw⟩
      have hm : (mid z 0 k).length = k := mid_len (by omega)
      refine ⟨_, _, rfl, ⟨advA ao c k, c - k, by rw [tkZ, if_pos hok]; exact Adv.drop k (by omega) (by omega) hcm, [⟨g, cu8 (mid z 0 k) ++ sp, 5, (0, 0)⟩], ?_, .inr ⟨g, sp, cap, ?_⟩⟩, hw⟩
      · rw [tkZ, if_pos hok, ← stEq (okE_ok he hok) (show n - k = (z.drop (k:Int).toNat).length by simp [hz]) rfl]; rfl
      · rw [tkV, if_pos hok]
        show Slc g 0 k cap = Slc g 0 (mid z 0 k).length cap ∧ _ = _ ∧ sp.length = cap - (mid z 0 k).length ∧ (mid z 0 k).length ≤ cap ∧ cap ≤ maxLen
        rw [hm]; exact ⟨rfl, rfl, hs1, hs2, hs3⟩
  · by_cases he : e = 0
    · have hl : s < 0 ∨ (n:Int) < s := by
        rcases Int.lt_or_le s 0 with h | h
        · exact .inl h
        · rcases Int.lt_or_le (n:Int) s with h2 | h2
          · exact .inr h2
          · exact absurd ⟨he, h, by rw [hz]; exact h2⟩ hok
      refine (rawRB0_c rb e ao n c s w h0 he hl).mono ?_
      rintro E W ⟨v, L, rfl, ⟨rfl, rfl⟩, hw⟩
      exact ⟨_, _, rfl, ⟨ao, c, by rw [tkZ, if_neg hok]; exact Adv.same (by omega) hcm, [], by rw [tkZ, if_neg hok, List.append_nil]; exact stEq (okE_bad hok) hz.symm rfl, .inl ⟨by rw [tkV, if_neg hok], rfl, rfl⟩⟩, hw⟩
    · by_cases h0s : s = 0
      · refine (rawRZ1_c rb e _ s w h0 he h0s).mono ?_
        rintro E W ⟨v, L, rfl, ⟨rfl, rfl⟩, hw⟩
        exact ⟨_, _, rfl, ⟨ao, c, by rw [tkZ, if_neg hok]; exact Adv.same (by omega) hcm, [], by rw [tkZ, if_neg hok, List.append_nil]; exact stEq (okE_keep he hok) hz.symm rfl, .inl ⟨by rw [tkV, if_neg hok], rfl, rfl⟩⟩, hw⟩
      · refine (rawRB1_c rb e _ s w h0 he h0s).mono ?_
        rintro E W ⟨v, L, rfl, ⟨rfl, rfl⟩, hw⟩
        exact ⟨_, _, rfl, ⟨ao, c, by rw [tkZ, if_neg hok]; exact Adv.same (by omega) hcm, [], by rw [tkZ, if_neg hok, List.append_nil]; exact stEq (okE_bad hok) hz.symm rfl, .inl ⟨by rw [tkV, if_neg hok], rfl, rfl⟩⟩, hw⟩

theorem bytR_w (rb e : Nat) (ao : Option Addr) (n c : Nat) (z : List UInt8) (s : Int) (w : World) (h0 : w.heap[rb]? = some (.cells [errV 36 e, .slice ao n c].toArray 123 (0, 0))) (hz : z.length = n) (hn : n ≤ 2000000000) (hc : n ≤ c) (hcm : c ≤ maxLen) (hr : RdB w [rb] ao z) : Calls Try.prog 56 #[Ptr rb 0, I64 s] w (Post w [rb] (fun v L => ∃ ao' c', Adv ao z c ao' (fdZ z e s) c' ∧ ∃ L2, L = [⟨rb, [errV 36 (okE e (decide (FdOk z e s))), .slice ao' (fdZ z e s).length c'], 123, (0, 0)⟩] ++ L2 ∧ Fresh8 (fdV z e s) v L2)) := by
  by_cases hok : FdOk z e s
  · obtain ⟨he, h2, hl, hl2⟩ := id hok
    have hq : fdN z = 256 * (g8 z 0).toNat + (g8 z 1).toNat := rfl
    by_cases h0s : fdN z = 0
    · refine (bytRZ_c rb e ao n c z s w h0 hz hn hc hcm hr he (by omega) (by omega) (by omega)).mono ?_
      rintro E W ⟨v, L, rfl, ⟨rfl, rfl⟩, hw⟩
      have ez : (z.drop 2).drop (fdN z) = z.drop 2 := by rw [h0s]; rfl
      exact ⟨_, _, rfl, ⟨advA ao c 2, c - 2, by rw [fdZ, if_pos hok, ez]; exact Adv.drop 2 (by omega) (by omega) hcm, [], by rw [fdZ, if_pos hok, ez, List.append_nil]; exact stEq (okE_ok he hok) (by simp [hz]) rfl, .inl ⟨by rw [fdV, if_pos hok, h0s]; exact mid_zero _ _, rfl, rfl⟩⟩, hw⟩
    · refine (bytROk_c rb e ao n c z s w h0 hz hn hc hcm hr he (by omega) (by omega) (by omega) (by omega)).mono ?_
      rintro E W ⟨v, L, rfl, ⟨g, sp, cap, rfl, rfl, hs1, hs2, hs3⟩, hw⟩
      rw [← hq] at hs1 hs2 hw ⊢
      have hm : (mid (z.drop 2) 0 (fdN z)).length = fdN z := mid_len (by rw [List.length_drop]; omega)
      refine ⟨_, _, rfl, ⟨advA (advA ao c 2) (c - 2) (fdN z), c - fdN z - 2, ?_, [⟨g, cu8 (mid (z.drop 2) 0 (fdN z)) ++ sp, 5, (0, 0)⟩], ?_, .inr ⟨g, sp, cap, ?_⟩⟩, hw⟩
      · rw [fdZ, if_pos hok, show c - fdN z - 2 = c - 2 - fdN z by omega]
        exact Adv.trans (Adv.drop 2 (by omega) (by omega) hcm) (Adv.drop (fdN z) (by rw [List.length_drop]; omega) (by rw [List.length_drop]; omega) (by omega))
      · rw [fdZ, if_pos hok, ← stEq (okE_ok he hok) (show n - fdN z - 2 = ((z.drop 2).drop (fdN z)).length by simp [hz]; omega) rfl]; rfl
      · rw [fdV, if_pos hok, hm]; exact ⟨rfl, rfl, hs1, hs2, hs3⟩
  · by_cases he : e = 0
    · by_cases h2 : 2 ≤ n
      · have hl : s < ((256 * (g8 z 0).toNat + (g8 z 1).toNat : Nat) : Int) ∨ n < 256 * (g8 z 0).toNat + (g8 z 1).toNat + 2 := by
          rcases Int.lt_or_le s ((256 * (g8 z 0).toNat + (g8 z 1).toNat : Nat) : Int) with h | h
          · exact .inl h
          · rcases Nat.lt_or_ge n (256 * (g8 z 0).toNat + (g8 z 1).toNat + 2) with h3 | h3
            · exact .inr h3
            · exact absurd ⟨he, by omega, h, by rw [hz]; exact h3⟩ hok
        refine (bytRB_c rb e ao n c z s w h0 hz hn hc hcm hr he h2 hl).mono ?_
        rintro E W ⟨v, L, rfl, ⟨rfl, rfl⟩, hw⟩
        exact ⟨_, _, rfl, ⟨ao, c, by rw [fdZ, if_neg hok]; exact Adv.same (by omega) hcm, [], by rw [fdZ, if_neg hok, List.append_nil]; exact stEq (okE_bad hok) hz.symm rfl, .inl ⟨by rw [fdV, if_neg hok], rfl, rfl⟩⟩, hw⟩
      · refine (bytRS_c rb e ao n c s w h0 he (by omega)).mono ?_
        rintro E W ⟨v, L, rfl, ⟨rfl, rfl⟩, hw⟩
        exact ⟨_, _, rfl, ⟨ao, c, by rw [fdZ, if_neg hok]; exact Adv.same (by omega) hcm, [], by rw [fdZ, if_neg hok, List.append_nil]; exact stEq (okE_bad hok) hz.symm rfl, .inl ⟨by rw [fdV, if_neg hok], rfl, rfl⟩⟩, hw⟩
    · refine (bytRE_c rb e _ s w h0 he).mono ?_
      rintro E W ⟨v, L, rfl, ⟨rfl, rfl⟩, hw⟩
      exact ⟨_, _, rfl, ⟨ao, c, by rw [fdZ, if_neg hok]; exact Adv.same (by omega) hcm, [], by rw [fdZ, if_neg hok, List.append_nil]; exact stEq (okE_bad hok) hz.symm rfl, .inl ⟨by rw [fdV, if_neg hok], rfl, rfl⟩⟩, hw⟩

theorem hasR_w (rb e : Nat) (ao : Option Addr) (n c : Nat) (z : List UInt8) (w : World) (h0 : w.heap[rb]? = some (.cells [errV 36 e, .slice ao n c].toArray 123 (0, 0))) (hz : z.length = n) (hn : n ≤ 2000000000) (hc : n ≤ c) (hcm : c ≤ maxLen) (hr : RdB w [rb] ao z) : Calls Try.prog 60 #[Ptr rb 0] w (Post w [rb] (fun v L => v = .agg (cu8 (hsV z e)).toArray ∧ ∃ ao' c', Adv ao z c ao' (hsZ z e) c' ∧ L = [⟨rb, [errV 36 (okE e (decide (HsOk z e))), .slice ao' (hsZ z e).length c'], 123, (0, 0)⟩])) := by
  by_cases hok : HsOk z e
  · obtain ⟨he, hl⟩ := id hok
    refine (hasROk_c rb e ao n c z w h0 hz hn hc hcm hr he (by omega)).mono ?_
    rintro E W ⟨v, L, rfl, ⟨rfl, rfl⟩, hw⟩
    refine ⟨_, _, rfl, ⟨by rw [hsV, if_pos hok], advA ao c 32, c - 32, by rw [hsZ, if_pos hok]; exact Adv.drop 32 hl (by omega) hcm, ?_⟩, hw⟩
    rw [hsZ, if_pos hok]
    exact stEq (okE_ok he hok) (by simp [hz]) rfl
  · by_cases he : e = 0
    · have hl : n < 32 := by
        rcases Nat.lt_or_ge n 32 with h | h
        · exact h
        · exact absurd ⟨he, by omega⟩ hok
      refine (hasRS_c rb e ao n c w h0 he hl).mono ?_
      rintro E W ⟨v, L, rfl, ⟨rfl, rfl⟩, hw⟩
      exact ⟨_, _, rfl, ⟨(by rw [hsV, if_neg hok]), ao, c, by rw [hsZ, if_neg hok]; exact Adv.same (by omega) hcm, by rw [hsZ, if_neg hok]; exact stEq (okE_bad hok) hz.symm rfl⟩, hw⟩
    · refine (hasRE_c rb e _ w h0 he).mono ?_
      rintro E W ⟨v, L, rfl, ⟨rfl, rfl⟩, hw⟩
      exact ⟨_, _, rfl, ⟨(by rw [hsV, if_neg hok]), ao, c, by rw [hsZ, if_neg hok]; exact Adv.same (by omega) hcm, by rw [hsZ, if_neg hok]; exact stEq (okE_bad hok) hz.symm rfl⟩, hw⟩

theorem flgR_w (rb e : Nat) (ao : Option Addr) (n c : Nat) (z : List UInt8) (w : World) (h0 : w.heap[rb]? = some (.cells [errV 36 e, .slice ao n c].toArray 123 (0, 0))) (hz : z.length = n) (hn : n ≤ 2000000000) (hc : n ≤ c) (hcm : c ≤ maxLen) (hr : RdB w [rb] ao z) : Calls Try.prog 62 #[Ptr rb 0] w (Post w [rb] (fun v L => v = .bool (fgV z e) ∧ ∃ ao' c', Adv ao z c ao' (fgZ z e) c' ∧ L = [⟨rb, [errV 36 (okE e (decide (FgOk z e))), .slice ao' (fgZ z e).length c'], 123, (0, 0)⟩])) := by
  by_cases hok : FgOk z e
  · obtain ⟨he, hl, hb⟩ := id hok
    refine (flgROk_c rb e ao n c z w h0 hz hn hc hcm hr he (by omega) (UInt8.not_lt.2 hb)).mono ?_
    rintro E W ⟨v, L, rfl, ⟨rfl, rfl⟩, hw⟩
    refine ⟨_, _, rfl, ⟨congrArg Value.bool (decide_eq_decide.2 ⟨fun h => ⟨hok, h⟩, fun h => h.2⟩), advA ao c 1, c - 1, by rw [fgZ, if_pos hok]; exact Adv.drop 1 hl (by omega) hcm, ?_⟩, hw⟩
    rw [fgZ, if_pos hok]
    exact stEq (okE_ok he hok) (by simp [hz]) rfl
  · by_cases he : e = 0
    · by_cases hl : 1 ≤ n
      · have hb : (1:UInt8) < g8 z 0 := by
          by_cases h : g8 z 0 ≤ 1
          · exact absurd ⟨he, by omega, h⟩ hok
          · exact UInt8.not_le.1 h
        refine (flgRB_c rb e ao n c z w h0 hz hn hc hcm hr he hl hb).mono ?_
        rintro E W ⟨v, L, rfl, ⟨rfl, rfl⟩, hw⟩
        exact ⟨_, _, rfl, ⟨(by rw [fgV, decide_eq_false (fun h => hok h.1)]), ao, c, by rw [fgZ, if_neg hok]; exact Adv.same (by omega) hcm, by rw [fgZ, if_neg hok]; exact stEq (okE_bad hok) hz.symm rfl⟩, hw⟩
      · refine (flgRS_c rb e ao n c w h0 he (by omega)).mono ?_
        rintro E W ⟨v, L, rfl, ⟨rfl, rfl⟩, hw⟩
        exact ⟨_, _, rfl, ⟨(by rw [fgV, decide_eq_false (fun h => hok h.1)]), ao, c, by rw [fgZ, if_neg hok]; exact Adv.same (by omega) hcm, by rw [fgZ, if_neg hok]; exact stEq (okE_bad hok) hz.symm rfl⟩, hw⟩
    · refine (flgRE_c rb e _ w h0 he).mono ?_
      rintro E W ⟨v, L, rfl, ⟨rfl, rfl⟩, hw⟩
      exact ⟨_, _, rfl, ⟨(by rw [fgV, decide_eq_false (fun h => hok h.1)]), ao, c, by rw [fgZ, if_neg hok]; exact Adv.same (by omega) hcm, by rw [fgZ, if_neg hok]; exact stEq (okE_bad hok) hz.symm rfl⟩, hw⟩

end Go.Proofs.Ytncoifiafklkjaa
