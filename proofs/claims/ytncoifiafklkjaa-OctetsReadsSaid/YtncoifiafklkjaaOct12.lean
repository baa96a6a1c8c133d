import Derived.Test.YtncoifiafklkjaaOct11
namespace Go.Proofs.Ytncoifiafklkjaa
open Go Go.Sx
set_option linter.unusedVariables false
set_option linter.unusedSimpArgs false
set_option maxRecDepth 100000
attribute [local irreducible] mid zr8 zr32 zr64 numK rnK ftN valK rvalK
theorem rokE {e : Nat} {p : Prop} [Decidable p] (he : e ≠ 0) (hp : ¬ p) : (e : Int) = ((okE e (decide p) : Nat) : Int) := by rw [← okE_keep he hp]
theorem rokB {e : Nat} {p : Prop} [Decidable p] (he : e = 0) (hp : ¬ p) : (2 : Int) = ((okE e (decide p) : Nat) : Int) := by subst he; rw [decide_eq_false hp]; rfl
theorem rokO {e : Nat} {p : Prop} [Decidable p] (he : e = 0) (hp : p) : (e : Int) = ((okE e (decide p) : Nat) : Int) := by rw [← okE_ok he hp]
theorem rok0 {e : Nat} {p : Prop} [Decidable p] (he : e = 0) (hp : p) : (0 : Int) = ((okE e (decide p) : Nat) : Int) := by subst he; rw [decide_eq_true hp]; rfl
theorem tupEq {a b a' b' : Value} (h : a = a') (h' : b = b') : Value.tuple #[a, b] = .tuple #[a', b'] := by rw [h, h']
theorem agEq {a a' : Option Addr} {n n' c c' : Nat} {e e' : Int} (h : a = a') (h1 : n = n') (h2 : c = c') (h3 : e = e') : Value.agg (List.toArray (α := Value) [.slice a n c, I64 e]) = .agg (List.toArray (α := Value) [.slice a' n' c', I64 e']) := by rw [h, h1, h2, h3]
theorem slEq {a a' : Option Addr} {n n' c c' : Nat} (h : a = a') (h1 : n = n') (h2 : c = c') : Value.slice a n c = .slice a' n' c' := by rw [h, h1, h2]

theorem rtake_w (ao : Option Addr) (n c e : Nat) (z : List UInt8) (s : Int) (w : World) (hz : z.length = n) (hn : n ≤ 2000000000) (hc : n ≤ c) (hcm : c ≤ maxLen) (hr : RdB w [] ao z) : Calls Try.prog 57 #[.agg (List.toArray (α := Value) [.slice ao n c, I64 ((e : Int))]), I64 s] w (Post w [] (fun v L => L = [] ∧ ∃ ax cx ao' c', v = .tuple #[.slice ax (tkV z e s).length cx, .agg (List.toArray (α := Value) [.slice ao' (tkZ z e s).length c', I64 (((okE e (decide (TkOk z e s)) : Nat) : Int))])] ∧ (∀ w M, RdB w M ao z → RdB w M ax (tkV z e s)) ∧ Adv ao z c ao' (tkZ z e s) c')) := by
  by_cases hok : TkOk z e s
  · obtain ⟨he, h1, hl⟩ := id hok
    obtain ⟨k, rfl⟩ : ∃ k : Nat, s = k := ⟨s.toNat, by omega⟩
    have hk : k ≤ n := by omega
    refine (takeOk_c ao n c e z k (n - k) (c - k) w hz hn hc hcm hr he hk (by omega) (by omega)).mono ?_
    rintro E W ⟨v, L, rfl, ⟨rfl, rfl⟩, hw⟩
    refine ⟨_, _, rfl, ⟨rfl, ao, c, advA ao c k, c - k, tupEq (slEq rfl ?_ rfl) (agEq rfl ?_ rfl (rokO he hok)), fun w M h => ?_, ?_⟩, hw⟩
    · rw [tkV, if_pos hok]; exact (mid_len (by omega)).symm
    · rw [tkZ, if_pos hok]; simp [hz]
    · rw [tkV, if_pos hok]; exact RdB.pre h k
    · rw [tkZ, if_pos hok]; exact Adv.drop k (by omega) (by omega) hcm
  · by_cases he : e = 0
    · have hl : s < 0 ∨ (n:Int) < s := by
        rcases Int.lt_or_le s 0 with h | h
        · exact .inl h
        · rcases Int.lt_or_le (n:Int) s with h2 | h2
          · exact .inr h2
          · exact absurd ⟨he, h, by rw [hz]; exact h2⟩ hok
      refine (takeB_c ao n c e s w he hl).mono ?_
      rintro E W ⟨v, L, rfl, ⟨rfl, rfl⟩, hw⟩
      exact ⟨_, _, rfl, ⟨rfl, none, 0, ao, c, tupEq (slEq rfl (by rw [tkV, if_neg hok]; rfl) rfl) (agEq rfl (by rw [tkZ, if_neg hok]; exact hz.symm) rfl (rokB he hok)), (fun w M h => by rw [tkV, if_neg hok]; exact RdB.nil), by rw [tkZ, if_neg hok]; exact Adv.same (by omega) hcm⟩, hw⟩
    · refine (takeE_c ao n c e s w he).mono ?_
      rintro E W ⟨v, L, rfl, ⟨rfl, rfl⟩, hw⟩
      exact ⟨_, _, rfl, ⟨rfl, none, 0, ao, c, tupEq (slEq rfl (by rw [tkV, if_neg hok]; rfl) rfl) (agEq rfl (by rw [tkZ, if_neg hok]; exact hz.symm) rfl (rokE he hok)), (fun w M h => by rw [tkV, if_neg hok]; exact RdB.nil), by rw [tkZ, if_neg hok]; exact Adv.same (by omega) hcm⟩, hw⟩

theorem rfield_w (ao : Option Addr) (n c e : Nat) (z : List UInt8) (s : Int) (w : World) (hz : z.length = n) (hn : n ≤ 2000000000) (hc : n ≤ c) (hcm : c ≤ maxLen) (hr : RdB w [] ao z) : Calls Try.prog 55 #[.agg (List.toArray (α := Value) [.slice ao n c, I64 ((e : Int))]), I64 s] w (Post w [] (fun v L => L = [] ∧ ∃ ax cx ao' c', v = .tuple #[.slice ax (fdV z e s).length cx, .agg (List.toArray (α := Value) [.slice ao' (fdZ z e s).length c', I64 (((okE e (decide (FdOk z e s)) : Nat) : Int))])] ∧ (∀ w M, RdB w M ao z → RdB w M ax (fdV z e s)) ∧ Adv ao z c ao' (fdZ z e s) c')) := by
  by_cases hok : FdOk z e s
  · obtain ⟨he, h2, hl, hl2⟩ := id hok
    refine (fieldOk_c ao n c e z s (fdN z) (c - 2) (n - (fdN z + 2)) (c - (fdN z + 2)) w hz hn hc hcm hr he (by omega) (rval_fd z).symm hl (by omega) (by omega) (by omega) (by omega)).mono ?_
    rintro E W ⟨v, L, rfl, ⟨rfl, rfl⟩, hw⟩
    have hd : (z.drop 2).drop (fdN z) = z.drop (fdN z + 2) := by rw [List.drop_drop, Nat.add_comm]
    refine ⟨_, _, rfl, ⟨rfl, advA ao c 2, c - 2, advA ao c (fdN z + 2), c - (fdN z + 2), tupEq (slEq rfl ?_ rfl) (agEq rfl ?_ rfl (rok0 he hok)), fun w M h => ?_, ?_⟩, hw⟩
    · rw [fdV, if_pos hok]; exact (mid_len (by rw [List.length_drop]; omega)).symm
    · rw [fdZ, if_pos hok, hd]; simp [hz]
    · rw [fdV, if_pos hok]; exact RdB.pre (RdB.adv (c := c) h 2 h2 (by omega)) (fdN z)
    · rw [fdZ, if_pos hok, hd]; exact Adv.drop (fdN z + 2) (by omega) (by omega) hcm
  · by_cases he : e = 0
    · by_cases h2 : 2 ≤ n
      · have hl : s < ((fdN z : Nat) : Int) ∨ n < fdN z + 2 := by
          rcases Int.lt_or_le s ((fdN z : Nat) : Int) with h | h
          · exact .inl h
          · rcases Nat.lt_or_ge n (fdN z + 2) with h3 | h3
            · exact .inr h3
            · exact absurd ⟨he, by omega, h, by rw [hz]; exact h3⟩ hok
        refine (fieldB_c ao n c e z s w hz hn hc hcm hr he h2 hl).mono ?_
        rintro E W ⟨v, L, rfl, ⟨rfl, rfl⟩, hw⟩
        exact ⟨_, _, rfl, ⟨rfl, none, 0, ao, c, tupEq (slEq rfl (by rw [fdV, if_neg hok]; rfl) rfl) (agEq rfl (by rw [fdZ, if_neg hok]; exact hz.symm) rfl (rokB he hok)), (fun w M h => by rw [fdV, if_neg hok]; exact RdB.nil), by rw [fdZ, if_neg hok]; exact Adv.same (by omega) hcm⟩, hw⟩
      · refine (fieldS_c ao n c e s w he (by omega)).mono ?_
        rintro E W ⟨v, L, rfl, ⟨rfl, rfl⟩, hw⟩
        exact ⟨_, _, rfl, ⟨rfl, none, 0, ao, c, tupEq (slEq rfl (by rw [fdV, if_neg hok]; rfl) rfl) (agEq rfl (by rw [fdZ, if_neg hok]; exact hz.symm) rfl (rokB he hok)), (fun w M h => by rw [fdV, if_neg hok]; exact RdB.nil), by rw [fdZ, if_neg hok]; exact Adv.same (by omega) hcm⟩, hw⟩
    · refine (fieldE_c ao n c e s w he).mono ?_
      rintro E W ⟨v, L, rfl, ⟨rfl, rfl⟩, hw⟩
      exact ⟨_, _, rfl, ⟨rfl, none, 0, ao, c, tupEq (slEq rfl (by rw [fdV, if_neg hok]; rfl) rfl) (agEq rfl (by rw [fdZ, if_neg hok]; exact hz.symm) rfl (rokE he hok)), (fun w M h => by rw [fdV, if_neg hok]; exact RdB.nil), by rw [fdZ, if_neg hok]; exact Adv.same (by omega) hcm⟩, hw⟩

theorem rread_w (ao : Option Addr) (n c e : Nat) (z : List UInt8) (s : Int) (w : World) (hz : z.length = n) (hn : n ≤ 2000000000) (hc : n ≤ c) (hcm : c ≤ maxLen) (hr : RdB w [] ao z) : Calls Try.prog 53 #[.agg (List.toArray (α := Value) [.slice ao n c, I64 ((e : Int))]), I64 s] w (Post w [] (fun v L => L = [] ∧ ∃ ao' c', v = .tuple #[U64 (nuV z e s), .agg (List.toArray (α := Value) [.slice ao' (nuZ z e s).length c', I64 (((okE e (decide (NuOk z e s)) : Nat) : Int))])] ∧ Adv ao z c ao' (nuZ z e s) c')) := by
  by_cases hok : NuOk z e s
  · obtain ⟨he, hs, hl⟩ := id hok
    obtain ⟨k, rfl⟩ : ∃ k : Nat, s = k := ⟨s.toNat, by unfold Szd at hs; omega⟩
    have hk : k ≤ n := by omega
    refine (readOk_c ao n c e z k (n - k) (c - k) w hz hn hc hcm hr he hs hk (by omega) (by omega)).mono ?_
    rintro E W ⟨v, L, rfl, ⟨rfl, rfl⟩, hw⟩
    refine ⟨_, _, rfl, ⟨rfl, advA ao c k, c - k, tupEq (by rw [nuV, if_pos hok]; rfl) (agEq rfl ?_ rfl (rokO he hok)), ?_⟩, hw⟩
    · rw [nuZ, if_pos hok]; simp [hz]
    · rw [nuZ, if_pos hok]; exact Adv.drop k (by omega) (by omega) hcm
  · by_cases he : e = 0
    · by_cases hs : Szd s
      · have hl : (n:Int) < s := by
          rcases Int.lt_or_le (n:Int) s with h | h
          · exact h
          · exact absurd ⟨he, hs, by rw [hz]; exact h⟩ hok
        refine (readS_c ao n c e s w he hs hl).mono ?_
        rintro E W ⟨v, L, rfl, ⟨rfl, rfl⟩, hw⟩
        exact ⟨_, _, rfl, ⟨rfl, ao, c, tupEq (by rw [nuV, if_neg hok]) (agEq rfl (by rw [nuZ, if_neg hok]; exact hz.symm) rfl (rokB he hok)), by rw [nuZ, if_neg hok]; exact Adv.same (by omega) hcm⟩, hw⟩
      · refine (readF_c ao n c e s w he hs).mono ?_
        rintro E W ⟨v, L, rfl, ⟨rfl, rfl⟩, hw⟩
        exact ⟨_, _, rfl, ⟨rfl, ao, c, tupEq (by rw [nuV, if_neg hok]) (agEq rfl (by rw [nuZ, if_neg hok]; exact hz.symm) rfl (rokB he hok)), by rw [nuZ, if_neg hok]; exact Adv.same (by omega) hcm⟩, hw⟩
    · refine (readE_c ao n c e s w he).mono ?_
      rintro E W ⟨v, L, rfl, ⟨rfl, rfl⟩, hw⟩
      exact ⟨_, _, rfl, ⟨rfl, ao, c, tupEq (by rw [nuV, if_neg hok]) (agEq rfl (by rw [nuZ, if_neg hok]; exact hz.symm) rfl (rokE he hok)), by rw [nuZ, if_neg hok]; exact Adv.same (by omega) hcm⟩, hw⟩

theorem rhash_w (ao : Option Addr) (n c e : Nat) (z : List UInt8) (w : World) (hz : z.length = n) (hn : n ≤ 2000000000) (hc : n ≤ c) (hcm : c ≤ maxLen) (hr : RdB w [] ao z) : Calls Try.prog 59 #[.agg (List.toArray (α := Value) [.slice ao n c, I64 ((e : Int))])] w (Post w [] (fun v L => L = [] ∧ ∃ ao' c', v = .tuple #[.agg (cu8 (hsV z e)).toArray, .agg (List.toArray (α := Value) [.slice ao' (hsZ z e).length c', I64 (((okE e (decide (HsOk z e)) : Nat) : Int))])] ∧ Adv ao z c ao' (hsZ z e) c')) := by
  by_cases hok : HsOk z e
  · obtain ⟨he, hl⟩ := id hok
    refine (rhashOk_c ao n c e z (n - 32) (c - 32) w hz hn hc hcm hr he (by omega) (by omega) (by omega)).mono ?_
    rintro E W ⟨v, L, rfl, ⟨rfl, rfl⟩, hw⟩
    refine ⟨_, _, rfl, ⟨rfl, advA ao c 32, c - 32, tupEq (by rw [hsV, if_pos hok]) (agEq rfl ?_ rfl (rokO he hok)), ?_⟩, hw⟩
    · rw [hsZ, if_pos hok]; simp [hz]
    · rw [hsZ, if_pos hok]; exact Adv.drop 32 hl (by omega) hcm
  · by_cases he : e = 0
    · have hl : n < 32 := by
        rcases Nat.lt_or_ge n 32 with h | h
        · exact h
        · exact absurd ⟨he, by omega⟩ hok
      refine (rhashB_c ao n c e w he hl).mono ?_
      rintro E W ⟨v, L, rfl, ⟨rfl, rfl⟩, hw⟩
      exact ⟨_, _, rfl, ⟨rfl, ao, c, tupEq (by rw [hsV, if_neg hok]) (agEq rfl (by rw [hsZ, if_neg hok]; exact hz.symm) rfl (rokB he hok)), by rw [hsZ, if_neg hok]; exact Adv.same (by omega) hcm⟩, hw⟩
    · refine (rhashE_c ao n c e w he).mono ?_
      rintro E W ⟨v, L, rfl, ⟨rfl, rfl⟩, hw⟩
      exact ⟨_, _, rfl, ⟨rfl, ao, c, tupEq (by rw [hsV, if_neg hok]) (agEq rfl (by rw [hsZ, if_neg hok]; exact hz.symm) rfl (rokE he hok)), by rw [hsZ, if_neg hok]; exact Adv.same (by omega) hcm⟩, hw⟩

theorem rbool_w (ao : Option Addr) (n c e : Nat) (z : List UInt8) (w : World) (hz : z.length = n) (hn : n ≤ 2000000000) (hc : n ≤ c) (hcm : c ≤ maxLen) (hr : RdB w [] ao z) : Calls Try.prog 61 #[.agg (List.toArray (α := Value) [.slice ao n c, I64 ((e : Int))])] w (Post w [] (fun v L => L = [] ∧ ∃ ao' c', v = .tuple #[.bool (fgV z e), .agg (List.toArray (α := Value) [.slice ao' (fgZ z e).length c', I64 (((okE e (decide (FgOk z e)) : Nat) : Int))])] ∧ Adv ao z c ao' (fgZ z e) c')) := by
  by_cases hok : FgOk z e
  · obtain ⟨he, hl, hb⟩ := id hok
    refine (boolOk_c ao n c e z (n - 1) (c - 1) w hz hn hc hcm hr he (by omega) (UInt8.not_lt.2 hb) (by omega) (by omega)).mono ?_
    rintro E W ⟨v, L, rfl, ⟨rfl, rfl⟩, hw⟩
    refine ⟨_, _, rfl, ⟨rfl, advA ao c 1, c - 1, tupEq (congrArg Value.bool (decide_eq_decide.2 ⟨fun h => ⟨hok, h⟩, fun h => h.2⟩)) (agEq rfl ?_ rfl (rok0 he hok)), ?_⟩, hw⟩
    · rw [fgZ, if_pos hok]; simp [hz]
    · rw [fgZ, if_pos hok]; exact Adv.drop 1 hl (by omega) hcm
  · by_cases he : e = 0
    · by_cases hl : 1 ≤ n
      · have hb : (1:UInt8) < g8 z 0 := by
          by_cases h : g8 z 0 ≤ 1
          · exact absurd ⟨he, by omega, h⟩ hok
          · exact UInt8.not_le.1 h
        refine (boolB_c ao n c e z w hz hn hc hcm hr he hl hb).mono ?_
        rintro E W ⟨v, L, rfl, ⟨rfl, rfl⟩, hw⟩
        exact ⟨_, _, rfl, ⟨rfl, ao, c, tupEq (by rw [fgV, decide_eq_false (fun h => hok h.1)]) (agEq rfl (by rw [fgZ, if_neg hok]; exact hz.symm) rfl (rokB he hok)), by rw [fgZ, if_neg hok]; exact Adv.same (by omega) hcm⟩, hw⟩
      · refine (boolS_c ao n c e w he (by omega)).mono ?_
        rintro E W ⟨v, L, rfl, ⟨rfl, rfl⟩, hw⟩
        exact ⟨_, _, rfl, ⟨rfl, ao, c, tupEq (by rw [fgV, decide_eq_false (fun h => hok h.1)]) (agEq rfl (by rw [fgZ, if_neg hok]; exact hz.symm) rfl (rokB he hok)), by rw [fgZ, if_neg hok]; exact Adv.same (by omega) hcm⟩, hw⟩
    · refine (boolE_c ao n c e w he).mono ?_
      rintro E W ⟨v, L, rfl, ⟨rfl, rfl⟩, hw⟩
      exact ⟨_, _, rfl, ⟨rfl, ao, c, tupEq (by rw [fgV, decide_eq_false (fun h => hok h.1)]) (agEq rfl (by rw [fgZ, if_neg hok]; exact hz.symm) rfl (rokE he hok)), by rw [fgZ, if_neg hok]; exact Adv.same (by omega) hcm⟩, hw⟩

theorem rleft_w (ao : Option Addr) (n c e : Nat) (w : World) : Calls Try.prog 65 #[.agg (List.toArray (α := Value) [.slice ao n c, I64 ((e : Int))])] w (Post w [] (fun v L => v = I64 ((leftN e n : Nat) : Int) ∧ L = [])) := by
  by_cases he : e = 0
  · rw [leftN, if_pos he]; exact rleftZ_c ao n c e w he
  · rw [leftN, if_neg he]; exact rleftE_c ao n c e w he
theorem rend_w (ao : Option Addr) (n c e : Nat) (w : World) : Calls Try.prog 67 #[.agg (List.toArray (α := Value) [.slice ao n c, I64 ((e : Int))])] w (Post w [] (fun v L => v = I64 ((endN e n : Nat) : Int) ∧ L = [])) := by
  by_cases he : e = 0
  · by_cases hn : n = 0
    · rw [endN, if_pos he, if_pos hn]; exact rendZ_c ao n c e w he hn
    · rw [endN, if_pos he, if_neg hn]; exact rendB_c ao n c e w he hn
  · rw [endN, if_neg he]; exact rendE_c ao n c e w he

end Go.Proofs.Ytncoifiafklkjaa
