import Derived.Test.YtncoifiafklkjaaDoorOct2

namespace Go.Proofs.YtncoifiafklkjaaDoor
open Go Go.Sx
set_option linter.unusedVariables false
/-- a sealed block's bytes -/
def putL (e : UInt64) (d t : List UInt8) : List UInt8 := (numK 8 e 8 ++ d) ++ t
theorem putL_len {e : UInt64} {d t : List UInt8} (hd : d.length = 32) (ht : t.length = 16) : (putL e d t).length = 56 := by
  unfold putL; rw [List.length_append, List.length_append, numK_len, hd, ht]
/-- a leaf's text -/
def leafT (i e : UInt64) (d t : List UInt8) : List UInt8 := (numK 1 1 1 ++ numK 4 i 4) ++ putL e d t
theorem leafT_len {i e : UInt64} {d t : List UInt8} (hd : d.length = 32) (ht : t.length = 16) : (leafT i e d t).length = 61 := by
  unfold leafT; rw [List.length_append, List.length_append, numK_len, numK_len, putL_len hd ht]
/-- a node's text -/
def joinT (h : Nat) (l r : List UInt8) : List UInt8 := ((numK 1 2 1 ++ numK 1 (UInt64.ofNat h) 1) ++ l) ++ r
theorem joinT_len {h : Nat} {l r : List UInt8} (hl : l.length = 32) (hr : r.length = 32) : (joinT h l r).length = 66 := by
  unfold joinT; rw [List.length_append, List.length_append, List.length_append, numK_len, numK_len, hl, hr]
theorem numK_one (x : UInt64) : numK 1 x 1 = [x.toUInt8] := by
  unfold numK
  simp
theorem u8_of (h : Nat) : (UInt64.ofNat h).toUInt8 = UInt8.ofNat h := by
  apply UInt8.toNat_inj.1
  rw [UInt64.toNat_toUInt8, UInt64.toNat_ofNat', UInt8.toNat_ofNat']
  omega
theorem joinT_ref (h : Nat) (l r : List UInt8) : joinT h l r = ([2, UInt8.ofNat h] ++ l) ++ r := by
  unfold joinT; rw [numK_one, numK_one, u8_of]; rfl
theorem leafT_ref (i e : UInt64) (d t : List UInt8) : leafT i e d t = ([1] ++ numK 4 i 4) ++ putL e d t := by
  unfold leafT; rw [numK_one]; rfl
/-- the empty hashes -/
def empL : Nat → List UInt8
  | 0 => sumG constL initL [0]
  | h + 1 => sumG constL initL (joinT (h + 1) (empL h) (empL h))
theorem empL_len : ∀ h, (empL h).length = 32
  | 0 => sumG_len _ _ _
  | h + 1 => sumG_len _ _ _
/-- the program's row of them -/
def empA : Nat → List UInt8
  | 0 => spl (zr8 1056) 0 (empL 0)
  | j + 1 => spl (empA j) (32 * j + 32) (empL (j + 1))
theorem empA_len : ∀ j, j ≤ 32 → (empA j).length = 1056
  | 0, _ => by
    unfold empA; rw [spl_len]
    · exact zr8_len 1056
    · rw [empL_len, zr8_len]; omega
  | j + 1, h => by
    have ih := empA_len j (by omega)
    unfold empA; rw [spl_len]
    · exact ih
    · rw [empL_len, ih]; omega
theorem mid_spl {l v : List UInt8} {o i n : Nat} (h : o + v.length ≤ l.length) (hi : i + n ≤ o ∨ o + v.length ≤ i) : mid (spl l o v) i n = mid l i n := by
  apply List.ext_getElem?
  intro j
  unfold mid
  rw [List.getElem?_take, List.getElem?_take]
  by_cases hj : j < n
  · rw [if_pos hj, if_pos hj, List.getElem?_drop, List.getElem?_drop, spl_get h, if_neg (by omega)]
  · rw [if_neg hj, if_neg hj]
theorem mid_spl_same {l v : List UInt8} {o n : Nat} (h : o + v.length ≤ l.length) (hn : v.length = n) : mid (spl l o v) o n = v := by
  apply List.ext_getElem?
  intro j
  unfold mid
  rw [List.getElem?_take]
  by_cases hj : j < n
  · rw [if_pos hj, List.getElem?_drop, spl_get h, if_pos (by omega)]
    congr 1; omega
  · rw [if_neg hj, List.getElem?_eq_none (by omega)]
theorem empA_get : ∀ j, j ≤ 32 → ∀ i, i ≤ j → mid (empA j) (32 * i) 32 = empL i
  | 0, _, i, hi => by
    obtain rfl : i = 0 := by omega
    unfold empA
    exact mid_spl_same (by rw [empL_len, zr8_len]; omega) (empL_len 0)
  | j + 1, h, i, hi => by
    have hl := empA_len j (by omega)
    unfold empA
    by_cases he : i = j + 1
    · subst he
      rw [show 32 * (j + 1) = 32 * j + 32 by omega]
      exact mid_spl_same (by rw [empL_len, hl]; omega) (empL_len _)
    · rw [mid_spl (by rw [empL_len, hl]; omega) (by left; omega)]
      exact empA_get j (by omega) i (by omega)
theorem empA_zero : empA 0 = spl (zr8 1056) 0 (sumG constL initL [0]) := rfl
theorem empA_step {q : Nat} (h : q ≤ 32) : spl (empA q) (32 * q + 32) (sumG constL initL (joinT (q + 1) (mid (empA q) (32 * q) 32) (mid (empA q) (32 * q) 32))) = empA (q + 1) := by
  rw [empA_get q h q (Nat.le_refl q)]; rfl
/-- the document's row of them -/
def empR : Nat → List UInt8
  | 0 => empL 0
  | j + 1 => empR j ++ empL (j + 1)
theorem empR_len : ∀ j, (empR j).length = 32 * j + 32
  | 0 => empL_len 0
  | j + 1 => by unfold empR; rw [List.length_append, empR_len j, empL_len]; omega
theorem empR_get : ∀ j i, i ≤ j → mid (empR j) (32 * i) 32 = empL i
  | 0, i, hi => by
    obtain rfl : i = 0 := by omega
    unfold empR mid
    rw [Nat.mul_zero, List.drop_zero, ← empL_len 0, List.take_length]
  | j + 1, i, hi => by
    have hl := empR_len j
    unfold empR
    by_cases he : i = j + 1
    · subst he
      unfold mid
      rw [List.drop_append, hl, List.drop_eq_nil_of_le (by omega), List.nil_append, show 32 * (j + 1) - (32 * j + 32) = 0 by omega, List.drop_zero, ← empL_len (j + 1), List.take_length]
    · have ih := empR_get j i (by omega)
      rw [← ih]
      unfold mid
      rw [List.drop_append_of_le_length (by omega), List.take_append_of_le_length (by rw [List.length_drop]; omega)]
theorem empR_zero : empR 0 = sumG constL initL [0] := rfl
theorem empR_step (q : Nat) : empR q ++ sumG constL initL (joinT (q + 1) (mid (empR q) (32 * q) 32) (mid (empR q) (32 * q) 32)) = empR (q + 1) := by
  rw [empR_get q q (Nat.le_refl q)]; rfl
theorem empR_first : empR 0 ++ sumG constL initL (joinT 1 (empR 0) (empR 0)) = empR 1 := rfl
theorem emp_first : sumG constL initL [0] = mid (empA 32) 0 32 := (empA_get 32 (by decide) 0 (by decide)).symm
theorem emp_same {i : Nat} (h : i ≤ 32) : mid (empA 32) (32 * i) 32 = mid (empR 32) (32 * i) 32 := by
  rw [empA_get 32 (by omega) i h, empR_get 32 i h]
/-- what a text is of -/
def kindN (z : List UInt8) : Nat :=
  if z.length = 1 ∧ (g8 z 0).toNat = 0 then 1 else if z.length = 61 ∧ (g8 z 0).toNat = 1 then 2 else if z.length = 66 ∧ (g8 z 0).toNat = 2 ∧ 1 ≤ (g8 z 1).toNat ∧ (g8 z 1).toNat ≤ 32 then 3 else 0
theorem kind_leaf {i e : UInt64} {d t : List UInt8} (hd : d.length = 32) (ht : t.length = 16) : kindN (leafT i e d t) = 2 := by
  have h0 : g8 (leafT i e d t) 0 = 1 := by
    unfold leafT
    rw [numK_one]
    rfl
  unfold kindN
  rw [leafT_len hd ht, h0, if_neg (by omega), if_pos ⟨rfl, rfl⟩]
theorem kind_join {h : Nat} {l r : List UInt8} (hl : l.length = 32) (hr : r.length = 32) (h1 : 1 ≤ h) (h2 : h ≤ 32) : kindN (joinT h l r) = 3 := by
  have h0 : g8 (joinT h l r) 0 = 2 := by
    rw [joinT_ref]; rfl
  have h3 : (g8 (joinT h l r) 1).toNat = h := by
    rw [joinT_ref]
    show (UInt8.ofNat h).toNat = h
    rw [UInt8.toNat_ofNat']; omega
  unfold kindN
  rw [joinT_len hl hr, h0, h3, if_neg (by omega), if_neg (by omega), if_pos ⟨rfl, rfl, h1, h2⟩]
theorem shr4n {i : UInt64} (h : (4294967295:UInt64) < i) : i >>> UInt64.ofNat (8*4) ≠ 0 := by
  intro h0
  have h1 := congrArg UInt64.toNat h0
  rw [shr_divK _ 4 (by omega)] at h1
  have h2 := UInt64.lt_iff_toNat_lt.1 h
  have h3 : (4294967295:UInt64).toNat = 4294967295 := rfl
  have h4 : (0:UInt64).toNat = 0 := rfl
  rw [h3] at h2; rw [h4] at h1
  omega
theorem shr4z {i : UInt64} (h : ¬ (4294967295:UInt64) < i) : 4 < 8 → i >>> UInt64.ofNat (8*4) = 0 := fun _ => by
  apply UInt64.toNat_inj.1
  rw [shr_divK _ 4 (by omega)]
  have h2 := Nat.le_of_not_lt fun q => h (UInt64.lt_iff_toNat_lt.2 q)
  have h3 : (4294967295:UInt64).toNat = 4294967295 := rfl
  have h4 : (0:UInt64).toNat = 0 := rfl
  rw [h3] at h2; rw [h4]
  omega
theorem lt4 {i : UInt64} (h : ¬ (4294967295:UInt64) < i) : i.toNat / 256 ^ 4 = 0 := by
  have h2 := Nat.le_of_not_lt fun q => h (UInt64.lt_iff_toNat_lt.2 q)
  have h3 : (4294967295:UInt64).toNat = 4294967295 := rfl
  rw [h3] at h2
  omega
theorem numK_inj {k : Nat} {x y : UInt64} (hk : k ≤ 8) (hx : x.toNat / 256 ^ k = 0) (hy : y.toNat / 256 ^ k = 0) (h : numK k x k = numK k y k) : x = y := by
  rw [← valK_back k x hk hx, ← valK_back k y hk hy, h]
theorem numK8_inj {x y : UInt64} (h : numK 8 x 8 = numK 8 y 8) : x = y :=
  numK_inj (by omega) (Nat.div_eq_of_lt x.toNat_lt) (Nat.div_eq_of_lt y.toNat_lt) h
theorem putL_inj {e e' : UInt64} {d d' t t' : List UInt8} (hd : d.length = 32) (hd' : d'.length = 32) (h : putL e d t = putL e' d' t') : e = e' ∧ d = d' ∧ t = t' := by
  unfold putL at h
  obtain ⟨h1, h2⟩ := List.append_inj h (by rw [List.length_append, List.length_append, numK_len, numK_len, hd, hd'])
  obtain ⟨h3, h4⟩ := List.append_inj h1 (by rw [numK_len, numK_len])
  exact ⟨numK8_inj h3, h4, h2⟩
theorem leafT_inj {i j e e' : UInt64} {d d' t t' : List UInt8} (hi : ¬ (4294967295:UInt64) < i) (hj : ¬ (4294967295:UInt64) < j) (hd : d.length = 32) (hd' : d'.length = 32) (h : leafT i e d t = leafT j e' d' t') : i = j ∧ e = e' ∧ d = d' ∧ t = t' := by
  unfold leafT at h
  obtain ⟨h1, h2⟩ := List.append_inj h (by rw [List.length_append, List.length_append, numK_len, numK_len, numK_len])
  obtain ⟨h3, h4⟩ := List.append_inj h1 rfl
  exact ⟨numK_inj (by omega) (lt4 hi) (lt4 hj) h4, putL_inj hd hd' h2⟩
theorem leafT_same {i e e' : UInt64} {d d' t t' : List UInt8} (hi : ¬ (4294967295:UInt64) < i) (hd : d.length = 32) (hd' : d'.length = 32) : decide (leafT i e d t = leafT i e' d' t') = decide (e = e' ∧ d = d' ∧ t = t') :=
  decide_eq_decide.2 ⟨fun h => (leafT_inj hi hi hd hd' h).2, fun h => by rw [h.1, h.2.1, h.2.2]⟩
theorem joinT_inj {a b : Nat} {l l' r r' : List UInt8} (ha : a ≤ 32) (hb : b ≤ 32) (hl : l.length = 32) (hl' : l'.length = 32) (h : joinT a l r = joinT b l' r') : a = b ∧ l = l' ∧ r = r' := by
  rw [joinT_ref, joinT_ref] at h
  obtain ⟨h1, h2⟩ := List.append_inj h (by rw [List.length_append, List.length_append, hl, hl']; rfl)
  obtain ⟨h3, h4⟩ := List.append_inj h1 rfl
  have h5 : UInt8.ofNat a = UInt8.ofNat b := by simpa using h3
  have h6 := congrArg UInt8.toNat h5
  rw [UInt8.toNat_ofNat', UInt8.toNat_ofNat'] at h6
  exact ⟨by omega, h4, h2⟩
theorem joinT_same {a : Nat} {l r : List UInt8} (ha : a ≤ 32) (hl : l.length = 32) (hr : r.length = 32) : decide (joinT a l r = joinT a r l) = decide (l = r) :=
  decide_eq_decide.2 ⟨fun h => (joinT_inj ha ha hl hr h).2.1, fun h => by rw [h]⟩
theorem leaf_join {i e : UInt64} {d t l r : List UInt8} {h : Nat} (hd : d.length = 32) (ht : t.length = 16) (hl : l.length = 32) (hr : r.length = 32) : leafT i e d t ≠ joinT h l r := fun q => by
  have := congrArg List.length q
  rw [leafT_len hd ht, joinT_len hl hr] at this
  omega
theorem alive8 : g8 (empL 0) 0 = 110 ∧ g8 (empL 0) 1 = 52 ∧ g8 (empL 0) 2 = 11 ∧ g8 (empL 0) 3 = 156 := by decide +kernel
theorem shr8 {p : Nat} (h : p ≤ 255) : UInt64.ofNat p >>> UInt64.ofNat (8*1) = 0 := by
  apply UInt64.toNat_inj.1
  rw [shr_divK _ 1 (by omega), UInt64.toNat_ofNat']
  show p % 2 ^ 64 / 256 ^ 1 = 0
  omega
end Go.Proofs.YtncoifiafklkjaaDoor
