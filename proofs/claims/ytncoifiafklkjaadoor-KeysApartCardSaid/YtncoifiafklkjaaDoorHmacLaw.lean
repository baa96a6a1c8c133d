import Derived.Test.YtncoifiafklkjaaDoorSha7
import Derived.Test.YtncoifiafklkjaaDoorSxW
namespace Go.Proofs.YtncoifiafklkjaaDoor
open Go Go.Sx
set_option linter.unusedVariables false
set_option linter.unusedSimpArgs false
/-! HMAC: what the program's and the reference's functions compute. -/
def blkL (b : List UInt8) : List UInt8 := if 64 < b.length then spl (zr8 64) 0 (sumG constL initL b) else spl (zr8 64) 0 b
theorem blkL_len (b : List UInt8) : (blkL b).length = 64 := by
  unfold blkL
  split
  · rw [spl_len (by rw [sumG_len, zr8_len]; omega), zr8_len]
  · rw [spl_len (by rw [zr8_len]; omega), zr8_len]
theorem spl_zr (v : List UInt8) {n : Nat} (h : v.length = n) : spl (zr8 64) 0 v = v ++ zr8 (64 - n) := by
  subst h
  rw [spl, List.take_zero, List.nil_append, Nat.zero_add, zr8, zr8, List.drop_replicate]
theorem blkL_big {b : List UInt8} (h : 64 < b.length) : blkL b = sumG constL initL b ++ zr8 32 := by
  rw [blkL, if_pos h, spl_zr _ (sumG_len _ _ _)]
theorem blkL_small {b : List UInt8} (h : b.length ≤ 64) : blkL b = b ++ zr8 (64 - b.length) := by
  rw [blkL, if_neg (by omega), spl_zr _ rfl]
def xbN (b : List UInt8) (x : UInt8) : Nat → List UInt8
  | 0 => b
  | k + 1 => (xbN b x k).set k (g8 (xbN b x k) k ^^^ x)
theorem xbN_len (b : List UInt8) (x : UInt8) : ∀ k, (xbN b x k).length = b.length
  | 0 => rfl
  | k + 1 => by rw [xbN, List.length_set, xbN_len b x k]
theorem xbN_len64 {b : List UInt8} (x : UInt8) (k : Nat) (h : b.length = 64) : (xbN b x k).length = 64 := (xbN_len b x k).trans h
theorem xbN_get (b : List UInt8) (x : UInt8) : ∀ k, k ≤ b.length → ∀ j, g8 (xbN b x k) j = if j < k then g8 b j ^^^ x else g8 b j
  | 0, _, j => by simp [xbN]
  | k + 1, h, j => by
    rw [xbN, g8_set _ _ _ _ (by rw [xbN_len]; omega)]
    by_cases hj : k = j
    · subst hj; rw [if_pos rfl, if_pos (by omega), xbN_get b x k (by omega), if_neg (by omega)]
    · rw [if_neg hj, xbN_get b x k (by omega)]
      by_cases h2 : j < k
      · rw [if_pos h2, if_pos (by omega)]
      · rw [if_neg h2, if_neg (by omega)]
def raN (b : List UInt8) (x : UInt8) : Nat → List UInt8
  | 0 => []
  | k + 1 => raN b x k ++ [g8 b k ^^^ x]
theorem raN_len (b : List UInt8) (x : UInt8) : ∀ k, (raN b x k).length = k
  | 0 => rfl
  | k + 1 => by rw [raN, List.length_append, raN_len b x k]; rfl
theorem raN_get (b : List UInt8) (x : UInt8) : ∀ k j, j < k → g8 (raN b x k) j = g8 b j ^^^ x
  | 0, j, h => by omega
  | k + 1, j, h => by
    rw [raN]
    by_cases hj : j < k
    · rw [g8_app, raN_len, if_pos hj, raN_get b x k j hj]
    · obtain rfl : j = k := by omega
      rw [g8_app, raN_len, if_neg (by omega), Nat.sub_self]; rfl
theorem raN_xbN {b : List UInt8} (x : UInt8) (h : b.length = 64) : raN b x 64 = xbN b x 64 :=
  ext8 (by rw [raN_len, xbN_len, h]) fun j hj => by
    rw [raN_len] at hj
    rw [raN_get b x 64 j hj, xbN_get b x 64 (by omega), if_pos hj]
def macL (b t : List UInt8) : List UInt8 := sumG constL initL (xbN (blkL b) 92 64 ++ sumG constL initL (xbN (blkL b) 54 64 ++ t))
theorem macL_len (b t : List UInt8) : (macL b t).length = 32 := sumG_len _ _ _
/-- Same: the bits in which two texts differ -/
def orN (x y : List UInt8) : Nat → UInt8
  | 0 => 0
  | i + 1 => orN x y i ||| (g8 x i ^^^ g8 y i)
theorem or_zero {a b : UInt8} : (a ||| b = 0) ↔ a = 0 ∧ b = 0 := by
  constructor
  · intro h
    have h2 : a.toBitVec ||| b.toBitVec = 0 := by
      have := congrArg UInt8.toBitVec h
      simpa using this
    have ha : a.toBitVec = 0 := by
      apply BitVec.eq_of_getElem_eq
      intro i hi
      have := congrArg (fun v => v[i]) h2
      simp at this
      simpa using this.1
    have hb : b.toBitVec = 0 := by
      apply BitVec.eq_of_getElem_eq
      intro i hi
      have := congrArg (fun v => v[i]) h2
      simp at this
      simpa using this.2
    exact ⟨UInt8.toBitVec_inj.1 ha, UInt8.toBitVec_inj.1 hb⟩
  · rintro ⟨rfl, rfl⟩; rfl
theorem xor_zero {a b : UInt8} : (a ^^^ b = 0) ↔ a = b := UInt8.xor_eq_zero_iff
theorem orN_zero (x y : List UInt8) : ∀ n, (orN x y n = 0) ↔ ∀ i, i < n → g8 x i = g8 y i
  | 0 => by simp [orN]
  | n + 1 => by
    rw [orN, or_zero, xor_zero, orN_zero x y n]
    constructor
    · rintro ⟨h1, h2⟩ i hi
      by_cases h : i = n
      · subst h; exact h2
      · exact h1 i (by omega)
    · intro h; exact ⟨fun i hi => h i (by omega), h n (by omega)⟩
theorem orN_same {x y : List UInt8} {n : Nat} (hx : x.length = n) (hy : y.length = n) : decide (orN x y n = 0) = decide (x = y) := by
  have : (orN x y n = 0) ↔ x = y := by
    rw [orN_zero]
    constructor
    · intro h; exact ext8 (by rw [hx, hy]) fun j hj => h j (by omega)
    · rintro rfl _ _; rfl
  by_cases h : x = y
  · rw [decide_eq_true h, decide_eq_true (this.2 h)]
  · rw [decide_eq_false h, decide_eq_false (fun h2 => h (this.1 h2))]
end Go.Proofs.YtncoifiafklkjaaDoor
