import Derived.Test.YtncoifiafklkjaaDoorHmac4
import Derived.Test.YtncoifiafklkjaaDoorSxX
namespace Go.Proofs.YtncoifiafklkjaaDoor
open Go Go.Sx
set_option linter.unusedVariables false
set_option linter.unusedSimpArgs false
/-! numbers, most significant octet first -/
def numN (k : Nat) (x : UInt64) (j : Nat) : List UInt8 := (List.range j).map fun i => (x >>> UInt64.ofNat (8*k - 8 - 8*i)).toUInt8
theorem numN_len (k : Nat) (x : UInt64) (j : Nat) : (numN k x j).length = j := by simp [numN]
theorem numN_zero (k : Nat) (x : UInt64) : numN k x 0 = [] := rfl
theorem numN_succ (k : Nat) (x : UInt64) (j : Nat) : numN k x (j + 1) = numN k x j ++ [(x >>> UInt64.ofNat (8*k - 8 - 8*j)).toUInt8] := by
  simp [numN, List.range_succ]
/-- the reference's number -/
def rnN (x : UInt64) : Nat → List UInt8 × UInt64
  | 0 => (zr8 8, x)
  | j + 1 => ((rnN x j).1.set (7 - j) ((rnN x j).2 % 256).toUInt8, (rnN x j).2 / 256)
theorem rnN_len (x : UInt64) : ∀ j, (rnN x j).1.length = 8
  | 0 => zr8_len 8
  | j + 1 => by rw [rnN]; simp [rnN_len x j]
theorem rnN_snd (x : UInt64) : ∀ j, j ≤ 7 → (rnN x j).2.toNat = x.toNat / 256 ^ j
  | 0, _ => by simp [rnN]
  | j + 1, h => by
    rw [rnN]
    show ((rnN x j).2 / 256).toNat = _
    rw [UInt64.toNat_div, rnN_snd x j (by omega), Nat.pow_succ, ← Nat.div_div_eq_div_mul]
    rfl
theorem u8_mod (y : UInt64) : (y % 256).toUInt8 = y.toUInt8 := by
  apply UInt8.toNat_inj.1
  rw [UInt64.toNat_toUInt8, UInt64.toNat_toUInt8, UInt64.toNat_mod]
  show y.toNat % 256 % 2 ^ 8 = _
  omega
theorem shr_div (x : UInt64) (j : Nat) (h : j ≤ 7) : (x >>> UInt64.ofNat (8*j)).toNat = x.toNat / 256 ^ j := by
  have : (UInt64.ofNat (8*j)).toNat = 8*j := by rw [UInt64.toNat_ofNat']; exact Nat.mod_eq_of_lt (by omega)
  rw [UInt64.toNat_shiftRight, this, Nat.mod_eq_of_lt (by omega), Nat.shiftRight_eq_div_pow, Nat.pow_mul]
theorem rnN_get (x : UInt64) : ∀ j, j ≤ 8 → ∀ i, 8 - j ≤ i → i < 8 → g8 (rnN x j).1 i = (x >>> UInt64.ofNat (56 - 8*i)).toUInt8
  | 0, _, i, h1, h2 => by omega
  | j + 1, h, i, h1, h2 => by
    rw [rnN]
    show g8 ((rnN x j).1.set (7 - j) ((rnN x j).2 % 256).toUInt8) i = _
    rw [g8_set _ _ _ _ (by rw [rnN_len]; omega)]
    by_cases hi : 7 - j = i
    · rw [if_pos hi, u8_mod]
      have : (rnN x j).2 = x >>> UInt64.ofNat (8*j) := UInt64.toNat_inj.1 (by rw [rnN_snd x j (by omega), shr_div x j (by omega)])
      rw [this]
      have e : 56 - 8*i = 8*j := by omega
      rw [e]
    · rw [if_neg hi]
      exact rnN_get x j (by omega) i (by omega) h2
theorem rnN_num (x : UInt64) : (rnN x 8).1 = numN 8 x 8 :=
  ext8 (by rw [rnN_len, numN_len]) fun i hi => by
    rw [rnN_len] at hi
    rw [rnN_get x 8 (by omega) i (by omega) hi, numN, g8_map_range hi]
theorem midmac_len (k t : List UInt8) : (mid (macL k t) 0 16).length = 16 := mid_len (by rw [macL_len]; omega)
def lblL (k t : List UInt8) : List UInt8 := macL k t
def sessL (s : List UInt8) (x : UInt64) : List UInt8 := macL s (numN 8 x 8)
end Go.Proofs.YtncoifiafklkjaaDoor
