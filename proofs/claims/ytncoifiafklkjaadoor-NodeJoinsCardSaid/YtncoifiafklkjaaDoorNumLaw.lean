import Derived.Test.YtncoifiafklkjaaDoorSxErr
namespace Go.Proofs.YtncoifiafklkjaaDoor
open Go Go.Sx
set_option linter.unusedVariables false
set_option linter.unusedSimpArgs false
/-! numbers, most significant octet first -/
theorem ext8n {a b : List UInt8} (hl : a.length = b.length) (h : ∀ i, i < a.length → g8 a i = g8 b i) : a = b :=
  List.ext_getElem hl fun i h1 h2 => by
    have := h i h1
    rwa [g8_eq h1, g8_eq h2] at this
theorem g8_mr {f : Nat → UInt8} {n i : Nat} (h : i < n) : g8 ((List.range n).map f) i = f i := by
  rw [g8_eq (by simpa using h)]; simp
def numK (k : Nat) (x : UInt64) (j : Nat) : List UInt8 := (List.range j).map fun i => (x >>> UInt64.ofNat (8*k - 8*i - 8)).toUInt8
theorem numK_len (k : Nat) (x : UInt64) (j : Nat) : (numK k x j).length = j := by simp [numK]
theorem numK_zero (k : Nat) (x : UInt64) : numK k x 0 = [] := rfl
theorem numK_succ (k : Nat) (x : UInt64) (j : Nat) : numK k x (j + 1) = numK k x j ++ [(x >>> UInt64.ofNat (8*k - 8*j - 8)).toUInt8] := by
  simp [numK, List.range_succ]
/-- the reference's number -/
def rnK (k : Nat) (x : UInt64) : Nat → List UInt8 × UInt64
  | 0 => (zr8 k, x)
  | j + 1 => ((rnK k x j).1.set (k - j - 1) ((rnK k x j).2 % 256).toUInt8, (rnK k x j).2 / 256)
theorem rnK_len (k : Nat) (x : UInt64) : ∀ j, (rnK k x j).1.length = k
  | 0 => zr8_len k
  | j + 1 => by rw [rnK]; simp [rnK_len k x j]
theorem rnK_snd (k : Nat) (x : UInt64) : ∀ j, (rnK k x j).2.toNat = x.toNat / 256 ^ j
  | 0 => by simp [rnK]
  | j + 1 => by
    rw [rnK]
    show ((rnK k x j).2 / 256).toNat = _
    rw [UInt64.toNat_div, rnK_snd k x j, Nat.pow_succ, ← Nat.div_div_eq_div_mul]
    rfl
theorem u8_modK (y : UInt64) : (y % 256).toUInt8 = y.toUInt8 := by
  apply UInt8.toNat_inj.1
  rw [UInt64.toNat_toUInt8, UInt64.toNat_toUInt8, UInt64.toNat_mod]
  show y.toNat % 256 % 2 ^ 8 = _
  omega
theorem shr_divK (x : UInt64) (j : Nat) (h : j ≤ 7) : (x >>> UInt64.ofNat (8*j)).toNat = x.toNat / 256 ^ j := by
  have : (UInt64.ofNat (8*j)).toNat = 8*j := by rw [UInt64.toNat_ofNat']; exact Nat.mod_eq_of_lt (by omega)
  rw [UInt64.toNat_shiftRight, this, Nat.mod_eq_of_lt (by omega), Nat.shiftRight_eq_div_pow, Nat.pow_mul]
theorem rnK_get (k : Nat) (x : UInt64) (hk : k ≤ 8) : ∀ j, j ≤ k → ∀ i, k - j ≤ i → i < k → g8 (rnK k x j).1 i = (x >>> UInt64.ofNat (8*k - 8*i - 8)).toUInt8
  | 0, _, i, h1, h2 => by omega
  | j + 1, h, i, h1, h2 => by
    rw [rnK]
    show g8 ((rnK k x j).1.set (k - j - 1) ((rnK k x j).2 % 256).toUInt8) i = _
    rw [g8_set _ _ _ _ (by rw [rnK_len]; omega)]
    by_cases hi : k - j - 1 = i
    · rw [if_pos hi, u8_modK]
      have : (rnK k x j).2 = x >>> UInt64.ofNat (8*j) := UInt64.toNat_inj.1 (by rw [rnK_snd k x j, shr_divK x j (by omega)])
      rw [this]
      have e : 8*k - 8*i - 8 = 8*j := by omega
      rw [e]
    · rw [if_neg hi]
      exact rnK_get k x hk j (by omega) i (by omega) h2
theorem rnK_num (k : Nat) (x : UInt64) (hk : k ≤ 8) : (rnK k x k).1 = numK k x k :=
  ext8n (by rw [rnK_len, numK_len]) fun i hi => by
    rw [rnK_len] at hi
    rw [rnK_get k x hk k (Nat.le_refl _) i (by omega) hi, numK, g8_mr hi]
/-- a number without its last octets -/
def ftN (x : UInt64) : Nat → UInt64
  | 0 => x
  | j + 1 => ftN x j / 256
theorem ftN_nat (x : UInt64) : ∀ j, (ftN x j).toNat = x.toNat / 256 ^ j
  | 0 => by simp [ftN]
  | j + 1 => by
    rw [ftN, UInt64.toNat_div, ftN_nat x j, Nat.pow_succ, ← Nat.div_div_eq_div_mul]
    rfl
theorem ftN_eight (x : UInt64) : ftN x 8 = 0 := by
  apply UInt64.toNat_inj.1
  rw [ftN_nat]
  have := UInt64.toNat_lt x
  show x.toNat / 256 ^ 8 = 0
  omega
theorem ftN_shr (x : UInt64) (j : Nat) (h : j ≤ 7) : x >>> UInt64.ofNat (8*j) = ftN x j := UInt64.toNat_inj.1 (by rw [shr_divK x j h, ftN_nat])
/-- a number's octets put together -/
def valK (l : List UInt8) : Nat → UInt64
  | 0 => 0
  | j + 1 => (valK l j <<< 8) ||| (g8 l j).toUInt64
def rvalK (l : List UInt8) : Nat → UInt64
  | 0 => 0
  | j + 1 => rvalK l j * 256 + (g8 l j).toUInt64
theorem or_nat (a b : Nat) (hb : b < 256) : ((a * 256) ||| b) = a * 256 + b := by
  have h := Nat.shiftLeft_add_eq_or_of_lt (i := 8) (b := b) (by simpa using hb) a
  rw [Nat.shiftLeft_eq] at h
  exact h.symm
theorem shl_or (x : UInt64) (b : UInt8) : (x <<< 8) ||| b.toUInt64 = x * 256 + b.toUInt64 := by
  apply UInt64.toNat_inj.1
  have hx := UInt64.toNat_lt x
  have hb := UInt8.toNat_lt b
  rw [UInt64.toNat_or, UInt64.toNat_shiftLeft, UInt64.toNat_add, UInt64.toNat_mul, UInt8.toNat_toUInt64]
  show (x.toNat <<< (8 % 64)) % 2 ^ 64 ||| b.toNat = (x.toNat * 256 % 2 ^ 64 + b.toNat) % 2 ^ 64
  rw [Nat.shiftLeft_eq]
  have e : x.toNat * 2 ^ (8 % 64) % 2 ^ 64 = (x.toNat % 2 ^ 56) * 256 := by
    show x.toNat * 256 % 2 ^ 64 = _
    omega
  rw [e, or_nat _ _ (by omega)]
  omega
theorem rvalK_eq (l : List UInt8) : ∀ j, rvalK l j = valK l j
  | 0 => rfl
  | j + 1 => by rw [rvalK, valK, shl_or, rvalK_eq l j]
theorem valK_num (k : Nat) (x : UInt64) (hk : k ≤ 8) (hx : x.toNat / 256 ^ k = 0) : ∀ j, j ≤ k → (valK (numK k x k) j).toNat = x.toNat / 256 ^ (k - j)
  | 0, _ => by simp only [valK, Nat.sub_zero, hx]; rfl
  | j + 1, h => by
    have ih := valK_num k x hk hx j (by omega)
    have hl := UInt64.toNat_lt x
    rw [valK, shl_or, UInt64.toNat_add, UInt64.toNat_mul, ih, UInt8.toNat_toUInt64, numK, g8_mr (by omega), UInt64.toNat_toUInt8]
    have e : 8*k - 8*j - 8 = 8*(k - 1 - j) := by omega
    rw [e, shr_divK x _ (by omega)]
    have e2 : 256 ^ (k - j) = 256 ^ (k - 1 - j) * 256 := by rw [← Nat.pow_succ]; congr 1; omega
    have e3 : k - (j + 1) = k - 1 - j := by omega
    rw [e2, e3, ← Nat.div_div_eq_div_mul]
    have h4 : x.toNat / 256 ^ (k - 1 - j) ≤ x.toNat := Nat.div_le_self _ _
    generalize x.toNat / 256 ^ (k - 1 - j) = y at *
    show ((y / 256) * 256 % 2 ^ 64 + y % 2 ^ 8) % 2 ^ 64 = y
    omega
theorem valK_back (k : Nat) (x : UInt64) (hk : k ≤ 8) (hx : x.toNat / 256 ^ k = 0) : valK (numK k x k) k = x :=
  UInt64.toNat_inj.1 (by rw [valK_num k x hk hx k (Nat.le_refl _)]; simp)
/-- it looks at no more than there is -/
theorem valK_congr {a b : List UInt8} : ∀ j, (∀ i, i < j → g8 a i = g8 b i) → valK a j = valK b j
  | 0, _ => rfl
  | j + 1, h => by rw [valK, valK, valK_congr j (fun i hi => h i (by omega)), h j (by omega)]
/-- the first error stays -/
def erN (e k : Nat) : Nat := if e = 0 then k else e
theorem slcL {b o l l' c : Nat} (h : l = l') : Slc b o l c = Slc b o l' c := by rw [h]
def bitU (b : Bool) : UInt64 := if b then 1 else 0
theorem shr16 {p : Nat} (h : p ≤ 65535) : UInt64.ofNat p >>> UInt64.ofNat (8*2) = 0 := by
  apply UInt64.toNat_inj.1
  rw [shr_divK _ 2 (by omega), UInt64.toNat_ofNat']
  show p % 2 ^ 64 / 256 ^ 2 = 0
  omega
def hashL (z : List UInt8) : List UInt8 := (z ++ zr8 32).take 32
theorem hashL_len (z : List UInt8) : (hashL z).length = 32 := by simp [hashL, zr8]
theorem hashL_big {z : List UInt8} (h : 32 ≤ z.length) : hashL z = mid z 0 32 := by
  simp only [hashL, mid, List.drop_zero]
  rw [List.take_append_of_le_length h]
theorem hashL_small {z : List UInt8} (h : z.length ≤ 32) : hashL z = spl (zr8 32) 0 z := by
  simp only [hashL, spl, List.take_zero, List.nil_append, Nat.zero_add]
  rw [List.take_append, List.take_of_length_le h]
  congr 1
  rw [zr8, List.take_replicate, List.drop_replicate]
  congr 1
  omega
def Szd (s : Int) : Prop := s = 1 ∨ s = 2 ∨ s = 4 ∨ s = 8
end Go.Proofs.YtncoifiafklkjaaDoor
