import Derived.Test.YtncoifiafklkjaaSxQ
namespace Go.Sx
/-! The counter mode: what the program's and the reference's functions compute. -/
def nxS (k : Nat) (p : UInt64 × List UInt8 × UInt64) : UInt64 × List UInt8 × UInt64 :=
  ((((g8 p.2.1 (15 - k)).toUInt64 + (p.2.2 &&& 255)) + p.1) >>> 8, p.2.1.set (15 - k) (((g8 p.2.1 (15 - k)).toUInt64 + (p.2.2 &&& 255)) + p.1).toUInt8, p.2.2 >>> 8)
def nxN (c : List UInt8) (n : UInt64) : Nat → UInt64 × List UInt8 × UInt64
  | 0 => (0, c, n)
  | k + 1 => nxS k (nxN c n k)
def nextL (c : List UInt8) (n : UInt64) : List UInt8 := (nxN c n 16).2.1
theorem nxN_len (c : List UInt8) (n : UInt64) : ∀ k, (nxN c n k).2.1.length = c.length
  | 0 => rfl
  | k + 1 => by simp [nxN, nxS, nxN_len c n k]
theorem nextL_len {c : List UInt8} {n : UInt64} (h : c.length = 16) : (nextL c n).length = 16 := by rw [nextL, nxN_len, h]
def rvN (c : List UInt8) : Nat → UInt64 × UInt64
  | 0 => (0, 0)
  | k + 1 => ((rvN c k).1 * 256 + (g8 c (k + 8)).toUInt64, (rvN c k).2 * 256 + (g8 c k).toUInt64)
def rwN (c : List UInt8) (lo hi : UInt64) : Nat → List UInt8 × UInt64 × UInt64
  | 0 => (c, lo, hi)
  | k + 1 => (((rwN c lo hi k).1.set (7 - k) (rwN c lo hi k).2.2.toUInt8).set (15 - k) (rwN c lo hi k).2.1.toUInt8, (rwN c lo hi k).2.1 / 256, (rwN c lo hi k).2.2 / 256)
def rnextL (c : List UInt8) (n : UInt64) : List UInt8 :=
  (rwN c ((rvN c 8).1 + n) (if (rvN c 8).1 + n < (rvN c 8).1 then (rvN c 8).2 + 1 else (rvN c 8).2) 8).1
theorem rwN_len (c : List UInt8) (lo hi : UInt64) : ∀ k, (rwN c lo hi k).1.length = c.length
  | 0 => rfl
  | k + 1 => by simp [rwN, rwN_len c lo hi k]
theorem rnextL_len {c : List UInt8} {n : UInt64} (h : c.length = 16) : (rnextL c n).length = 16 := by rw [rnextL, rwN_len, h]
def ctrN (c : List UInt8) : Nat → List UInt8
  | 0 => c
  | k + 1 => nextL (ctrN c k) 1
theorem ctrN_len {c : List UInt8} (h : c.length = 16) : ∀ k, (ctrN c k).length = 16
  | 0 => h
  | k + 1 => nextL_len (ctrN_len h k)
def xorN (s b : List UInt8) : Nat → List UInt8
  | 0 => s
  | k + 1 => (xorN s b k).set k (g8 (xorN s b k) k ^^^ g8 b k)
theorem xorN_len (s b : List UInt8) : ∀ k, (xorN s b k).length = s.length
  | 0 => rfl
  | k + 1 => by simp [xorN, xorN_len s b k]

/-! values -/
/-- the last k bytes as a number -/
def lowV (c : List UInt8) : Nat → Nat
  | 0 => 0
  | k + 1 => lowV c k + 256 ^ k * (g8 c (15 - k)).toNat
theorem lowV_set {c : List UInt8} (h : c.length = 16) (i : Nat) (v : UInt8) : ∀ k, k ≤ i → i ≤ 15 → lowV (c.set (15 - i) v) k = lowV c k
  | 0, _, _ => rfl
  | k + 1, hk, hi => by
    rw [lowV, lowV, lowV_set h i v k (by omega) hi, g8_set _ _ _ _ (by omega), if_neg (by omega)]
theorem lowV_lt {c : List UInt8} : ∀ k, lowV c k < 256 ^ k
  | 0 => by simp [lowV]
  | k + 1 => by
    have h1 := @lowV_lt c k
    have h2 := (g8 c (15 - k)).toNat_lt
    have h3 : 256 ^ k * (g8 c (15 - k)).toNat ≤ 256 ^ k * 255 := Nat.mul_le_mul_left _ (by omega)
    rw [lowV, Nat.pow_succ]; omega
theorem lowV_inj {a b : List UInt8} (ha : a.length = 16) (hb : b.length = 16) (h : lowV a 16 = lowV b 16) : a = b := by
  have key : ∀ k, k ≤ 16 → lowV a k = lowV b k → ∀ j, j < k → g8 a (15 - j) = g8 b (15 - j) := by
    intro k
    induction k with
    | zero => intro _ _ j hj; omega
    | succ k ih =>
      intro hk h j hj
      rw [lowV, lowV] at h
      have h1 := @lowV_lt a k
      have h2 := @lowV_lt b k
      have e1 : (g8 a (15 - k)).toNat = (g8 b (15 - k)).toNat := by
        have hp : 0 < 256 ^ k := Nat.pow_pos (by omega)
        have := congrArg (· / 256 ^ k) h
        simpa [Nat.add_mul_div_left _ _ hp, Nat.div_eq_of_lt h1, Nat.div_eq_of_lt h2] using this
      have e2 : lowV a k = lowV b k := by rw [e1] at h; omega
      by_cases hjk : j = k
      · subst hjk; exact UInt8.toNat_inj.1 e1
      · exact ih (by omega) e2 j (by omega)
  refine ext8 (by omega) fun j hj => ?_
  have := key 16 (by omega) h (15 - j) (by omega)
  rwa [show 15 - (15 - j) = j from by omega] at this
theorem nxN_far (c : List UInt8) (n : UInt64) (h : c.length = 16) : ∀ k, k ≤ 16 → ∀ j, k ≤ j → j ≤ 15 → g8 (nxN c n k).2.1 (15 - j) = g8 c (15 - j)
  | 0, _, j, _, _ => rfl
  | k + 1, hk, j, hj, hj2 => by
    show g8 ((nxN c n k).2.1.set (15 - k) _) (15 - j) = _
    rw [g8_set _ _ _ _ (by rw [nxN_len]; omega), if_neg (by omega)]
    exact nxN_far c n h k (by omega) j (by omega) hj2
theorem nxN_n (c : List UInt8) (n : UInt64) : ∀ k, (nxN c n k).2.2.toNat = n.toNat / 256 ^ k
  | 0 => by simp [nxN]
  | k + 1 => by
    show ((nxN c n k).2.2 >>> 8).toNat = _
    rw [UInt64.toNat_shiftRight, nxN_n c n k, Nat.shiftRight_eq_div_pow, Nat.pow_succ, ← Nat.div_div_eq_div_mul]
    rfl
theorem nxN_inv (c : List UInt8) (n : UInt64) (h : c.length = 16) : ∀ k, k ≤ 16 → (nxN c n k).1.toNat ≤ 1 ∧ lowV (nxN c n k).2.1 k + 256 ^ k * (nxN c n k).1.toNat = lowV c k + n.toNat % 256 ^ k
  | 0, _ => by simp [nxN, lowV, Nat.mod_one]
  | k + 1, hk => by
    obtain ⟨h1, h2⟩ := nxN_inv c n h k (by omega)
    have hl : (nxN c n k).2.1.length = 16 := by rw [nxN_len, h]
    have hn := nxN_n c n k
    have hf := nxN_far c n h k (by omega) k (by omega) (by omega)
    have hand : ((nxN c n k).2.2 &&& 255).toNat = n.toNat / 256 ^ k % 256 := by
      rw [UInt64.toNat_and, hn, show (255 : UInt64).toNat = 2 ^ 8 - 1 from rfl, Nat.and_two_pow_sub_one_eq_mod]
    have hg := (g8 c (15 - k)).toNat_lt
    have hm : n.toNat / 256 ^ k % 256 < 256 := Nat.mod_lt _ (by omega)
    have hs : (((g8 (nxN c n k).2.1 (15 - k)).toUInt64 + ((nxN c n k).2.2 &&& 255)) + (nxN c n k).1).toNat = (g8 c (15 - k)).toNat + n.toNat / 256 ^ k % 256 + (nxN c n k).1.toNat := by
      rw [UInt64.toNat_add, UInt64.toNat_add, hand, hf, UInt8.toNat_toUInt64]
      omega
    generalize hS : ((g8 (nxN c n k).2.1 (15 - k)).toUInt64 + ((nxN c n k).2.2 &&& 255)) + (nxN c n k).1 = s at hs
    have e1 : (nxN c n (k + 1)).1 = s >>> 8 := by rw [← hS]; rfl
    have e2 : (nxN c n (k + 1)).2.1 = (nxN c n k).2.1.set (15 - k) s.toUInt8 := by rw [← hS]; rfl
    have e3 : (s >>> 8).toNat = s.toNat / 256 := by rw [UInt64.toNat_shiftRight, Nat.shiftRight_eq_div_pow]; rfl
    have e4 : s.toUInt8.toNat = s.toNat % 256 := by rw [UInt64.toNat_toUInt8]
    rw [e1, e2, e3]
    refine ⟨by omega, ?_⟩
    rw [lowV, lowV_set hl k _ k (by omega) (by omega), g8_set _ _ _ _ (by omega), if_pos rfl, e4, lowV]
    have hpm : n.toNat % 256 ^ (k + 1) = n.toNat % 256 ^ k + 256 ^ k * (n.toNat / 256 ^ k % 256) := by
      rw [Nat.pow_succ, Nat.mod_mul]
    rw [hpm, Nat.pow_succ]
    have hq : 256 ^ k * (s.toNat % 256) + 256 ^ k * 256 * (s.toNat / 256) = 256 ^ k * s.toNat := by
      rw [Nat.mul_assoc, ← Nat.mul_add, Nat.mod_add_div]
    have hr : 256 ^ k * s.toNat = 256 ^ k * (g8 c (15 - k)).toNat + 256 ^ k * (n.toNat / 256 ^ k % 256) + 256 ^ k * (nxN c n k).1.toNat := by
      rw [hs, Nat.mul_add, Nat.mul_add]
    omega
theorem nextL_val {c : List UInt8} {n : UInt64} (h : c.length = 16) : lowV (nextL c n) 16 = (lowV c 16 + n.toNat) % 256 ^ 16 := by
  obtain ⟨h1, h2⟩ := nxN_inv c n h 16 (by omega)
  have hn : n.toNat % 256 ^ 16 = n.toNat := Nat.mod_eq_of_lt (by have := n.toNat_lt; omega)
  rw [hn] at h2
  have hl := @lowV_lt (nextL c n) 16
  rw [← h2]
  show _ = (lowV (nextL c n) 16 + _) % _
  rw [Nat.add_mul_mod_self_left, Nat.mod_eq_of_lt hl]
/-- the reference's numbers -/
theorem rvN_val (c : List UInt8) (h : c.length = 16) : ∀ k, k ≤ 8 → (rvN c k).1.toNat * 256 ^ (8 - k) + lowV c (8 - k) = lowV c 8 ∧ (rvN c k).1.toNat < 256 ^ k ∧
    (rvN c k).2.toNat * 256 ^ (16 - k) + lowV c (16 - k) = lowV c 16 ∧ (rvN c k).2.toNat < 256 ^ k
  | 0, _ => by simp [rvN]
  | k + 1, hk => by
    obtain ⟨h1, h2, h3, h4⟩ := rvN_val c h k (by omega)
    have hp : 256 ^ k * 256 ≤ 256 ^ 8 := by rw [← Nat.pow_succ]; exact Nat.pow_le_pow_right (by omega) (by omega)
    have g1 := (g8 c (k + 8)).toNat_lt
    have g2 := (g8 c k).toNat_lt
    have e1 : ((rvN c k).1 * 256 + (g8 c (k + 8)).toUInt64).toNat = (rvN c k).1.toNat * 256 + (g8 c (k + 8)).toNat := by
      rw [UInt64.toNat_add, UInt64.toNat_mul, UInt8.toNat_toUInt64]
      simp only [show (256 : UInt64).toNat = 256 from rfl]
      omega
    have e2 : ((rvN c k).2 * 256 + (g8 c k).toUInt64).toNat = (rvN c k).2.toNat * 256 + (g8 c k).toNat := by
      rw [UInt64.toNat_add, UInt64.toNat_mul, UInt8.toNat_toUInt64]
      simp only [show (256 : UInt64).toNat = 256 from rfl]
      omega
    have s1 : 8 - k = (8 - (k + 1)) + 1 := by omega
    have s2 : 16 - k = (16 - (k + 1)) + 1 := by omega
    rw [s1, lowV, Nat.pow_succ, show 15 - (8 - (k + 1)) = k + 8 from by omega] at h1
    rw [s2, lowV, Nat.pow_succ, show 15 - (16 - (k + 1)) = k from by omega] at h3
    refine ⟨?_, ?_, ?_, ?_⟩
    · show ((rvN c k).1 * 256 + (g8 c (k + 8)).toUInt64).toNat * _ + _ = _
      rw [e1, Nat.add_mul, Nat.mul_assoc, Nat.mul_comm 256]
      rw [Nat.mul_comm (g8 c (k + 8)).toNat]; omega
    · show ((rvN c k).1 * 256 + (g8 c (k + 8)).toUInt64).toNat < _
      rw [e1, Nat.pow_succ]; omega
    · show ((rvN c k).2 * 256 + (g8 c k).toUInt64).toNat * _ + _ = _
      rw [e2, Nat.add_mul, Nat.mul_assoc, Nat.mul_comm 256]
      rw [Nat.mul_comm (g8 c k).toNat]; omega
    · show ((rvN c k).2 * 256 + (g8 c k).toUInt64).toNat < _
      rw [e2, Nat.pow_succ]; omega
theorem rwN_nums (c : List UInt8) (lo hi : UInt64) : ∀ k, (rwN c lo hi k).2.1.toNat = lo.toNat / 256 ^ k ∧ (rwN c lo hi k).2.2.toNat = hi.toNat / 256 ^ k
  | 0 => by simp [rwN]
  | k + 1 => by
    obtain ⟨h1, h2⟩ := rwN_nums c lo hi k
    constructor
    · show ((rwN c lo hi k).2.1 / 256).toNat = _
      rw [UInt64.toNat_div, h1, Nat.pow_succ, ← Nat.div_div_eq_div_mul]; rfl
    · show ((rwN c lo hi k).2.2 / 256).toNat = _
      rw [UInt64.toNat_div, h2, Nat.pow_succ, ← Nat.div_div_eq_div_mul]; rfl
theorem rwN_get (c : List UInt8) (lo hi : UInt64) (h : c.length = 16) : ∀ k, k ≤ 8 → ∀ j, j < k →
    (g8 (rwN c lo hi k).1 (15 - j)).toNat = lo.toNat / 256 ^ j % 256 ∧ (g8 (rwN c lo hi k).1 (7 - j)).toNat = hi.toNat / 256 ^ j % 256
  | 0, _, j, hj => by omega
  | k + 1, hk, j, hj => by
    have hl : (rwN c lo hi k).1.length = 16 := by rw [rwN_len, h]
    obtain ⟨n1, n2⟩ := rwN_nums c lo hi k
    show (g8 (((rwN c lo hi k).1.set (7 - k) _).set (15 - k) _) (15 - j)).toNat = _ ∧ (g8 (((rwN c lo hi k).1.set (7 - k) _).set (15 - k) _) (7 - j)).toNat = _
    rw [g8_set _ _ _ _ (by rw [List.length_set]; omega), g8_set _ _ _ _ (by omega), g8_set _ _ _ _ (by rw [List.length_set]; omega), g8_set _ _ _ _ (by omega)]
    by_cases hjk : j = k
    · subst hjk
      rw [if_pos rfl, if_neg (by omega), if_pos rfl, UInt64.toNat_toUInt8, UInt64.toNat_toUInt8, n1, n2]
      exact ⟨rfl, rfl⟩
    · obtain ⟨a1, a2⟩ := rwN_get c lo hi h k (by omega) j (by omega)
      rw [if_neg (by omega), if_neg (by omega), if_neg (by omega), if_neg (by omega)]
      exact ⟨a1, a2⟩
theorem digits_mod (x : Nat) : ∀ k, x % 256 ^ (k + 1) = x % 256 ^ k + 256 ^ k * (x / 256 ^ k % 256) := fun k => by rw [Nat.pow_succ, Nat.mod_mul]
theorem rwN_val (c : List UInt8) (lo hi : UInt64) (h : c.length = 16) : lowV (rwN c lo hi 8).1 16 = lo.toNat + 256 ^ 8 * hi.toNat := by
  have hg := rwN_get c lo hi h 8 (by omega)
  have k1 : ∀ k, k ≤ 8 → lowV (rwN c lo hi 8).1 k = lo.toNat % 256 ^ k := by
    intro k
    induction k with
    | zero => intro _; simp [lowV, Nat.mod_one]
    | succ k ih => intro hk; rw [lowV, ih (by omega), (hg k (by omega)).1, digits_mod]
  have k2 : ∀ k, k ≤ 8 → lowV (rwN c lo hi 8).1 (k + 8) = lo.toNat + 256 ^ 8 * (hi.toNat % 256 ^ k) := by
    intro k
    induction k with
    | zero =>
      intro _
      rw [Nat.zero_add, k1 8 (by omega), Nat.mod_eq_of_lt (by have := lo.toNat_lt; omega)]; simp [Nat.mod_one]
    | succ k ih =>
      intro hk
      rw [show k + 1 + 8 = (k + 8) + 1 from by omega, lowV, ih (by omega), show 15 - (k + 8) = 7 - k from by omega, (hg k (by omega)).2, digits_mod, Nat.mul_add, Nat.pow_add, Nat.mul_comm (256 ^ k) (256 ^ 8)]
      rw [Nat.mul_assoc]; omega
  rw [k2 8 (by omega), Nat.mod_eq_of_lt (by have := hi.toNat_lt; omega)]
theorem next_rnext {c : List UInt8} {n : UInt64} (h : c.length = 16) : nextL c n = rnextL c n := by
  refine lowV_inj (nextL_len h) (rnextL_len h) ?_
  rw [nextL_val h, rnextL, rwN_val _ _ _ h]
  obtain ⟨h1, h2, h3, h4⟩ := rvN_val c h 8 (by omega)
  simp only [Nat.sub_self, Nat.pow_zero, Nat.mul_one, lowV, Nat.add_zero] at h1
  rw [show 16 - 8 = 8 from rfl] at h3
  have hn := n.toNat_lt
  have e1 : ((rvN c 8).1 + n).toNat = ((rvN c 8).1.toNat + n.toNat) % 256 ^ 8 := by rw [UInt64.toNat_add]
  have hh : ((rvN c 8).2 + 1).toNat = ((rvN c 8).2.toNat + 1) % 256 ^ 8 := by rw [UInt64.toNat_add]; rfl
  have hL : lowV c 8 = (rvN c 8).1.toNat := by rw [show lowV c 8 = _ from h1.symm]
  rw [← h3, hL]
  by_cases hc : (rvN c 8).1 + n < (rvN c 8).1
  · rw [if_pos hc, e1, hh]
    rw [UInt64.lt_iff_toNat_lt, e1] at hc
    omega
  · rw [if_neg hc, e1]
    rw [UInt64.lt_iff_toNat_lt, e1] at hc
    omega
theorem next_next {c : List UInt8} {a b : UInt64} (h : c.length = 16) (hab : a.toNat + b.toNat < 2 ^ 64) : nextL (nextL c a) b = nextL c (a + b) := by
  refine lowV_inj (nextL_len (nextL_len h)) (nextL_len h) ?_
  rw [nextL_val (nextL_len h), nextL_val h, nextL_val h, UInt64.toNat_add, Nat.mod_eq_of_lt hab]
  omega
theorem next_two {c : List UInt8} (h : c.length = 16) (x y : UInt64) : nextL (nextL c (x % 4611686018427387904)) (y % 4611686018427387904) = nextL c (x % 4611686018427387904 + y % 4611686018427387904) := by
  refine next_next h ?_
  rw [UInt64.toNat_mod, UInt64.toNat_mod, show (4611686018427387904 : UInt64).toNat = 4611686018427387904 from rfl]
  omega
theorem next_zero {c : List UInt8} (h : c.length = 16) : nextL c 0 = c := by
  refine lowV_inj (nextL_len h) h ?_
  rw [nextL_val h]
  have := @lowV_lt c 16
  simp only [show (0 : UInt64).toNat = 0 from rfl, Nat.add_zero]
  exact Nat.mod_eq_of_lt this
theorem ctrN_val {c : List UInt8} (h : c.length = 16) : ∀ k, lowV (ctrN c k) 16 = (lowV c 16 + k) % 256 ^ 16
  | 0 => by rw [ctrN, Nat.add_zero, Nat.mod_eq_of_lt (@lowV_lt c 16)]
  | k + 1 => by rw [ctrN, nextL_val (ctrN_len h k), ctrN_val h k, show (1 : UInt64).toNat = 1 from rfl]; omega
theorem ctrN_next {c : List UInt8} (h : c.length = 16) (n : UInt64) : ctrN c n.toNat = nextL c n := by
  refine lowV_inj (ctrN_len h _) (nextL_len h) ?_
  rw [ctrN_val h, nextL_val h]
theorem ctrN_add {c : List UInt8} : ∀ a b, ctrN c (a + b) = ctrN (ctrN c a) b
  | _, 0 => rfl
  | a, b + 1 => by rw [← Nat.add_assoc, ctrN, ctrN_add a b, ctrN]
/-! streams, of whatever blocks -/
def strG (blk : Nat → List UInt8) : Nat → List UInt8
  | 0 => []
  | k + 1 => strG blk k ++ blk k
theorem strG_len {blk : Nat → List UInt8} (h : ∀ k, (blk k).length = 16) : ∀ k, (strG blk k).length = 16*k
  | 0 => rfl
  | k + 1 => by rw [strG, List.length_append, strG_len h k, h k]; omega
def strT (blk : Nat → List UInt8) (n : Nat) : List UInt8 := (strG blk (n / 16 + 1)).take n
theorem strG_take {blk : Nat → List UInt8} (h : ∀ k, (blk k).length = 16) (n m : Nat) (hm : n ≤ 16*m) : ∀ d, (strG blk (m + d)).take n = (strG blk m).take n
  | 0 => rfl
  | d + 1 => by rw [← Nat.add_assoc, strG, List.take_append_of_le_length (by rw [strG_len h]; omega), strG_take h n m hm d]
theorem strT_any {blk : Nat → List UInt8} (h : ∀ k, (blk k).length = 16) {n m : Nat} (hm : n ≤ 16*m) : (strG blk m).take n = strT blk n := by
  have h1 := strG_take h n (n / 16 + 1) (by omega) m
  have h2 := strG_take h n m hm (n / 16 + 1)
  rw [strT, ← h1, ← h2, Nat.add_comm]
theorem strT_len {blk : Nat → List UInt8} (h : ∀ k, (blk k).length = 16) (n : Nat) : (strT blk n).length = n := by
  rw [strT, List.length_take, strG_len h]; omega
theorem strT_part {blk : Nat → List UInt8} (h : ∀ k, (blk k).length = 16) {n k : Nat} (h1 : 16*k ≤ n) (h2 : n ≤ 16*k + 16) : strG blk k ++ mid (blk k) 0 (n - 16*k) = strT blk n := by
  rw [← strT_any h (m := k + 1) (by omega), strG, List.take_append, strG_len h, List.take_of_length_le (by rw [strG_len h]; omega), mid, List.drop_zero]
theorem strT_full {blk : Nat → List UInt8} (h : ∀ k, (blk k).length = 16) {n k : Nat} (h2 : 16*k + 16 = n) : strG blk k ++ blk k = strT blk n := by
  rw [← strT_any h (m := k + 1) (by omega), strG, List.take_of_length_le (by rw [List.length_append, strG_len h, h]; omega)]
theorem strT_zero {blk : Nat → List UInt8} : strT blk 0 = [] := by rw [strT, List.take_zero]
theorem strG_congr {a b : Nat → List UInt8} (h : ∀ k, a k = b k) : ∀ k, strG a k = strG b k
  | 0 => rfl
  | k + 1 => by rw [strG, strG, strG_congr h k, h k]
theorem strT_congr {a b : Nat → List UInt8} (h : ∀ k, a k = b k) (n : Nat) : strT a n = strT b n := by rw [strT, strT, strG_congr h]
theorem strG_mid {blk : Nat → List UInt8} (h : ∀ k, (blk k).length = 16) (k : Nat) : ∀ d, mid (strG blk (k + 1 + d)) (16*k) 16 = blk k
  | 0 => by
    rw [Nat.add_zero, strG, mid, List.drop_append, strG_len h, List.drop_of_length_le (by rw [strG_len h]; omega), Nat.sub_self, List.drop_zero, List.nil_append, List.take_of_length_le (by rw [h]; omega)]
  | d + 1 => by
    rw [← Nat.add_assoc, strG, mid, List.drop_append_of_le_length (by rw [strG_len h]; omega), List.take_append_of_le_length (by rw [List.length_drop, strG_len h]; omega)]
    exact strG_mid h k d
theorem strT_blk {blk : Nat → List UInt8} (h : ∀ k, (blk k).length = 16) {m k : Nat} (hk : k ≤ m) : mid (strT blk (16*m + 16)) (16*k) 16 = blk k := by
  rw [← strT_any h (m := m + 1) (by omega), List.take_of_length_le (by rw [strG_len h]; omega)]
  have := strG_mid h k (m - k)
  rwa [show k + 1 + (m - k) = m + 1 from by omega] at this
theorem strT_one {blk : Nat → List UInt8} (h : ∀ k, (blk k).length = 16) : strT blk 16 = blk 0 := by
  rw [← strT_any h (m := 1) (by omega), strG, strG, List.nil_append, List.take_of_length_le (by rw [h]; omega)]
/-! turned twice -/
theorem xorN_get (s b : List UInt8) : ∀ k, k ≤ s.length → ∀ j, g8 (xorN s b k) j = if j < k then g8 s j ^^^ g8 b j else g8 s j
  | 0, _, j => by simp [xorN]
  | k + 1, hk, j => by
    rw [xorN, g8_set _ _ _ _ (by rw [xorN_len]; omega)]
    by_cases hj : k = j
    · subst hj
      rw [if_pos rfl, if_pos (by omega), xorN_get s b k (by omega), if_neg (by omega)]
    · rw [if_neg hj, xorN_get s b k (by omega)]
      by_cases h2 : j < k
      · rw [if_pos h2, if_pos (by omega)]
      · rw [if_neg h2, if_neg (by omega)]
theorem xorN_twice {s b : List UInt8} {n : Nat} (hs : s.length = n) (hb : b.length = n) : xorN s (xorN s b n) n = b := by
  refine ext8 (by rw [xorN_len, hs, hb]) fun j hj => ?_
  rw [xorN_len] at hj
  rw [xorN_get _ _ _ (by omega), if_pos (by omega), xorN_get _ _ _ (by omega), if_pos (by omega)]
  rw [← UInt8.xor_assoc, UInt8.xor_self, UInt8.zero_xor]
theorem g8_out {l : List UInt8} {i : Nat} (h : l.length ≤ i) : g8 l i = 0 := by simp [g8, List.getD_eq_getElem?_getD, List.getElem?_eq_none h]
end Go.Sx
