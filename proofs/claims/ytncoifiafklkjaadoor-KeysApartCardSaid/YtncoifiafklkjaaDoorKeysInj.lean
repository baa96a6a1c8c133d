import Derived.Test.YtncoifiafklkjaaDoorKeysLaw
namespace Go.Proofs.YtncoifiafklkjaaDoor
open Go Go.Sx
theorem u8sh (x : UInt64) (n : Nat) (hn : n < 64) : (x >>> UInt64.ofNat n).toUInt8.toNat = x.toNat / 2^n % 256 := by
  rw [UInt64.toNat_toUInt8, UInt64.toNat_shiftRight, UInt64.toNat_ofNat', Nat.shiftRight_eq_div_pow]
  congr 3
  omega
theorem u8sh_eq {x y : UInt64} {n : Nat} (hn : n < 64) (h : (x >>> UInt64.ofNat n).toUInt8 = (y >>> UInt64.ofNat n).toUInt8) : x.toNat / 2^n % 256 = y.toNat / 2^n % 256 := by
  rw [← u8sh x n hn, ← u8sh y n hn, h]
theorem div_step {x y n : Nat} (h : x / 2^(n+8) = y / 2^(n+8)) (hm : x / 2^n % 256 = y / 2^n % 256) : x / 2^n = y / 2^n := by
  have e : ∀ z : Nat, z / 2^(n+8) = z / 2^n / 256 := fun z => by rw [Nat.pow_add, ← Nat.div_div_eq_div_mul]
  rw [e, e] at h
  generalize x / 2^n = p at *
  generalize y / 2^n = q at *
  omega
theorem numN_at {a b : UInt64} (h : numN 8 a 8 = numN 8 b 8) (i : Nat) (hi : i < 8) : (a >>> UInt64.ofNat (8*8 - 8 - 8*i)).toUInt8 = (b >>> UInt64.ofNat (8*8 - 8 - 8*i)).toUInt8 := by
  have h2 : ∀ x : UInt64, (numN 8 x 8)[i]? = some (x >>> UInt64.ofNat (8*8 - 8 - 8*i)).toUInt8 := fun x => by
    unfold numN
    rw [List.getElem?_map, List.getElem?_range hi]; rfl
  have := congrArg (fun l => l[i]?) h
  rw [h2, h2] at this
  exact Option.some.inj this
theorem numN_inj {a b : UInt64} (h : numN 8 a 8 = numN 8 b 8) : a = b := by
  have f : ∀ n i, i < 8 → 8*8 - 8 - 8*i = n → n < 64 → a.toNat / 2^n % 256 = b.toNat / 2^n % 256 := by
    intro n i hi he hn
    subst he
    exact u8sh_eq hn (numN_at h i hi)
  have top : ∀ x : UInt64, x.toNat / 2^(56+8) = 0 := fun x => Nat.div_eq_of_lt x.toNat_lt
  have g7 : a.toNat / 2^56 = b.toNat / 2^56 := div_step ((top a).trans (top b).symm) (f 56 0 (by decide) (by decide) (by decide))
  have g6 : a.toNat / 2^48 = b.toNat / 2^48 := div_step (n := 48) g7 (f 48 1 (by decide) (by decide) (by decide))
  have g5 : a.toNat / 2^40 = b.toNat / 2^40 := div_step (n := 40) g6 (f 40 2 (by decide) (by decide) (by decide))
  have g4 : a.toNat / 2^32 = b.toNat / 2^32 := div_step (n := 32) g5 (f 32 3 (by decide) (by decide) (by decide))
  have g3 : a.toNat / 2^24 = b.toNat / 2^24 := div_step (n := 24) g4 (f 24 4 (by decide) (by decide) (by decide))
  have g2 : a.toNat / 2^16 = b.toNat / 2^16 := div_step (n := 16) g3 (f 16 5 (by decide) (by decide) (by decide))
  have g1 : a.toNat / 2^8 = b.toNat / 2^8 := div_step (n := 8) g2 (f 8 6 (by decide) (by decide) (by decide))
  have g0 : a.toNat / 2^0 = b.toNat / 2^0 := div_step (n := 0) g1 (f 0 7 (by decide) (by decide) (by decide))
  rw [Nat.pow_zero, Nat.div_one, Nat.div_one] at g0
  exact UInt64.toNat_inj.mp g0
end Go.Proofs.YtncoifiafklkjaaDoor
