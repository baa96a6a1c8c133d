import Derived.Test.YtncoifiafklkjaaDoorHmac4
namespace Go.Proofs.YtncoifiafklkjaaDoor
open Go Go.Sx
set_option linter.unusedVariables false
set_option linter.unusedSimpArgs false
theorem one_shl {r : Nat} (h : r < 8) : (1:UInt8) <<< UInt8.ofNat r ≠ 0 := by
  have : r = 0 ∨ r = 1 ∨ r = 2 ∨ r = 3 ∨ r = 4 ∨ r = 5 ∨ r = 6 ∨ r = 7 := by omega
  rcases this with rfl | rfl | rfl | rfl | rfl | rfl | rfl | rfl <;> decide
theorem xor_ne {b c : UInt8} (h : c ≠ 0) : b ^^^ c ≠ b := fun e => h (by
  have h2 : b ^^^ (b ^^^ c) = b ^^^ b := by rw [e]
  rwa [← UInt8.xor_assoc, UInt8.xor_self, UInt8.zero_xor] at h2)
theorem flip_ne {l : List UInt8} {q r : Nat} (hq : q < l.length) (hr : r < 8) : l.set q (g8 l q ^^^ ((1:UInt8) <<< UInt8.ofNat r)) ≠ l := fun e => by
  have h := g8_set l q q (g8 l q ^^^ ((1:UInt8) <<< UInt8.ofNat r)) hq
  rw [e, if_pos rfl] at h
  exact xor_ne (one_shl hr) h.symm
theorem chk_20 {M : List UInt8} (hM : M.length = 32) : (decide (mid M 0 20 = M) || decide (mid M 0 20 = mid M 0 16)) = false := by
  have h1 : (mid M 0 20).length = 20 := mid_len (by omega)
  have h2 : (mid M 0 16).length = 16 := mid_len (by omega)
  rw [decide_eq_false (fun e => by rw [e] at h1; omega), decide_eq_false (fun e => by rw [e] at h1; omega)]; rfl
theorem chk_flip1 {M : List UInt8} (hM : M.length = 32) {q r : Nat} (hq : q < 32) (hr : r < 8) : (decide (M.set q (g8 M q ^^^ ((1:UInt8) <<< UInt8.ofNat r)) = M) || decide (M.set q (g8 M q ^^^ ((1:UInt8) <<< UInt8.ofNat r)) = mid M 0 16)) = false := by
  have h2 : (mid M 0 16).length = 16 := mid_len (by omega)
  have h3 : (M.set q (g8 M q ^^^ ((1:UInt8) <<< UInt8.ofNat r))).length = 32 := by simp [hM]
  rw [decide_eq_false (flip_ne (by omega) hr), decide_eq_false (fun e => by rw [e] at h3; omega)]; rfl
theorem chk_flip2 {M : List UInt8} (hM : M.length = 32) {q r : Nat} (hq : q < 16) (hr : r < 8) : (decide ((mid M 0 16).set q (g8 (mid M 0 16) q ^^^ ((1:UInt8) <<< UInt8.ofNat r)) = M) || decide ((mid M 0 16).set q (g8 (mid M 0 16) q ^^^ ((1:UInt8) <<< UInt8.ofNat r)) = mid M 0 16)) = false := by
  have h2 : (mid M 0 16).length = 16 := mid_len (by omega)
  have h3 : ((mid M 0 16).set q (g8 (mid M 0 16) q ^^^ ((1:UInt8) <<< UInt8.ofNat r))).length = 16 := by simp [h2]
  rw [decide_eq_false (fun e => by rw [e] at h3; omega), decide_eq_false (flip_ne (by omega) hr)]; rfl
theorem bit_lt (b : Int) : ((u64i b) % (128:UInt64)).toNat < 128 := by
  rw [UInt64.toNat_mod]
  exact Nat.mod_lt _ (by decide)
end Go.Proofs.YtncoifiafklkjaaDoor
