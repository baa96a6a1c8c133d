import Derived.Test.YtncoifiafklkjaaNumLaw
import Derived.Test.YtncoifiafklkjaaSxApp0
namespace Go.Proofs.Ytncoifiafklkjaa
open Go Go.Sx
set_option linter.unusedVariables false
set_option linter.unusedSimpArgs false
/-! readers -/
theorem RdB.nilOf {w : World} {M : List Nat} {ao : Option Addr} {z : List UInt8} (h : z = []) : RdB w M ao z := .inl h
theorem mid_zero {α : Type} (l : List α) (o : Nat) : mid l o 0 = [] := by simp [mid]
instance (s : Int) : Decidable (Szd s) := by unfold Szd; infer_instance
theorem erN_zero (k : Nat) : erN 0 k = k := rfl
theorem erN_pos {e k : Nat} (h : e ≠ 0) : erN e k = e := if_neg h
/-- where a slice's rest lies -/
def advA (ao : Option Addr) (c s : Nat) : Option Addr := if c = s then ao else ao.map (·.add (s * 1))
theorem RdB.adv {w : World} {M : List Nat} {ao : Option Addr} {z : List UInt8} {c : Nat} (h : RdB w M ao z) (s : Nat) (hs : s ≤ z.length) (hc : z.length ≤ c) : RdB w M (advA ao c s) (z.drop s) := by
  have := RdB.slice h s z.length (Nat.le_refl _) hc
  rwa [List.take_of_length_le (by simp)] at this
theorem RdB.pre {w : World} {M : List Nat} {ao : Option Addr} {z : List UInt8} (h : RdB w M ao z) (s : Nat) : RdB w M ao (mid z 0 s) := by
  rcases h with rfl | ⟨b, off, h1, h2, h3, h4⟩
  · exact .inl (by simp [mid])
  · refine .inr ⟨b, off, h1, h2, h3, fun j v hj => h4 j v ?_⟩
    simp only [mid, List.drop_zero, cu8, List.map_take] at hj
    have hlt := (List.getElem?_eq_some_iff.1 hj).1
    rw [List.getElem?_take, if_pos (by simp at hlt; omega)] at hj
    exact hj
/-- what is read off a place, and where the rest lies -/
def Adv (ao : Option Addr) (z : List UInt8) (c : Nat) (ao' : Option Addr) (z' : List UInt8) (c' : Nat) : Prop :=
  (∀ w M, RdB w M ao z → RdB w M ao' z') ∧ z'.length ≤ c' ∧ c' ≤ maxLen ∧ z'.length ≤ z.length
theorem Adv.same {ao : Option Addr} {z : List UInt8} {c : Nat} (h : z.length ≤ c) (hm : c ≤ maxLen) : Adv ao z c ao z c := ⟨fun _ _ h => h, h, hm, Nat.le_refl _⟩
theorem Adv.drop {ao : Option Addr} {z : List UInt8} {c : Nat} (s : Nat) (hs : s ≤ z.length) (h : z.length ≤ c) (hm : c ≤ maxLen) : Adv ao z c (advA ao c s) (z.drop s) (c - s) :=
  ⟨fun _ _ hr => RdB.adv hr s hs h, by simp; omega, by omega, by simp⟩
theorem Adv.trans {ao ao' ao'' : Option Addr} {z z' z'' : List UInt8} {c c' c'' : Nat} (h : Adv ao z c ao' z' c') (h' : Adv ao' z' c' ao'' z'' c'') : Adv ao z c ao'' z'' c'' :=
  ⟨fun w M hr => h'.1 w M (h.1 w M hr), h'.2.1, h'.2.2.1, Nat.le_trans h'.2.2.2 h.2.2.2⟩
/-- raw bytes -/
def TkOk (z : List UInt8) (e : Nat) (s : Int) : Prop := e = 0 ∧ 0 ≤ s ∧ s ≤ z.length
instance (z : List UInt8) (e : Nat) (s : Int) : Decidable (TkOk z e s) := by unfold TkOk; infer_instance
def tkZ (z : List UInt8) (e : Nat) (s : Int) : List UInt8 := if TkOk z e s then z.drop s.toNat else z
def tkV (z : List UInt8) (e : Nat) (s : Int) : List UInt8 := if TkOk z e s then mid z 0 s.toNat else []
/-- a number -/
def NuOk (z : List UInt8) (e : Nat) (s : Int) : Prop := e = 0 ∧ Szd s ∧ s ≤ z.length
instance (z : List UInt8) (e : Nat) (s : Int) : Decidable (NuOk z e s) := by unfold NuOk; infer_instance
def nuZ (z : List UInt8) (e : Nat) (s : Int) : List UInt8 := if NuOk z e s then z.drop s.toNat else z
def nuV (z : List UInt8) (e : Nat) (s : Int) : UInt64 := if NuOk z e s then valK z s.toNat else 0
def okE (e : Nat) (ok : Bool) : Nat := if ok then 0 else erN e 2
/-- a field -/
def fdN (z : List UInt8) : Nat := 256 * (g8 z 0).toNat + (g8 z 1).toNat
def FdOk (z : List UInt8) (e : Nat) (s : Int) : Prop := e = 0 ∧ 2 ≤ z.length ∧ (fdN z : Int) ≤ s ∧ fdN z + 2 ≤ z.length
instance (z : List UInt8) (e : Nat) (s : Int) : Decidable (FdOk z e s) := by unfold FdOk; infer_instance
def fdZ (z : List UInt8) (e : Nat) (s : Int) : List UInt8 := if FdOk z e s then (z.drop 2).drop (fdN z) else z
def fdV (z : List UInt8) (e : Nat) (s : Int) : List UInt8 := if FdOk z e s then mid (z.drop 2) 0 (fdN z) else []
/-- a hash -/
def HsOk (z : List UInt8) (e : Nat) : Prop := e = 0 ∧ 32 ≤ z.length
instance (z : List UInt8) (e : Nat) : Decidable (HsOk z e) := by unfold HsOk; infer_instance
def hsZ (z : List UInt8) (e : Nat) : List UInt8 := if HsOk z e then z.drop 32 else z
def hsV (z : List UInt8) (e : Nat) : List UInt8 := if HsOk z e then mid z 0 32 else zr8 32
theorem hsV_len (z : List UInt8) (e : Nat) : (hsV z e).length = 32 := by
  unfold hsV
  split
  · rename_i h; exact mid_len h.2
  · exact zr8_len 32
/-- a flag -/
def FgOk (z : List UInt8) (e : Nat) : Prop := e = 0 ∧ 1 ≤ z.length ∧ g8 z 0 ≤ 1
instance (z : List UInt8) (e : Nat) : Decidable (FgOk z e) := by unfold FgOk; infer_instance
def fgZ (z : List UInt8) (e : Nat) : List UInt8 := if FgOk z e then z.drop 1 else z
def fgV (z : List UInt8) (e : Nat) : Bool := decide (FgOk z e ∧ g8 z 0 = 1)
def endN (e n : Nat) : Nat := if e = 0 then (if n = 0 then 0 else 2) else e
def leftN (e n : Nat) : Nat := if e = 0 then n else 0
theorem valK_one (z : List UInt8) : valK z 1 = (g8 z 0).toUInt64 := by
  rw [valK, valK, shl_or]; simp
theorem valK_flag (z : List UInt8) : (valK z 1 = 1) = (g8 z 0 = 1) := by
  rw [valK_one]
  apply propext
  constructor
  · intro h
    have := congrArg UInt64.toNat h
    rw [UInt8.toNat_toUInt64] at this
    exact UInt8.toNat_inj.1 this
  · intro h; rw [h]; rfl
end Go.Proofs.Ytncoifiafklkjaa
