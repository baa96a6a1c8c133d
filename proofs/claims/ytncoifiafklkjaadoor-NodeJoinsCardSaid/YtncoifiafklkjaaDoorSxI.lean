import Derived.Test.YtncoifiafklkjaaDoorSxH
import Derived.OpenShut
import Derived.ChangeOld
import Derived.Below
namespace Go.Sx
open Go Go.RowKit
set_option linter.unusedVariables false
set_option linter.unusedSimpArgs false
theorem Post.law {w w' : World} {e : Ending} (h : Post w [] (fun v L => v = .bool true ∧ L = []) e w') : e = .returned (.bool true) ∧ Below w.heap.size w w' := by
  obtain ⟨v, L, he, ⟨rfl, rfl⟩, hp⟩ := h
  exact ⟨he, hp.below⟩
theorem wf_u8 {a : Int} (h : (Lit.int .u8 a).wf = true) : ∃ u : UInt8, a = (u.toNat : Int) := by
  have := bounds_u8 h
  refine ⟨UInt8.ofNat a.toNat, ?_⟩
  rw [show (UInt8.ofNat a.toNat).toNat = a.toNat from by simp; omega]
  omega
theorem wf_u32 {a : Int} (h : (Lit.int .u32 a).wf = true) : ∃ u : UInt32, a = (u.toNat : Int) := by
  have := bounds_u32 h
  refine ⟨UInt32.ofNat a.toNat, ?_⟩
  rw [show (UInt32.ofNat a.toNat).toNat = a.toNat from by simp; omega]
  omega
theorem wf_u64 {a : Int} (h : (Lit.int .u64 a).wf = true) : ∃ u : UInt64, a = (u.toNat : Int) := by
  have := bounds_u64 h
  refine ⟨UInt64.ofNat a.toNat, ?_⟩
  rw [show (UInt64.ofNat a.toNat).toNat = a.toNat from by simp; omega]
  omega
end Go.Sx
