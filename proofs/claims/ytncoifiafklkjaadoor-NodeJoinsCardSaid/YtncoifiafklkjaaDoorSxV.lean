import Derived.Test.YtncoifiafklkjaaDoorSxT
namespace Go.Sx
open Go Go.RowKit
open Go.ChangeShapes Go.WideShapes
set_option linter.unusedVariables false
theorem weights_cons {H : Type} {P : Program} {t : TypeId} {ts : List TypeId} {d : DataW H} {r : List (DataW H)} {p : Nat → Bool} (h : (DataW.weightsEach P (t :: ts) (d :: r)).all p = true) :
    (d.weights P t).all p = true ∧ (DataW.weightsEach P ts r).all p = true := by
  rw [DataW.weightsEach, List.all_append, Bool.and_eq_true] at h
  exact h
theorem len_of_weights {H : Type} {enc : TypeId × Value → H} {P : Program} {w : World} {base : Nat} {spare : Nat → Bool} {held : Bool} {t e : TypeId} {ao : Option Addr} {n c : Nat} {d : DataW H} {ps : List MemPlace} (ht : P.underlying t = some (.slice e)) (hb : P.bytesOf e = 1)
    (hd : DataW.Trod enc P w base spare held t (.slice ao n c) d ps) (hw : (d.weights P t).all (· ≤ reachBytes) = true) : n ≤ 140737488351232 := by
  obtain ⟨fuel, hf⟩ := hd
  rcases DataW.trod_slice ht hf with ⟨h0, _⟩ | ⟨a, len, cap, elems, rest, k, _, hcs, hx, _, hl, _, hlen, hel, _⟩
  · have h1' : (Value.slice ao n c) = .slice none 0 0 := by simpa [Value.cells] using h0
    cases h1'; omega
  · have h1' : (Value.slice ao n c) = .slice (some a) len cap := by simpa [Value.cells] using hcs
    cases h1'
    simp only [Prod.mk.injEq] at hx
    obtain ⟨rfl, _⟩ := hx
    rw [DataW.weights, ht] at hw
    simp only [List.all_cons, Bool.and_eq_true, decide_eq_true_eq, hb, Nat.mul_one] at hw
    have := hw.1
    unfold reachBytes at this
    simp at this
    omega
end Go.Sx
