import Derived.Test.YtncoifiafklkjaaDoorSxO
import Derived.Test.YtncoifiafklkjaaDoorSxN
namespace Go.Sx
open Go Go.RowKit
open Go.ChangeShapes Go.WideShapes
set_option linter.unusedVariables false
set_option linter.unusedSimpArgs false
section
variable {H : Type} {enc : TypeId × Value → H} {P : Program} {w : World} {base : Nat} {spare : Nat → Bool} {held : Bool} {r : Reach} {b0 : Nat}
theorem two_of {cs : List Value} {a b : Value} (hl : cs.length = 2) (h0 : (cs.drop 0).take 1 = [a]) (h1 : (cs.drop 1).take 1 = [b]) : cs = [a, b] := by
  match cs, hl with
  | [p, q], _ =>
    simp at h0 h1
    rw [h0, h1]
theorem open_two_str {t e : TypeId} {v : Value} {d : DataW H} {ps : List MemPlace} (ht : P.underlying t = some (.array 2 e)) (he : P.underlying e = some .string) (hc : P.cellsOf e = 1) (hT : P.cellsOf t = 2)
    (hval : Value.okWide P w r b0 t v) (hd : DataW.Trod enc P w base spare held t v d ps) : ∃ s u : ByteArray, v = .agg #[.string s, .string u] := by
  simp only [Value.okWide, ht] at hval
  obtain ⟨cs, rfl, hsz, _⟩ := hval
  have h : TD enc P w base spare held false t cs.toList := TD.ofN hd
  obtain ⟨l, h0, _⟩ := TD.str he (TD.elem 0 0 1 ht (by omega) hc rfl h)
  obtain ⟨m, h1, _⟩ := TD.str he (TD.elem 1 1 1 ht (by omega) hc rfl h)
  have hl := TD.alen ht h
  rw [hT] at hl
  have e : cs = #[.string ⟨l.toArray⟩, .string ⟨m.toArray⟩] := Array.toList_inj.mp (two_of hl h0 h1)
  exact ⟨⟨l.toArray⟩, ⟨m.toArray⟩, by rw [e]⟩
theorem open_two_u64 {t e : TypeId} {v : Value} {d : DataW H} {ps : List MemPlace} (ht : P.underlying t = some (.array 2 e)) (he : P.underlying e = some (.int .u64)) (hc : P.cellsOf e = 1) (hT : P.cellsOf t = 2)
    (hval : Value.okWide P w r b0 t v) (hd : DataW.Trod enc P w base spare held t v d ps) : ∃ x y : UInt64, v = .agg #[U64 x, U64 y] := by
  obtain ⟨l, rfl, hl⟩ := open_arr_u64 ht he hc hT hval hd
  match l, hl with
  | [x, y], _ => exact ⟨x, y, rfl⟩
end
end Go.Sx
