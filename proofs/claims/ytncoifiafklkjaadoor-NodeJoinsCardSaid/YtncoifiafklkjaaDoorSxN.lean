import Derived.Test.YtncoifiafklkjaaDoorSxM
import Derived.OpenShut
import Derived.ChangeSlices
import Derived.WideShapes
namespace Go.Sx
open Go Go.RowKit
open Go.ChangeShapes Go.WideShapes
set_option linter.unusedVariables false
set_option linter.unusedSimpArgs false
section
variable {H : Type} {enc : TypeId × Value → H} {P : Program} {w : World} {base : Nat} {spare : Nat → Bool} {held : Bool} {r : Reach} {b0 : Nat}
theorem all_u8 : ∀ (L : List Value), (∀ i, i < L.length → ∃ u : UInt8, L[i]? = some (.int .u8 u.toNat)) → ∃ l : List UInt8, L = cu8 l
  | [], _ => ⟨[], rfl⟩
  | x :: L, h => by
    obtain ⟨u, hu⟩ := h 0 (by simp)
    simp at hu
    obtain ⟨l, hl⟩ := all_u8 L (fun i hi => by have := h (i + 1) (by simp; omega); simpa using this)
    exact ⟨u :: l, by rw [hl, hu]; rfl⟩
theorem open_arr_u8 {t e : TypeId} {n : Nat} {v : Value} {d : DataW H} {ps : List MemPlace} (ht : P.underlying t = some (.array n e)) (he : P.underlying e = some (.int .u8)) (hc : P.cellsOf e = 1) (hT : P.cellsOf t = n)
    (hval : Value.okWide P w r b0 t v) (hd : DataW.Trod enc P w base spare held t v d ps) : ∃ l : List UInt8, v = .agg (cu8 l).toArray ∧ l.length = n := by
  simp only [Value.okWide, ht] at hval
  obtain ⟨cs, rfl, hsz, _⟩ := hval
  obtain ⟨fuel, hf⟩ := hd
  obtain ⟨xs, m, _, _, hlen, hxs, hget⟩ := DataW.trod_array ht hf
  have hcs : (Value.agg cs).cells = cs := rfl
  rw [hcs] at hlen hget
  have hel : ∀ i, i < n → ∃ u : UInt8, cs.toList[i]? = some (.int .u8 u.toNat) := by
    intro i hi
    have hg := hget i hi
    rw [hc, Nat.mul_one] at hg
    have hx : xs[i]? = some (xs[i]'(by omega)) := by simp [hxs, hi]
    rw [hx] at hg
    obtain ⟨z, hz, _, hw⟩ := DataW.trod_int he hg
    obtain ⟨u, rfl⟩ := wf_u8 hw
    refine ⟨u, ?_⟩
    have h0 : ((cs.toList.drop i).take 1)[0]? = some (.int .u8 u.toNat) := by rw [hz]; rfl
    rw [List.getElem?_take, if_pos (by omega), List.getElem?_drop] at h0
    simpa using h0
  have hall : ∃ l : List UInt8, cs.toList = cu8 l := by
    have hl : cs.toList.length = n := by rw [hlen, hT]
    exact all_u8 _ (fun i hi => hel i (by omega))
  obtain ⟨l, hl⟩ := hall
  refine ⟨l, by rw [← hl], ?_⟩
  have := congrArg List.length hl
  simp at this
  rw [← this]
  simpa [hT] using hsz
theorem all_u32 : ∀ (L : List Value), (∀ i, i < L.length → ∃ u : UInt32, L[i]? = some (.int .u32 u.toNat)) → ∃ l : List UInt32, L = cu32 l
  | [], _ => ⟨[], rfl⟩
  | x :: L, h => by
    obtain ⟨u, hu⟩ := h 0 (by simp)
    simp at hu
    obtain ⟨l, hl⟩ := all_u32 L (fun i hi => by have := h (i + 1) (by simp; omega); simpa using this)
    exact ⟨u :: l, by rw [hl, hu]; rfl⟩
theorem open_arr_u32 {t e : TypeId} {n : Nat} {v : Value} {d : DataW H} {ps : List MemPlace} (ht : P.underlying t = some (.array n e)) (he : P.underlying e = some (.int .u32)) (hc : P.cellsOf e = 1) (hT : P.cellsOf t = n)
    (hval : Value.okWide P w r b0 t v) (hd : DataW.Trod enc P w base spare held t v d ps) : ∃ l : List UInt32, v = .agg (cu32 l).toArray ∧ l.length = n := by
  simp only [Value.okWide, ht] at hval
  obtain ⟨cs, rfl, hsz, _⟩ := hval
  obtain ⟨fuel, hf⟩ := hd
  obtain ⟨xs, m, _, _, hlen, hxs, hget⟩ := DataW.trod_array ht hf
  have hcs : (Value.agg cs).cells = cs := rfl
  rw [hcs] at hlen hget
  have hel : ∀ i, i < n → ∃ u : UInt32, cs.toList[i]? = some (.int .u32 u.toNat) := by
    intro i hi
    have hg := hget i hi
    rw [hc, Nat.mul_one] at hg
    have hx : xs[i]? = some (xs[i]'(by omega)) := by simp [hxs, hi]
    rw [hx] at hg
    obtain ⟨z, hz, _, hw⟩ := DataW.trod_int he hg
    obtain ⟨u, rfl⟩ := wf_u32 hw
    refine ⟨u, ?_⟩
    have h0 : ((cs.toList.drop i).take 1)[0]? = some (.int .u32 u.toNat) := by rw [hz]; rfl
    rw [List.getElem?_take, if_pos (by omega), List.getElem?_drop] at h0
    simpa using h0
  have hall : ∃ l : List UInt32, cs.toList = cu32 l := by
    have hl : cs.toList.length = n := by rw [hlen, hT]
    exact all_u32 _ (fun i hi => hel i (by omega))
  obtain ⟨l, hl⟩ := hall
  refine ⟨l, by rw [← hl], ?_⟩
  have := congrArg List.length hl
  simp at this
  rw [← this]
  simpa [hT] using hsz
theorem all_u64 : ∀ (L : List Value), (∀ i, i < L.length → ∃ u : UInt64, L[i]? = some (.int .u64 u.toNat)) → ∃ l : List UInt64, L = cu64 l
  | [], _ => ⟨[], rfl⟩
  | x :: L, h => by
    obtain ⟨u, hu⟩ := h 0 (by simp)
    simp at hu
    obtain ⟨l, hl⟩ := all_u64 L (fun i hi => by have := h (i + 1) (by simp; omega); simpa using this)
    exact ⟨u :: l, by rw [hl, hu]; rfl⟩
theorem open_arr_u64 {t e : TypeId} {n : Nat} {v : Value} {d : DataW H} {ps : List MemPlace} (ht : P.underlying t = some (.array n e)) (he : P.underlying e = some (.int .u64)) (hc : P.cellsOf e = 1) (hT : P.cellsOf t = n)
    (hval : Value.okWide P w r b0 t v) (hd : DataW.Trod enc P w base spare held t v d ps) : ∃ l : List UInt64, v = .agg (cu64 l).toArray ∧ l.length = n := by
  simp only [Value.okWide, ht] at hval
  obtain ⟨cs, rfl, hsz, _⟩ := hval
  obtain ⟨fuel, hf⟩ := hd
  obtain ⟨xs, m, _, _, hlen, hxs, hget⟩ := DataW.trod_array ht hf
  have hcs : (Value.agg cs).cells = cs := rfl
  rw [hcs] at hlen hget
  have hel : ∀ i, i < n → ∃ u : UInt64, cs.toList[i]? = some (.int .u64 u.toNat) := by
    intro i hi
    have hg := hget i hi
    rw [hc, Nat.mul_one] at hg
    have hx : xs[i]? = some (xs[i]'(by omega)) := by simp [hxs, hi]
    rw [hx] at hg
    obtain ⟨z, hz, _, hw⟩ := DataW.trod_int he hg
    obtain ⟨u, rfl⟩ := wf_u64 hw
    refine ⟨u, ?_⟩
    have h0 : ((cs.toList.drop i).take 1)[0]? = some (.int .u64 u.toNat) := by rw [hz]; rfl
    rw [List.getElem?_take, if_pos (by omega), List.getElem?_drop] at h0
    simpa using h0
  have hall : ∃ l : List UInt64, cs.toList = cu64 l := by
    have hl : cs.toList.length = n := by rw [hlen, hT]
    exact all_u64 _ (fun i hi => hel i (by omega))
  obtain ⟨l, hl⟩ := hall
  refine ⟨l, by rw [← hl], ?_⟩
  have := congrArg List.length hl
  simp at this
  rw [← this]
  simpa [hT] using hsz
end
end Go.Sx
