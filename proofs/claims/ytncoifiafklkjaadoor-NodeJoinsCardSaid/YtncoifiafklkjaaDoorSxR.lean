import Derived.Test.YtncoifiafklkjaaDoorSxQ
import Derived.Deep.Slices
namespace Go.Sx
open Go Go.RowKit
open Go.ChangeShapes Go.WideShapes
set_option linter.unusedVariables false
set_option linter.unusedSimpArgs false
section
variable {H : Type} {enc : TypeId × Value → H} {P : Program} {w : World} {base : Nat} {spare : Nat → Bool} {held : Bool}

theorem spot_none {a : Addr} {v : Value} (h : w.cell? a = some v) : a.spot = none := by
  unfold World.cell? at h
  split at h
  · split at h
    · simp at h
    · rename_i hs; simpa using hs
  · simp at h
theorem addr_of_cell {a : Addr} {v : Value} (h : w.cell? a = some v) : a = ⟨a.block, a.off, none⟩ := by
  have := spot_none h
  cases a; simp_all
theorem cell_off {a : Addr} {v : Value} {i : Nat} (h0 : a = ⟨a.block, a.off, none⟩) (h : w.cell? (a.add i) = some v) : w.cell? ⟨a.block, a.off + i, none⟩ = some v := by
  rw [h0, addr_add] at h; exact h

/-- an argument's bytes -/
theorem open_rd_u8 {t e : TypeId} {ao : Option Addr} {n c : Nat} {d : DataW H} {ps : List MemPlace} (ht : P.underlying t = some (.slice e)) (he : P.underlying e = some (.int .u8)) (hc : P.cellsOf e = 1)
    (hd : DataW.Trod enc P w base spare held t (.slice ao n c) d ps) : ∃ z : List UInt8, z.length = n ∧ n ≤ c ∧ c ≤ maxLen ∧ RdB w [] ao z := by
  obtain ⟨fuel, hf⟩ := hd
  rcases open_ints ht he hc hf with ⟨h1, _⟩ | ⟨a, len, cap, zs, h1, _, hlc, hcm, hzl, _, hcell, hwf⟩
  · have h1' : (Value.slice ao n c) = .slice none 0 0 := by simpa [Value.cells] using h1
    cases h1'
    exact ⟨[], rfl, Nat.le_refl _, by unfold maxLen; omega, RdB.nil⟩
  · have h1' : (Value.slice ao n c) = .slice (some a) len cap := by simpa [Value.cells] using h1
    cases h1'
    have hle : n ≤ zs.length := by rw [hzl]; split <;> omega
    refine ⟨(zs.take n).map fun z => UInt8.ofNat z.toNat, by simp; omega, hlc, hcm, ?_⟩
    by_cases hn : n = 0
    · subst hn; exact .inl (by simp)
    · have h0 := hcell 0 (by omega)
      have hadd0 : a.add 0 = a := by simp [Addr.add]
      rw [hadd0] at h0
      have ha := addr_of_cell h0
      refine .inr ⟨a.block, a.off, by rw [← ha], lt_of_cell (ha ▸ h0), by simp, fun j v hj => ?_⟩
      have hjn : j < n := by
        have := (List.getElem?_eq_some_iff.1 hj).1
        simp [cu8] at this; omega
      have hcj := hcell j (by omega)
      have hmem : zs.getD j 0 ∈ zs := by
        rw [List.getD_eq_getElem?_getD, List.getElem?_eq_getElem (by omega)]
        exact List.getElem_mem _
      obtain ⟨u, hu⟩ := wf_u8 (hwf _ hmem)
      rw [hu] at hcj
      have hj2 : (cu8 ((zs.take n).map fun z => UInt8.ofNat z.toNat))[j]? = some (U8 u) := by
        simp only [cu8, List.getElem?_map, List.getElem?_take, if_pos hjn]
        rw [List.getD_eq_getElem?_getD] at hu
        rw [List.getElem?_eq_getElem (by omega)] at hu ⊢
        simp only [Option.getD_some] at hu
        simp [hu]
      rw [hj2] at hj
      cases hj
      exact cell_off ha hcj
end
end Go.Sx
