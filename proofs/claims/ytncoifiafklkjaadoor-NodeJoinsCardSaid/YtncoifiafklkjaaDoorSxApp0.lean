import Derived.Test.YtncoifiafklkjaaDoorSxErr
namespace Go.Sx
open Go Go.RowKit
set_option linter.unusedVariables false
set_option linter.unusedSimpArgs false
variable {C : Cx} {F : Frm} {L : List Ent}
/-- nothing appended to nothing -/
theorem Step_appNil0 {x y : Operand} {ty : TypeId} (t e : Nat) {z : Value} {s bytes : Nat} (ao : Option Addr) (c : Nat) (hu : C.P.underlying t = some (.slice e)) (hi : (C.P.info? e).map (fun i => (i.zero, i.size, i.bytes)) = some (some z, s, bytes))
    (hx : ev F x = some (.slice none 0 0)) (hy : ev F y = some (.slice ao 0 c)) :
    Step C F L (.call { callee := .builtin .append, args := #[x, y], argTypes := #[t, t] }) ty fun v' L' => v' = .slice none 0 0 ∧ L' = L :=
  Step_run fun a w ha hw d pos aft g => by
  obtain ⟨i, hi1, hi2, hi3, hi4⟩ := info_of hi
  have he := ha.ev hx
  have he' := ha.ev hy
  have hr : (Builtin.append_ #[t, t] ty #[.slice none 0 0, .slice ao 0 c]).run C.P w = .ok (.slice none 0 0) w := by
    cases ao <;> simp [Builtin.append_, run_underlying hu, sizeOf, typeInfo, hi1, Builtin.lenOf, Builtin.firstCells, storeCells, loadCells, loadCellsFrom]
  exact ⟨_, L, w, ⟨rfl, rfl⟩, hw, .inl (by simp [execOp, resolve, invoke, he, he', builtin, hr])⟩
/-- old rows that are none of ours are none of these -/
theorem Hp.apart {w0 w : World} {M : List Nat} {L : List Ent} (h : Hp w0 M L w) (is M' : List Nat) (hM : M' = is.filterMap (fun i => (L[i]?).map Ent.b)) : ∀ b, b < w0.heap.size → b ∉ M → b ∉ M' := fun b h1 h2 h3 => by
  subst hM
  obtain ⟨i, _, hi⟩ := List.mem_filterMap.1 h3
  obtain ⟨e, he, rfl⟩ := Option.map_eq_some_iff.1 hi
  rcases h.own e (List.mem_of_getElem? he) with h4 | h4
  · exact h2 h4
  · omega
theorem Ev_sliceHi {T : Nat} {x hi : Operand} {ty : TypeId} {ao : Option Addr} {l c : Nat} (e s j : Nat) (hu : C.P.underlying T = some (.slice e)) (hS : ∀ w, (sizeOf e).run C.P w = .ok s w) (hx : ev F x = some (.slice ao l c))
    (hh : ev F hi = some (I64 j)) (h2 : j ≤ c) : Ev C F L (.slice T x none (some hi) none) ty (.slice ao j c) := by
  have h := Ev_sliceG (ty := ty) (L := L) (lo := none) (hi := some hi) e s 0 j hu hS hx rfl hh (Nat.zero_le _) h2
  rw [Nat.zero_mul, addr_map, ite_self, Nat.sub_zero, Nat.sub_zero] at h
  exact h
theorem Ev_sliceLo {T : Nat} {x lo : Operand} {ty : TypeId} {ao : Option Addr} {l c : Nat} (e i n' c' : Nat) (hu : C.P.underlying T = some (.slice e)) (hS : ∀ w, (sizeOf e).run C.P w = .ok 1 w) (hx : ev F x = some (.slice ao l c))
    (hl : ev F lo = some (I64 i)) (h1 : i ≤ l) (h2 : l ≤ c) (hn : l - i = n') (hc : c - i = c') : Ev C F L (.slice T x (some lo) none none) ty (.slice (if c = i then ao else ao.map (·.add (i * 1))) n' c') := by
  subst hn; subst hc
  exact Ev_sliceG (ty := ty) (L := L) (lo := some lo) (hi := none) e 1 i l hu hS hx hl rfl h1 h2
theorem lay_nil (cs : List Value) (o : Nat) : lay cs o [] = cs := by simp [lay]
theorem one_nil : ∀ u ∈ ([] : List Value), u.oneCell' = true := fun u hu => by cases hu
end Go.Sx
