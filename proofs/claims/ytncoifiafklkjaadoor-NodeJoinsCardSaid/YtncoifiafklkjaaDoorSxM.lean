import Derived.Test.YtncoifiafklkjaaDoorSxL
namespace Go.Sx
open Go Go.RowKit
set_option linter.unusedVariables false
set_option linter.unusedSimpArgs false
variable {C : Cx} {F : Frm} {L : List Ent}
def pick : List Nat → List Ent → List Ent
  | [], _ => []
  | i :: p, L => match L[i]? with
    | some e => e :: pick p L
    | none => pick p L
theorem mem_pick : ∀ (p : List Nat) (L : List Ent) (e : Ent), e ∈ pick p L → ∃ i ∈ p, L[i]? = some e
  | [], L, e, h => by simp [pick] at h
  | i :: p, L, e, h => by
    simp only [pick] at h
    split at h
    · rename_i x hx
      rcases List.mem_cons.1 h with rfl | h
      · exact ⟨i, by simp, hx⟩
      · obtain ⟨j, hj, he⟩ := mem_pick p L e h
        exact ⟨j, List.mem_cons_of_mem _ hj, he⟩
    · obtain ⟨j, hj, he⟩ := mem_pick p L e h
      exact ⟨j, List.mem_cons_of_mem _ hj, he⟩
theorem nd_pick : ∀ (p : List Nat) (L : List Ent), p.Nodup → (L.map Ent.b).Nodup → ((pick p L).map Ent.b).Nodup
  | [], L, _, _ => by simp [pick]
  | i :: p, L, hp, hL => by
    have hp' := List.nodup_cons.1 hp
    simp only [pick]
    split
    · rename_i x hx
      rw [List.map_cons, List.nodup_cons]
      refine ⟨fun hm => ?_, nd_pick p L hp'.2 hL⟩
      obtain ⟨e, he, hb⟩ := List.mem_map.1 hm
      obtain ⟨j, hj, hje⟩ := mem_pick p L e he
      obtain ⟨hi1, hi2⟩ := List.getElem?_eq_some_iff.1 hx
      obtain ⟨hj1, hj2⟩ := List.getElem?_eq_some_iff.1 hje
      have : (L.map Ent.b)[i]'(by simpa using hi1) = (L.map Ent.b)[j]'(by simpa using hj1) := by simp [hi2, hj2, hb]
      have hij := (List.getElem_inj hL).1 this
      subst hij
      exact hp'.1 hj
    · exact nd_pick p L hp'.2 hL
theorem K_pick {φ : Act → World → Prop} (p : List Nat) (hp : p.Nodup) (h : K C F (pick p L) φ) : K C F L φ := fun a w ha hw =>
  h a w ha (hw.sub (fun e he => by obtain ⟨i, _, hi⟩ := mem_pick p L e he; exact List.mem_of_getElem? hi) (nd_pick p L hp hw.nd))
theorem Hp.pick {w0 w : World} {M : List Nat} (p : List Nat) (hp : p.Nodup) (hw : Hp w0 M L w) : Hp w0 M (Sx.pick p L) w :=
  hw.sub (fun e he => by obtain ⟨i, _, hi⟩ := mem_pick p L e he; exact List.mem_of_getElem? hi) (nd_pick p L hp hw.nd)
theorem eqGuard_nn {P : Program} {w : World} (op : BinOp) (t : TypeId) (x : Operand) (v : Value) : (eqGuard op t x (.const v) .nilIface .nilIface).run P w = .ok () w := by cases op <;> simp [eqGuard]
theorem some_slc {b o l l' c : Nat} (h : l = l') : some (Slc b o l c) = some (Slc b o l' c) := by rw [h]
end Go.Sx
