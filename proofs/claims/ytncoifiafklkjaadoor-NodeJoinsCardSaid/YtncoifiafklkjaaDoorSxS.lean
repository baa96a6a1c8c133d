import Derived.Test.YtncoifiafklkjaaDoorSxR
namespace Go.Sx
open Go Go.RowKit
set_option linter.unusedVariables false
set_option linter.unusedSimpArgs false
theorem Hp.setFz {w0 w : World} {M : List Nat} {L : List Ent} (h : Hp w0 M L w) {i : Nat} {b T : Nat} {cs : List Value} {fz fz' : Nat × Nat} (hi : L[i]? = some ⟨b, cs, T, fz⟩) (f : Obj → Obj) (hf : f (.cells cs.toArray T fz) = .cells cs.toArray T fz') :
    Hp w0 M (L.set i ⟨b, cs, T, fz'⟩) { w with heap := w.heap.modify b f } := by
  have hmem := List.mem_of_getElem? hi
  have hE := h.ent _ hmem
  have hlt : b < w.heap.size := (Array.getElem?_eq_some_iff.1 hE).1
  have hsame : ∀ k, k ≠ b → ({ w with heap := w.heap.modify b f } : World).heap[k]? = w.heap[k]? := fun k hk => by
    show (w.heap.modify b f)[k]? = _
    rw [Array.getElem?_modify, if_neg (by omega)]
  have hnew : ({ w with heap := w.heap.modify b f } : World).heap[b]? = some (.cells cs.toArray T fz') := by
    show (w.heap.modify b f)[b]? = _
    rw [Array.getElem?_modify, if_pos rfl, hE]
    simp [hf]
  have hil : i < L.length := (List.getElem?_eq_some_iff.1 hi).1
  refine ⟨h.os, h.tape, h.output, by simpa using h.le, fun k hk hM => ?_, fun x hx => ?_, ?_, fun x hx => ?_⟩
  · have : k ≠ b := fun he => by
      rcases h.own _ hmem with h1 | h1
      · exact hM (he ▸ h1)
      · simp at h1; omega
    rw [hsame k this]; exact h.old k hk hM
  · obtain ⟨j, hj⟩ := List.mem_iff_getElem?.1 hx
    rw [List.getElem?_set] at hj
    split at hj
    · simp at hj; subst hj; exact hnew
    · rename_i hij
      rw [hsame x.b (fun he => h.ne hi hj hij he.symm)]; exact h.ent x (List.mem_of_getElem? hj)
  · have : (L.set i ⟨b, cs, T, fz'⟩).map Ent.b = L.map Ent.b := by
      apply List.ext_getElem?
      intro j
      simp only [List.getElem?_map, List.getElem?_set]
      split
      · rename_i hij; subst hij; rw [hi]; rfl
      · rfl
    rw [this]; exact h.nd
  · rcases List.mem_or_eq_of_mem_set hx with h1 | h1
    · exact h.own x h1
    · subst h1; exact h.own ⟨b, cs, T, fz⟩ hmem
variable {C : Cx} {F : Frm} {L : List Ent}
/-- bytes turned to their own type: the row's mark -/
theorem Step_convMark {T ty : TypeId} {x : Operand} (e i : Nat) {b off l c T' : Nat} {cs : List Value} (hu : C.P.underlying T = some (.slice e)) (he : C.P.underlying e = some (.int .u8)) (hx : ev F x = some (Slc b off l c)) (hi : L[i]? = some ⟨b, cs, T', (0, 0)⟩) :
    Step C F L (.convert T T x) ty fun v L' => v = Slc b off l c ∧ L' = L.set i ⟨b, cs, T', (cs.length, cs.length + 1)⟩ := Step_run fun a w ha hw d pos aft g => by
  have hE := hw.ent _ (List.mem_of_getElem? hi)
  have hsh : w.shape? b = some (T', cs.length) := by
    unfold World.shape?
    rw [hE]; simp
  refine ⟨_, _, _, ⟨rfl, rfl⟩, hw.setFz hi (fz' := (cs.length, cs.length + 1)) (fun
      | .cells c elem (lo, hi) => .cells c elem (if lo == hi then (cs.length, cs.length + 1) else (min lo cs.length, max hi (cs.length + 1)))
      | o => o) (by simp), .inl ?_⟩
  simp [execOp, ha.ev hx, convert, run_underlying hu, run_underlying he, markStringish, hsh, Slc]
  simp [World.freeze]
  congr 1
end Go.Sx
