import Derived.Test.YtncoifiafklkjaaDoorSxR
import Derived.Laws.IdiomStrings
namespace Go.Sx
open Go Go.RowKit
set_option linter.unusedVariables false
set_option linter.unusedSimpArgs false
theorem Hp.allocF {w0 w : World} {M : List Nat} {L : List Ent} (h : Hp w0 M L w) (cs : List Value) (T : Nat) (fz : Nat × Nat) : Hp w0 M (L ++ [⟨w.heap.size, cs, T, fz⟩]) (w.alloc (.cells cs.toArray T fz)) := by
  have hlt : ∀ x ∈ L, x.b < w.heap.size := fun x hx => (Array.getElem?_eq_some_iff.1 (h.ent x hx)).1
  refine ⟨h.os, h.tape, h.output, by have := h.le; simp; omega, fun k hk hM => ?_, fun x hx => ?_, ?_, fun x hx => ?_⟩
  · rw [Below.heap_alloc _ _ _ (by have := h.le; omega)]; exact h.old k hk hM
  · rcases List.mem_append.1 hx with h1 | h1
    · rw [Below.heap_alloc _ _ _ (hlt x h1)]; exact h.ent x h1
    · simp at h1; subst h1; show (w.heap.push _)[w.heap.size]? = _; simp
  · rw [List.map_append, List.nodup_append]
    refine ⟨h.nd, by simp, fun a ha c hc => ?_⟩
    simp at hc; subst hc
    obtain ⟨x, hx, rfl⟩ := List.mem_map.1 ha
    have := hlt x hx; omega
  · rcases List.mem_append.1 hx with h1 | h1
    · exact h.own x h1
    · simp at h1; subst h1; exact .inr h.le
variable {C : Cx} {F : Frm} {L : List Ent}
/-- '[]byte(s)' -/
theorem Step_strBytes {src dst ty : TypeId} {x : Operand} (e : Nat) (l : List UInt8) (hs : C.P.underlying src = some .string) (hd : C.P.underlying dst = some (.slice e)) (he : C.P.underlying e = some (.int .u8)) (hx : ev F x = some (.string ⟨l.toArray⟩)) (hl : l.length ≤ maxLen) :
    Step C F L (.convert src dst x) ty fun v L' => ∃ nb sp cap fz, C.w0.heap.size ≤ nb ∧ v = Slc nb 0 l.length cap ∧ L' = L ++ [⟨nb, cu8 l ++ sp, e, fz⟩] ∧ l.length ≤ cap ∧ cap ≤ maxLen := Step_run fun a w ha hw d pos aft g => by
  have hr := run_bytes_of_string (P := C.P) w src dst e ⟨l.toArray⟩ hs hd he
  have hsz : (⟨l.toArray⟩ : ByteArray).size = l.length := rfl
  rw [hsz] at hr
  have hrow : bytesRow ⟨l.toArray⟩ (grownCap w l.length 0 e) = (cu8 l ++ List.replicate (grownCap w l.length 0 e - l.length) (Value.int .u8 0)).toArray := by
    apply Array.toList_inj.1
    simp [bytesRow, cu8, hsz]
  rw [hrow] at hr
  refine ⟨_, _, _, ⟨w.heap.size, List.replicate (grownCap w l.length 0 e - l.length) (Value.int .u8 0), grownCap w l.length 0 e, _, hw.le, rfl, rfl, grownCap_ge w _ 0 e, grownCap_le_maxLen w _ 0 e hl⟩, (hw.drewN (w.drawn + 1)).allocF (cu8 l ++ List.replicate (grownCap w l.length 0 e - l.length) (Value.int .u8 0)) e ((cu8 l ++ List.replicate (grownCap w l.length 0 e - l.length) (Value.int .u8 0)).toArray.size, (cu8 l ++ List.replicate (grownCap w l.length 0 e - l.length) (Value.int .u8 0)).toArray.size + 1), .inl ?_⟩
  simp only [execOp, ha.ev hx]
  rw [Sem.run_bind, hr]
  rfl
end Go.Sx
