import Derived.Test.YtncoifiafklkjaaDoorSxR
namespace Go.Sx
open Go Go.RowKit
set_option linter.unusedVariables false
set_option linter.unusedSimpArgs false
theorem foldl_lay (off : Nat) : ∀ (c : List Value) (k : Nat) (pre z post : List Value), z.length = c.length → pre.length = off + k →
    (c.zipIdx k).foldl (fun (cs : Array Value) (x : Value × Nat) => cs.setIfInBounds (off + x.2) x.1) (pre ++ (z ++ post)).toArray = ((pre ++ c) ++ post).toArray
  | [], k, pre, z, post, hz, _ => by
    have : z = [] := by simpa using hz
    subst this; simp
  | x :: c, k, pre, [], post, hz, _ => by simp at hz
  | x :: c, k, pre, y :: z, post, hz, hp => by
    rw [List.zipIdx_cons, List.foldl_cons]
    have e : (pre ++ (y :: z ++ post)).toArray.setIfInBounds (off + k) x = ((pre ++ [x]) ++ (z ++ post)).toArray := by
      rw [← hp]
      apply Array.toList_inj.1
      simp
    show (c.zipIdx (k + 1)).foldl _ ((pre ++ (y :: z ++ post)).toArray.setIfInBounds (off + k) x) = _
    rw [e, foldl_lay off c (k + 1) (pre ++ [x]) z post (by simpa using hz) (by simp; omega)]
    simp
theorem fill_step {place : Nat → Option (Nat × Nat)} {i : Nat} {v : Value} {rest : List (Nat × Value)} (pre z post c : List Value) (hc : v.cells = c.toArray) (hp : place i = some (pre.length, z.length)) (hl : c.length = z.length) :
    Instr.fill place (pre ++ (z ++ post)).toArray ((i, v) :: rest) = Instr.fill place ((pre ++ c) ++ post).toArray rest := by
  rw [Instr.fill, hp]
  have h1 : v.cells.size = z.length := by rw [hc]; simpa using hl
  have h2 : ¬ (pre.length + v.cells.size > (pre ++ (z ++ post)).toArray.size) := by rw [h1]; simp
  simp only [h1, ne_eq, not_true, decide_false, Bool.false_or, decide_eq_true_eq]
  rw [if_neg (by rw [h1] at h2; exact h2)]
  have := foldl_lay pre.length c 0 pre z post hl.symm (by simp)
  rw [← this, hc]
  congr 1
  rw [← Array.foldl_toList]
  simp
theorem run_build_struct {P : Program} {w : World} {T : TypeId} {fields : Array Field} {z : Value} {places : Array (Nat × Nat)} {pv : Array (Nat × Value)} {cs : List Value} (hz : ∀ w, (zeroValue T).run P w = .ok z w) (hu : P.underlying T = some (.struct fields))
    (hp : ∀ w, (fields.mapM fun f => do pure (f.offset, ← sizeOf f.type) : Sem (Array (Nat × Nat))).run P w = .ok places w) (hf : Instr.fill (places[·]?) z.cells pv.toList = some cs.toArray) : (Instr.build T pv).run P w = .ok (.agg cs.toArray) w := by
  simp only [Instr.build, Sem.run_bind, hz, Result.andThen_ok, run_underlying hu, hp, hf, Sem.run_pure]
end Go.Sx
