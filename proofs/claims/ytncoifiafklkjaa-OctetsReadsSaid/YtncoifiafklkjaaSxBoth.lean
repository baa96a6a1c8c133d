import Derived.Test.YtncoifiafklkjaaSxApp0
namespace Go.Sx
open Go Go.RowKit
set_option linter.unusedVariables false
variable {C : Cx} {F : Frm} {L : List Ent}
theorem Ev_sliceBoth {T : Nat} {x lo hi : Operand} {ty : TypeId} {ao : Option Addr} {l c : Nat} (e i j n' c' : Nat) (hu : C.P.underlying T = some (.slice e)) (hS : ∀ w, (sizeOf e).run C.P w = .ok 1 w) (hx : ev F x = some (.slice ao l c))
    (hl : ev F lo = some (I64 i)) (hh : ev F hi = some (I64 j)) (h1 : i ≤ j) (h2 : j ≤ c) (hn : j - i = n') (hc : c - i = c') : Ev C F L (.slice T x (some lo) (some hi) none) ty (.slice (if c = i then ao else ao.map (·.add (i * 1))) n' c') := by
  subst hn; subst hc
  exact Ev_sliceG (ty := ty) (L := L) (lo := some lo) (hi := some hi) e 1 i j hu hS hx hl hh h1 h2
end Go.Sx
