import Derived.Test.YtncoifiafklkjaaDoorSxCut
namespace Go.Sx
open Go Go.RowKit
set_option linter.unusedVariables false
variable {C : Cx} {F : Frm} {L : List Ent}
theorem bsize (l : List UInt8) : (⟨l.toArray⟩ : ByteArray).size = l.length := rfl
theorem Ev_lenStrL {x : Operand} {ty t : Nat} {l : List UInt8} (hu : C.P.underlying t = some .string) (hx : ev F x = some (.string ⟨l.toArray⟩)) : Ev C F L (.call { callee := .builtin .len, args := #[x], argTypes := #[t] }) ty (I64 l.length) := by
  have h := Ev_lenStr (C := C) (F := F) (L := L) (ty := ty) hu hx
  rwa [bsize] at h
end Go.Sx
