import Derived.Test.YtncoifiafklkjaaDoorSxB
namespace Go.Sx
open Go Go.RowKit
variable {C : Cx} {F : Frm} {L : List Ent} {ty T T' : TypeId} {x y : Operand}

theorem Ev_move {v : Value} (hx : ev F x = some v) : Ev C F L (.move x) ty v := fun a w ha _ d pos aft g => by
  simp [execOp, ha.ev hx]
theorem Ev_assign {v : Value} (hx : ev F x = some v) : Ev C F L (.assign x) ty v := fun a w ha _ d pos aft g => by
  simp [execOp, ha.ev hx]
theorem Ev_pickT {c : Operand} {v : Value} (b : Bool) (hc : ev F c = some (.bool b)) (hb : b = true) (hx : ev F x = some v) : Ev C F L (.pick c x y) ty v := fun a w ha _ d pos aft g => by
  subst hb; simp [execOp, ha.ev hc, ha.ev hx, asBool]
theorem Ev_pickF {c : Operand} {v : Value} (b : Bool) (hc : ev F c = some (.bool b)) (hb : b = false) (hy : ev F y = some v) : Ev C F L (.pick c x y) ty v := fun a w ha _ d pos aft g => by
  subst hb; simp [execOp, ha.ev hc, ha.ev hy, asBool]
theorem Ev_nilCheck {p : Addr} (hx : ev F x = some (.pointer (some p))) : Ev C F L (.nilCheck x) ty (.pointer (some p)) := fun a w ha _ d pos aft g => by
  simp [execOp, ha.ev hx]
theorem Ev_bin {bop : BinOp} (vx vy v : Value) (hx : ev F x = some vx) (hy : ev F y = some vy) (hg : ∀ w, (eqGuard bop T x y vx vy).run C.P w = .ok () w)
    (hr : ∀ w, (binOp bop T vx vy).run C.P w = .ok v w) : Ev C F L (.binOp bop T x y T') ty v := fun a w ha _ d pos aft g => by
  simp [execOp, ha.ev hx, ha.ev hy, hg, hr]
theorem Ev_bini {bop : BinOp} {k k' : IntKind} {m n : Int} {v : Value} (hx : ev F x = some (.int k m)) (hy : ev F y = some (.int k' n))
    (hr : ∀ w, (binOp bop T (.int k m) (.int k' n)).run C.P w = .ok v w) : Ev C F L (.binOp bop T x y T') ty v :=
  Ev_bin _ _ v hx hy (fun _ => eqGuard_int _ _ _ _ _ _ _ _) hr
theorem Ev_not {b : Bool} (hx : ev F x = some (.bool b)) : Ev C F L (.unOp .not T x) ty (.bool (!b)) := fun a w ha _ d pos aft g => by
  simp [execOp, ha.ev hx, Op.unary]
theorem Ev_un {u : UnOp} (vx v : Value) (hx : ev F x = some vx) (hr : ∀ w, (Op.unary u vx).run C.P w = .ok v w) : Ev C F L (.unOp u T x) ty v := fun a w ha _ d pos aft g => by
  simp [execOp, ha.ev hx, hr]
theorem Ev_conv {src dst : TypeId} (vx v : Value) (hx : ev F x = some vx) (hr : ∀ w, (convert src dst vx).run C.P w = .ok v w) : Ev C F L (.convert src dst x) ty v := fun a w ha _ d pos aft g => by
  simp [execOp, ha.ev hx, hr]
theorem Ev_load {b off : Nat} {v : Value} (hx : ev F x = some (Ptr b off)) (h : Ld C L T b off v) : Ev C F L (.load T x) ty v := fun a w ha hw d pos aft g => by
  simp [execOp, ha.ev hx, Instr.loadAt, Instr.sureAddr, h w hw]
theorem Ev_iface {v : Value} {dsc : TypeDesc} (hu : C.P.underlying T = some dsc) (hd : (match dsc with | .interface _ => false | _ => true) = true) (hx : ev F x = some v) : Ev C F L (.makeInterface T x) ty (.iface T v) := fun a w ha _ d pos aft g => by
  simp only [execOp, ha.ev hx, Instr.makeInterface]
  cases dsc <;> simp_all [run_underlying hu]
theorem Ev_extract {vs : Array Value} {v : Value} {i : Nat} (hx : ev F x = some (.tuple vs)) (hv : vs[i]? = some v) : Ev C F L (.extract x i) ty v := fun a w ha _ d pos aft g => by
  simp [execOp, ha.ev hx, Instr.extract, hv]
theorem Ev_fieldAddr {b off i : Nat} (fo fT n : Nat) {fs : Array Field} (hu : C.P.underlying T = some (.struct fs)) (hf : (fs[i]?).map (fun f => (f.offset, f.type)) = some (fo, fT))
    (hS : ∀ w, (sizeOf fT).run C.P w = .ok n w) (hn : Nat.beq n 0 = false) (hx : ev F x = some (Ptr b off)) : Ev C F L (.fieldAddr T x i) ty (Ptr b (off + fo)) := fun a w ha _ d pos aft g => by
  cases hfi : fs[i]? with
  | none => rw [hfi] at hf; cases hf
  | some f =>
    rw [hfi] at hf
    simp at hf
    obtain ⟨rfl, rfl⟩ := hf
    have hn0 : n ≠ 0 := Nat.ne_of_beq_eq_false hn
    simp [execOp, ha.ev hx, Instr.fieldAt, run_underlying hu, hfi, Instr.sureAddr, fieldPlace, hS w, hn0, addr_add]
theorem Ev_indexArr {b off : Nat} {i : Int} {k : IntKind} (len e s : Nat) (o : Nat) (hu : C.P.underlying T = some (.array len e)) (hS : ∀ w, (sizeOf e).run C.P w = .ok s w) (hx : ev F x = some (Ptr b off)) (hy : ev F y = some (.int k i))
    (h0 : 0 ≤ i) (h1 : i < len) (ho : off + i.toNat * s = o) : Ev C F L (.indexAddr T x y) ty (Ptr b o) := fun a w ha _ d pos aft g => by
  simp [execOp, ha.ev hx, ha.ev hy, Instr.indexAt, asIntOf, run_underlying hu, Instr.sureAddr, h0, h1, hS w, addr_add, ho]
theorem Ev_indexSl {b off l c : Nat} {i : Int} {k : IntKind} (e s : Nat) (o : Nat) (hu : C.P.underlying T = some (.slice e)) (hS : ∀ w, (sizeOf e).run C.P w = .ok s w) (hx : ev F x = some (Slc b off l c)) (hy : ev F y = some (.int k i))
    (h0 : 0 ≤ i) (h1 : i < l) (ho : off + i.toNat * s = o) : Ev C F L (.indexAddr T x y) ty (Ptr b o) := fun a w ha _ d pos aft g => by
  simp [execOp, ha.ev hx, ha.ev hy, Instr.indexAt, asIntOf, run_underlying hu, h0, h1, hS w, addr_add, ho]
/-- index of an array's value, an element of one cell -/
theorem Ev_index1 {cs : List Value} {i : Int} {k : IntKind} (len e : Nat) (v : Value) (hu : C.P.underlying T = some (.array len e)) (hA : ∀ w, (isAgg e).run C.P w = .ok false w) (hS : ∀ w, (sizeOf e).run C.P w = .ok 1 w)
    (hx : ev F x = some (.agg cs.toArray)) (hy : ev F y = some (.int k i)) (h0 : 0 ≤ i) (h1 : i < len) (hv : cs[i.toNat]? = some v) : Ev C F L (.index T x y) ty v := fun a w ha _ d pos aft g => by
  simp [execOp, ha.ev hx, ha.ev hy, Instr.index, asIntOf, run_underlying hu, h0, h1, hS w, part, hA w, hv]
/-- index of an array's value, an element of many cells -/
theorem Ev_indexA {cs : List Value} {i : Int} {k : IntKind} (len e s : Nat) (vs : List Value) (hu : C.P.underlying T = some (.array len e)) (hA : ∀ w, (isAgg e).run C.P w = .ok true w) (hS : ∀ w, (sizeOf e).run C.P w = .ok s w)
    (hx : ev F x = some (.agg cs.toArray)) (hy : ev F y = some (.int k i)) (h0 : 0 ≤ i) (h1 : i < len) (hv : (cs.drop (i.toNat * s)).take s = vs) : Ev C F L (.index T x y) ty (.agg vs.toArray) := fun a w ha _ d pos aft g => by
  simp [execOp, ha.ev hx, ha.ev hy, Instr.index, asIntOf, run_underlying hu, h0, h1, hS w, part, hA w, ← hv]
/-- a field of a struct's value, of one cell -/
theorem Ev_field1 {cs : List Value} {i : Nat} (fo fT : Nat) (v : Value) {fs : Array Field} (hu : C.P.underlying T = some (.struct fs)) (hf : (fs[i]?).map (fun f => (f.offset, f.type)) = some (fo, fT))
    (hA : ∀ w, (isAgg fT).run C.P w = .ok false w) (hx : ev F x = some (.agg cs.toArray)) (hv : cs[fo]? = some v) : Ev C F L (.field T x i) ty v := fun a w ha _ d pos aft g => by
  cases hfi : fs[i]? with
  | none => rw [hfi] at hf; cases hf
  | some f =>
    rw [hfi] at hf
    simp at hf
    obtain ⟨rfl, rfl⟩ := hf
    simp [execOp, ha.ev hx, Instr.field, run_underlying hu, hfi, asAgg, part, hA w, hv]
theorem Ev_fieldA {cs : List Value} {i : Nat} (fo fT s : Nat) (vs : List Value) {fs : Array Field} (hu : C.P.underlying T = some (.struct fs)) (hf : (fs[i]?).map (fun f => (f.offset, f.type)) = some (fo, fT))
    (hA : ∀ w, (isAgg fT).run C.P w = .ok true w) (hS : ∀ w, (sizeOf fT).run C.P w = .ok s w) (hx : ev F x = some (.agg cs.toArray)) (hv : (cs.drop fo).take s = vs) : Ev C F L (.field T x i) ty (.agg vs.toArray) := fun a w ha _ d pos aft g => by
  cases hfi : fs[i]? with
  | none => rw [hfi] at hf; cases hf
  | some f =>
    rw [hfi] at hf
    simp at hf
    obtain ⟨rfl, rfl⟩ := hf
    simp [execOp, ha.ev hx, Instr.field, run_underlying hu, hfi, asAgg, part, hA w, hS w, ← hv]
theorem Ev_indexStr {s : ByteArray} {i : Int} {k : IntKind} (u : UInt8) (hu : C.P.underlying T = some .string) (hx : ev F x = some (.string s)) (hy : ev F y = some (.int k i)) (h0 : 0 ≤ i) (hv : s[i.toNat]? = some u) : Ev C F L (.index T x y) ty (U8 u) := fun a w ha _ d pos aft g => by
  simp [execOp, ha.ev hx, ha.ev hy, Instr.index, asIntOf, run_underlying hu, h0, hv]
/-! slices -/
/-- x[lo:hi] of a slice, whatever its address -/
theorem Ev_sliceG {lo hi : Option Operand} {ao : Option Addr} {l c : Nat} (e s i j : Nat) (hu : C.P.underlying T = some (.slice e)) (hS : ∀ w, (sizeOf e).run C.P w = .ok s w) (hx : ev F x = some (.slice ao l c))
    (hl : match lo with | some z => ev F z = some (I64 i) | none => i = 0) (hh : match hi with | some z => ev F z = some (I64 j) | none => j = l)
    (h1 : i ≤ j) (h2 : j ≤ c) : Ev C F L (.slice T x lo hi none) ty (.slice (if c = i then ao else ao.map (·.add (i * s))) (j - i) (c - i)) := fun a w ha _ d pos aft g => by
  have g1 : (Instr.sliceBound (I64 j) c .sliceAcap).run C.P w = .ok j w := by
    simp only [Instr.sliceBound, asIntOf]
    simp [h2]
  have g2 : (Instr.sliceBound (I64 i) j .sliceB).run C.P w = .ok i w := by
    simp only [Instr.sliceBound, asIntOf]
    simp [h1]
  cases lo <;> cases hi <;> simp only [] at hl hh
  · subst hl; subst hh
    simp [execOp, ha.ev hx, Instr.sliceAt, run_underlying hu, Instr.slice, Instr.sliceBounds, hS w]
  · subst hl
    simp [execOp, ha.ev hx, ha.ev hh, Instr.sliceAt, run_underlying hu, Instr.slice, Instr.sliceBounds, hS w, g1]
  · subst hh
    simp [execOp, ha.ev hx, ha.ev hl, Instr.sliceAt, run_underlying hu, Instr.slice, Instr.sliceBounds, hS w, g2]
  · simp [execOp, ha.ev hx, ha.ev hl, ha.ev hh, Instr.sliceAt, run_underlying hu, Instr.slice, Instr.sliceBounds, hS w, g1, g2]
theorem Ev_slice {lo hi : Option Operand} {b off l c : Nat} (e s i j o c' : Nat) (hu : C.P.underlying T = some (.slice e)) (hS : ∀ w, (sizeOf e).run C.P w = .ok s w) (hx : ev F x = some (Slc b off l c))
    (hl : match lo with | some z => ev F z = some (I64 i) | none => i = 0) (hh : match hi with | some z => ev F z = some (I64 j) | none => j = l)
    (h1 : i ≤ j) (h2 : j ≤ c) (hne : i < c) (ho : off + i * s = o) (hc : c - i = c') (j' : Nat) (hj : j - i = j') : Ev C F L (.slice T x lo hi none) ty (Slc b o j' c') := by
  have := Ev_sliceG (ty := ty) (L := L) e s i j hu hS hx hl hh h1 h2
  rw [if_neg (by omega), Option.map_some, addr_add, ho, hc, hj] at this
  exact this
/-- x[lo:hi] of an array behind an address -/
theorem Ev_sliceA {lo hi : Option Operand} {b off : Nat} (n e s i j o c' : Nat) (hu : C.P.underlying T = some (.array n e)) (hS : ∀ w, (sizeOf e).run C.P w = .ok s w) (hx : ev F x = some (Ptr b off))
    (hl : match lo with | some z => ev F z = some (I64 i) | none => i = 0) (hh : match hi with | some z => ev F z = some (I64 j) | none => j = n)
    (h1 : i ≤ j) (h2 : j ≤ n) (hne : i < n) (ho : off + i * s = o) (hc : n - i = c') (j' : Nat) (hj : j - i = j') : Ev C F L (.slice T x lo hi none) ty (Slc b o j' c') := fun a w ha _ d pos aft g => by
  have g1 : (Instr.sliceBound (I64 j) n .sliceAlen).run C.P w = .ok j w := by
    simp only [Instr.sliceBound, asIntOf]
    simp [h2]
  have g2 : (Instr.sliceBound (I64 i) j .sliceB).run C.P w = .ok i w := by
    simp only [Instr.sliceBound, asIntOf]
    simp [h1]
  have hne' : ¬ n = i := by omega
  cases lo <;> cases hi <;> simp only [] at hl hh
  · subst hl; subst hh; subst hj; subst hc; subst ho
    have h3 : ¬ j = 0 := by omega
    simp [execOp, ha.ev hx, Instr.sliceAt, run_underlying hu, Instr.sliceBounds, hS w, Instr.sureAddr, addr_add]
  · subst hl; subst hj; subst hc; subst ho
    simp [execOp, ha.ev hx, ha.ev hh, Instr.sliceAt, run_underlying hu, Instr.sliceBounds, hS w, g1, Instr.sureAddr, addr_add]
  · subst hh; subst hj; subst hc; subst ho
    simp [execOp, ha.ev hx, ha.ev hl, Instr.sliceAt, run_underlying hu, Instr.sliceBounds, hS w, g2, Instr.sureAddr, addr_add, hne']
  · subst hj; subst hc; subst ho
    simp [execOp, ha.ev hx, ha.ev hl, ha.ev hh, Instr.sliceAt, run_underlying hu, Instr.sliceBounds, hS w, g1, g2, Instr.sureAddr, addr_add, hne']
theorem addr_map (ao : Option Addr) : ao.map (·.add 0) = ao := by
  cases ao <;> simp [Addr.add]
/-! builtins of one value -/
theorem Ev_len {ao : Option Addr} {l c t e : Nat} (hu : C.P.underlying t = some (.slice e)) (hx : ev F x = some (.slice ao l c)) : Ev C F L (.call { callee := .builtin .len, args := #[x], argTypes := #[t] }) ty (I64 l) := fun a w ha _ d pos aft g => by
  have e := ha.ev hx
  simp [execOp, resolve, invoke, e, builtin, Builtin.len_, run_underlying hu, goInt]
theorem Ev_lenStr {s : ByteArray} {t : Nat} (hu : C.P.underlying t = some .string) (hx : ev F x = some (.string s)) : Ev C F L (.call { callee := .builtin .len, args := #[x], argTypes := #[t] }) ty (I64 s.size) := fun a w ha _ d pos aft g => by
  have e := ha.ev hx
  simp [execOp, resolve, invoke, e, builtin, Builtin.len_, run_underlying hu, goInt]
theorem Ev_builtin {b : Builtin} {args : Array Operand} {ats : Array TypeId} (vs : List Value) (v : Value) (h : args.toList.map (ev F) = vs.map some)
    (hr : ∀ w cs, (builtin b ats ty cs vs.toArray).run C.P w = .ok (.value v) w) : Ev C F L (.call { callee := .builtin b, args := args, argTypes := ats }) ty v := fun a w ha _ d pos aft g => by
  have : args.map a.eval = vs.toArray := by
    apply Array.toList_inj.1
    rw [Array.toList_map]
    generalize args.toList = l at h
    clear hr
    induction l generalizing vs with
    | nil => cases vs <;> simp_all
    | cons o l ih =>
      cases vs with
      | nil => simp at h
      | cons v vs =>
        simp only [List.map_cons, List.cons.injEq] at h
        simp [ha.ev h.1, ih vs h.2]
  simp [execOp, resolve, invoke, this, hr]
/-! calls -/
theorem Cl_func {f : FuncId} {args : Array Operand} {ats : Array TypeId} (vs : List Value) (hcf : ∀ (args : Array Value) (w : World), Sem.run C.P (callFunc f args) w = Result.ok (Next.enter f args) w)
    (h : args.toList.map (ev F) = vs.map some) : Cl C F L (.call { callee := .value (.func f), args := args, argTypes := ats }) ty f vs.toArray := fun a w ha _ d pos aft g => by
  have : args.map a.eval = vs.toArray := by
    apply Array.toList_inj.1
    rw [Array.toList_map]
    generalize args.toList = l at h
    clear hcf
    induction l generalizing vs with
    | nil => cases vs <;> simp_all
    | cons o l ih =>
      cases vs with
      | nil => simp at h
      | cons v vs =>
        simp only [List.map_cons, List.cons.injEq] at h
        simp [ha.ev h.1, ih vs h.2]
  have h2 : a.eval (.func f) = .func (.func f) #[] #[] := rfl
  simp [execOp, resolve, this, h2, Deferred.ofValue, invoke, hcf]
end Go.Sx
