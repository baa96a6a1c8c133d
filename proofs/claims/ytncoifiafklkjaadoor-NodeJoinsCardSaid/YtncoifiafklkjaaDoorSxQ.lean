import Derived.Test.YtncoifiafklkjaaDoorSxP
namespace Go.Sx
open Go Go.RowKit
set_option linter.unusedVariables false
variable {C : Cx} {F : Frm} {L : List Ent} {ty T T' : TypeId} {x y : Operand}

/-- x[lo:hi:mx] of a slice, whatever its address -/
theorem Ev_slice3G {lo hi mx : Operand} {ao : Option Addr} {l c : Nat} (e s i j m : Nat) (hu : C.P.underlying T = some (.slice e)) (hS : ∀ w, (sizeOf e).run C.P w = .ok s w) (hx : ev F x = some (.slice ao l c))
    (hl : ev F lo = some (I64 i)) (hh : ev F hi = some (I64 j)) (hm : ev F mx = some (I64 m))
    (h1 : i ≤ j) (h2 : j ≤ m) (h3 : m ≤ c) : Ev C F L (.slice T x (some lo) (some hi) (some mx)) ty (.slice (if m = i then ao else ao.map (·.add (i * s))) (j - i) (m - i)) := fun a w ha _ d pos aft g => by
  have g0 : (Instr.sliceBound (I64 m) c .slice3Acap).run C.P w = .ok m w := by
    simp only [Instr.sliceBound, asIntOf]
    simp [h3]
  have g1 : (Instr.sliceBound (I64 j) m .slice3B).run C.P w = .ok j w := by
    simp only [Instr.sliceBound, asIntOf]
    simp [h2]
  have g2 : (Instr.sliceBound (I64 i) j .slice3C).run C.P w = .ok i w := by
    simp only [Instr.sliceBound, asIntOf]
    simp [h1]
  simp [execOp, ha.ev hx, ha.ev hl, ha.ev hh, ha.ev hm, Instr.sliceAt, run_underlying hu, Instr.slice, Instr.sliceBounds, hS w, g0, g1, g2]
theorem Ev_slice3 {lo hi mx : Operand} {b off l c : Nat} (e s i j m o c' j' : Nat) (hu : C.P.underlying T = some (.slice e)) (hS : ∀ w, (sizeOf e).run C.P w = .ok s w) (hx : ev F x = some (Slc b off l c))
    (hl : ev F lo = some (I64 i)) (hh : ev F hi = some (I64 j)) (hm : ev F mx = some (I64 m))
    (h1 : i ≤ j) (h2 : j ≤ m) (h3 : m ≤ c) (hne : i < m) (ho : off + i * s = o) (hc : m - i = c') (hj : j - i = j') : Ev C F L (.slice T x (some lo) (some hi) (some mx)) ty (Slc b o j' c') := by
  have := Ev_slice3G (ty := ty) (L := L) e s i j m hu hS hx hl hh hm h1 h2 h3
  rw [if_neg (by omega), Option.map_some, addr_add, ho, hc, hj] at this
  exact this
theorem Ev_makeFunc {f : Nat} {cap : Array Operand} {vs : List Value} (hc : cap.toList.map (ev F) = vs.map some) (hr : ∀ (w : World) (ps : Array Value), (Instr.makeFunc (.func f) #[] ps).run C.P w = .ok (.func (.func f) #[] ps) w) :
    Ev C F L (.makeFunc (.func f) #[] cap) ty (.func (.func f) #[] vs.toArray) := fun a w ha _ d pos aft g => by
  have hargs : cap.map a.eval = vs.toArray := by
    apply Array.toList_inj.1
    rw [Array.toList_map]
    generalize cap.toList = l at hc
    clear hr
    induction l generalizing vs with
    | nil => cases vs <;> simp_all
    | cons o l ih =>
      cases vs with
      | nil => simp at hc
      | cons v vs =>
        simp only [List.map_cons, List.cons.injEq] at hc
        simp [ha.ev hc.1, ih hc.2]
  simp [execOp, hargs, hr]
theorem Ev_min {t1 t2 : TypeId} {a b r : Int} (hx : ev F x = some (I64 a)) (hy : ev F y = some (I64 b)) (hr : min a b = r) :
    Ev C F L (.call { callee := .builtin .min, args := #[x, y], argTypes := #[t1, t2] }) ty (I64 r) := fun a' w ha _ d pos aft g => by
  have e1 := ha.ev hx
  have e2 := ha.ev hy
  subst hr
  simp [execOp, resolve, invoke, e1, e2, builtin, Builtin.min_, Builtin.min2]
  split <;> omega
theorem Ev_max {t1 t2 : TypeId} {a b r : Int} (hx : ev F x = some (I64 a)) (hy : ev F y = some (I64 b)) (hr : max a b = r) :
    Ev C F L (.call { callee := .builtin .max, args := #[x, y], argTypes := #[t1, t2] }) ty (I64 r) := fun a' w ha _ d pos aft g => by
  have e1 := ha.ev hx
  have e2 := ha.ev hy
  subst hr
  simp [execOp, resolve, invoke, e1, e2, builtin, Builtin.max_, Builtin.max2]
  split <;> omega
theorem Ev_indexSlG {ao : Option Addr} {b off l c : Nat} {i : Int} {k : IntKind} (e s : Nat) (o : Nat) (hu : C.P.underlying T = some (.slice e)) (hS : ∀ w, (sizeOf e).run C.P w = .ok s w) (hx : ev F x = some (.slice ao l c)) (hao : ao = some ⟨b, off, none⟩) (hy : ev F y = some (.int k i))
    (h0 : 0 ≤ i) (h1 : i < l) (ho : off + i.toNat * s = o) : Ev C F L (.indexAddr T x y) ty (Ptr b o) := by
  subst hao; exact Ev_indexSl e s o hu hS hx hy h0 h1 ho

theorem Step_make8 {x y : Operand} {ty T : TypeId} (e bytes : Nat) (ln cp : Nat) (hu : C.P.underlying T = some (.slice e)) (hi : (C.P.info? e).map (fun i => (i.zero, i.size, i.bytes)) = some (some (.int .u8 0), 1, bytes))
    (hx : ev F x = some (I64 ln)) (hy : ev F y = some (I64 cp)) (h1 : ln ≤ cp) (h2 : bytes * cp ≤ 140737488355328) (h3 : cp ≤ maxLen) :
    Step C F L (.makeSlice T x y) ty fun v' L' => ∃ nb, C.w0.heap.size ≤ nb ∧ v' = Slc nb 0 ln cp ∧ L' = L ++ [⟨nb, cu8 (zr8 cp), e, (0, 0)⟩] := by
  have := Step_make (L := L) (ty := ty) e bytes (.int .u8 0) ln cp hu hi rfl hx hy h1 h2 h3
  rw [cu8_zr] at this
  exact this
theorem Step_make32 {x y : Operand} {ty T : TypeId} (e bytes : Nat) (ln cp : Nat) (hu : C.P.underlying T = some (.slice e)) (hi : (C.P.info? e).map (fun i => (i.zero, i.size, i.bytes)) = some (some (.int .u32 0), 1, bytes))
    (hx : ev F x = some (I64 ln)) (hy : ev F y = some (I64 cp)) (h1 : ln ≤ cp) (h2 : bytes * cp ≤ 140737488355328) (h3 : cp ≤ maxLen) :
    Step C F L (.makeSlice T x y) ty fun v' L' => ∃ nb, C.w0.heap.size ≤ nb ∧ v' = Slc nb 0 ln cp ∧ L' = L ++ [⟨nb, cu32 (zr32 cp), e, (0, 0)⟩] := by
  have := Step_make (L := L) (ty := ty) e bytes (.int .u32 0) ln cp hu hi rfl hx hy h1 h2 h3
  rw [cu32_zr] at this
  exact this
theorem Step_make64 {x y : Operand} {ty T : TypeId} (e bytes : Nat) (ln cp : Nat) (hu : C.P.underlying T = some (.slice e)) (hi : (C.P.info? e).map (fun i => (i.zero, i.size, i.bytes)) = some (some (.int .u64 0), 1, bytes))
    (hx : ev F x = some (I64 ln)) (hy : ev F y = some (I64 cp)) (h1 : ln ≤ cp) (h2 : bytes * cp ≤ 140737488355328) (h3 : cp ≤ maxLen) :
    Step C F L (.makeSlice T x y) ty fun v' L' => ∃ nb, C.w0.heap.size ≤ nb ∧ v' = Slc nb 0 ln cp ∧ L' = L ++ [⟨nb, cu64 (zr64 cp), e, (0, 0)⟩] := by
  have := Step_make (L := L) (ty := ty) e bytes (.int .u64 0) ln cp hu hi rfl hx hy h1 h2 h3
  rw [cu64_zr] at this
  exact this
theorem Step_appM8 {x y : Operand} {ty : TypeId} (t e : Nat) (m : List Bool) (v : Value) (n : Nat) (l z : List UInt8) (ao : Option Addr) (k c tot : Nat)
    (hu : C.P.underlying t = some (.slice e)) (hi : (C.P.info? e).map (fun i => (i.zero, i.size, i.bytes)) = some (some (.int .u8 0), 1, 1))
    (hx : ev F x = some v)
    (hv : (v = .slice none 0 0 ∧ n = 0 ∧ l = [] ∧ take? m L = [] ∧ 0 < k) ∨ (∃ g sp cap, v = Slc g 0 n cap ∧ take? m L = [⟨g, cu8 l ++ sp, e, (0, 0)⟩] ∧ l.length = n ∧ sp.length = cap - n ∧ n ≤ cap ∧ cap ≤ maxLen))
    (hy : ev F y = some (.slice ao k c)) (hk : z.length = k) (hm : SrcAt C L ao (cu8 z)) (hmax : (n + k) * 1 ≤ 140737488355328) (hmax' : n + k ≤ maxLen) (htot : n + k = tot) :
    Step C F L (.call { callee := .builtin .append, args := #[x, y], argTypes := #[t, t] }) ty fun v' L' => ∃ g sp cap, (C.w0.heap.size ≤ g ∨ g ∈ C.M) ∧ v' = Slc g 0 tot cap ∧ L' = rest? m L ++ [⟨g, cu8 (l ++ z) ++ sp, e, (0, 0)⟩] ∧ (l ++ z).length = tot ∧ sp.length = cap - tot ∧ tot ≤ cap ∧ cap ≤ maxLen := by
  subst htot
  exact Step_append8 t e m v n l z ao k c hu hi hx hv hy hk hm hmax hmax'
theorem Step_appM32 {x y : Operand} {ty : TypeId} (t e : Nat) (m : List Bool) (v : Value) (n : Nat) (l z : List UInt32) (ao : Option Addr) (k c tot : Nat)
    (hu : C.P.underlying t = some (.slice e)) (hi : (C.P.info? e).map (fun i => (i.zero, i.size, i.bytes)) = some (some (.int .u32 0), 1, 4))
    (hx : ev F x = some v)
    (hv : (v = .slice none 0 0 ∧ n = 0 ∧ l = [] ∧ take? m L = [] ∧ 0 < k) ∨ (∃ g sp cap, v = Slc g 0 n cap ∧ take? m L = [⟨g, cu32 l ++ sp, e, (0, 0)⟩] ∧ l.length = n ∧ sp.length = cap - n ∧ n ≤ cap ∧ cap ≤ maxLen))
    (hy : ev F y = some (.slice ao k c)) (hk : z.length = k) (hm : SrcAt C L ao (cu32 z)) (hmax : (n + k) * 4 ≤ 140737488355328) (hmax' : n + k ≤ maxLen) (htot : n + k = tot) :
    Step C F L (.call { callee := .builtin .append, args := #[x, y], argTypes := #[t, t] }) ty fun v' L' => ∃ g sp cap, (C.w0.heap.size ≤ g ∨ g ∈ C.M) ∧ v' = Slc g 0 tot cap ∧ L' = rest? m L ++ [⟨g, cu32 (l ++ z) ++ sp, e, (0, 0)⟩] ∧ (l ++ z).length = tot ∧ sp.length = cap - tot ∧ tot ≤ cap ∧ cap ≤ maxLen := by
  subst htot
  exact Step_append32 t e m v n l z ao k c hu hi hx hv hy hk hm hmax hmax'
theorem Step_appM64 {x y : Operand} {ty : TypeId} (t e : Nat) (m : List Bool) (v : Value) (n : Nat) (l z : List UInt64) (ao : Option Addr) (k c tot : Nat)
    (hu : C.P.underlying t = some (.slice e)) (hi : (C.P.info? e).map (fun i => (i.zero, i.size, i.bytes)) = some (some (.int .u64 0), 1, 8))
    (hx : ev F x = some v)
    (hv : (v = .slice none 0 0 ∧ n = 0 ∧ l = [] ∧ take? m L = [] ∧ 0 < k) ∨ (∃ g sp cap, v = Slc g 0 n cap ∧ take? m L = [⟨g, cu64 l ++ sp, e, (0, 0)⟩] ∧ l.length = n ∧ sp.length = cap - n ∧ n ≤ cap ∧ cap ≤ maxLen))
    (hy : ev F y = some (.slice ao k c)) (hk : z.length = k) (hm : SrcAt C L ao (cu64 z)) (hmax : (n + k) * 8 ≤ 140737488355328) (hmax' : n + k ≤ maxLen) (htot : n + k = tot) :
    Step C F L (.call { callee := .builtin .append, args := #[x, y], argTypes := #[t, t] }) ty fun v' L' => ∃ g sp cap, (C.w0.heap.size ≤ g ∨ g ∈ C.M) ∧ v' = Slc g 0 tot cap ∧ L' = rest? m L ++ [⟨g, cu64 (l ++ z) ++ sp, e, (0, 0)⟩] ∧ (l ++ z).length = tot ∧ sp.length = cap - tot ∧ tot ≤ cap ∧ cap ≤ maxLen := by
  subst htot
  exact Step_append64 t e m v n l z ao k c hu hi hx hv hy hk hm hmax hmax'
/-- a number of kind int as one of kind uint64 -/
def u64i (x : Int) : UInt64 := UInt64.ofNat (x % 18446744073709551616).toNat
theorem conv_i64_u64i {P : Program} {w : World} {src dst : TypeId} (hs : (P.underlying src).isSome = true) (hd : P.underlying dst = some (.int .u64)) (x : Int) : (convert src dst (I64 x)).run P w = .ok (U64 (u64i x)) w :=
  conv_int _ _ hs hd _ (by
    rw [wrap_u64', u64i, UInt64.toNat_ofNat']
    have h1 : 0 ≤ x % 18446744073709551616 := Int.emod_nonneg _ (by omega)
    have h2 : x % 18446744073709551616 < 18446744073709551616 := Int.emod_lt_of_pos _ (by omega)
    rw [Nat.mod_eq_of_lt (by omega)]; omega)
theorem un_neg_i {P : Program} {w : World} (x r : Int) (h : -9223372036854775808 ≤ r ∧ r ≤ 9223372036854775807) (hr : -x = r) : (Op.unary .neg (I64 x)).run P w = .ok (I64 r) w := by
  subst hr; simp [Op.unary, Op.intArith, wrap_i64_in _ h.1 h.2]
theorem ofN_i {X : Nat} (h : X < 18446744073709551616) : ((UInt64.ofNat X).toNat : Int) = X := by rw [UInt64.toNat_ofNat', Nat.mod_eq_of_lt (by omega)]
theorem Ev_lenX {ao : Option Addr} {l c t e : Nat} {r : Int} (hu : C.P.underlying t = some (.slice e)) (hx : ev F x = some (.slice ao l c)) (hr : (l : Int) = r) : Ev C F L (.call { callee := .builtin .len, args := #[x], argTypes := #[t] }) ty (I64 r) := by
  subst hr; exact Ev_len hu hx
theorem Hp.right {w0 w : World} {M : List Nat} {A S : List Ent} (h : Hp w0 M (A ++ S) w) : Hp w0 M S w :=
  h.sub (fun _ he => List.mem_append.2 (.inr he)) (List.Sublist.nodup ((List.sublist_append_right A S).map Ent.b) h.nd)

/-! ### an iterator's own walk -/
theorem enterI {P : Program} {f : FuncId} {fn : Func} {c : Code} {R : Ending → World → Prop} (w0 : World) (M : List Nat) (n : Nat) (L : List Ent) (args : List Value)
    (hf : P.funcs[f]? = some fn) (hb : fn.body = some c) (hn : fn.ntmps = n) (hlen : args.length ≤ n) (hw : Hp w0 M L w0)
    (h : JC ⟨P, w0, M, n, none, []⟩ (bodyPostM (Fc none) 0 P fn R) c (argF 0 args) L) : CallsIn (Fc none) 0 P f args.toArray w0 R := by
  refine callsIn_of_wp_marks (n := 0) hf hb trivial (h _ _ ⟨rfl, ?_, fun i v hi => ?_⟩ hw)
  · simp [hn]; omega
  · obtain ⟨_, h2⟩ := argF_lk args 0 i v hi
    have hi' : i < args.length := by
      have := (List.getElem?_eq_some_iff.1 h2).1
      simpa using this
    simp only [Array.getElem?_append, List.size_toArray]
    rw [if_pos hi']
    simpa using h2
theorem JQ_endM0 {fn : Func} {R : Ending → World → Prop} (v : Value) (hr : ∀ a w, Fr F C a → Hp C.w0 C.M L w → (results fn a.tmps).run C.P w = .ok v w)
    (h : ∀ w, Hp C.w0 C.M L w → R (.returned v) w) (hdf : C.df = [] := by rfl) : JQ C (bodyPostM (Fc none) 0 C.P fn R) .normal F L := fun a w ha hw => by
  show LeavesInM _ _ _ _ _ _ a.defers _ _
  rw [ha.1, hdf]
  exact ⟨v, hr a w ha hw, h w hw⟩
/-- What lies at the end of a function that holds such a loop, its mark taken up. -/
theorem Hp.fin {w0 W w : World} {M : List Nat} {L0 : List Ent} {D : Nat} (h0 : Hp w0 M L0 W) (hD : W.heap[D]? = some (.deferred (some []))) (hle : w0.heap.size ≤ D) (h1 : Hp W (L0.map Ent.b) L w) (o : Obj) : Hp w0 M L (w.putObj D o) :=
  (h0.then h1).putObj o hle (h1.far (Array.getElem?_eq_some_iff.1 hD).1 fun hm => by
    obtain ⟨e, he, h⟩ := List.mem_map.1 hm
    exact h0.notCells hD rfl e he h)
end Go.Sx
