import Derived.WalkKit
import Derived.WalkSpells
import Derived.WalkLawsBesides
import Derived.Orders
import Derived.Deep.LoopGhost
import Derived.OwnWalkIn
import Derived.OrdersIn
import Derived.RangeFuncCalls
namespace Go.Sx
open Go Go.RowKit

abbrev U8 (x : UInt8) : Value := .int .u8 x.toNat
abbrev U32 (x : UInt32) : Value := .int .u32 x.toNat
abbrev U64 (x : UInt64) : Value := .int .u64 x.toNat
abbrev I64 (n : Int) : Value := .int .i64 n
abbrev Ptr (b o : Nat) : Value := .pointer (some ⟨b, o, none⟩)
abbrev Slc (b o l c : Nat) : Value := .slice (some ⟨b, o, none⟩) l c

structure Ent where
  b : Nat
  cs : List Value
  T : TypeId
  fz : Nat × Nat

abbrev Frm := List (Nat × Value)

def lk : Frm → Nat → Option Value
  | [], _ => none
  | (i, v) :: r, j => bif Nat.beq i j then some v else lk r j

def ev (F : Frm) : Operand → Option Value
  | .tmp t => lk F t
  | .const v => some v
  | .global g => some (.pointer (some ⟨g, 0, none⟩))
  | .func f => some (.func (.func f) #[] #[])

structure Cx where
  P : Program
  w0 : World
  M : List Nat
  n : Nat
  rd : Option Nat
  df : List Deferred

/-- The fence: everything is let; in a round of the loop rd, if there is one. -/
def Fc (rd : Option Nat) : Fence := { fn := fun _ => True, depth := none, alive := false, round := rd }
theorem Fc_none : Fc none = Fence.wide := rfl
theorem nd_of_run {ρ : Operand → Value} {o : Oper} {P : Program} {w w' : World} {r : Next} (h : (execOp ρ o).run P w = .ok r w') (hr : ∀ d, r ≠ .defer d) : ∀ c, o.op ≠ .defer c := by
  intro c hc
  unfold execOp at h
  rw [hc] at h
  simp only [Sem.run_bind] at h
  cases hs : (resolve ρ c o.type).run P w with
  | ok d w1 => rw [hs] at h; simp [Result.andThen] at h; exact hr d h.1.symm
  | halt x w1 => rw [hs] at h; simp [Result.andThen] at h
theorem rowsIn_wide {rd : Option Nat} {n : Nat} {P : Program} {row : String} {args : Array Value} {w : World} {R : Value → World → Prop} (h : Rows P row args w R) : RowsIn (Fc rd) n P row args w R :=
  fun c cs _ => let ⟨v, w', r, s⟩ := h c cs; ⟨v, w', r, stepsIn_wide.2 s⟩
theorem wpIn_of_wp {rd : Option Nat} {n : Nat} {P : Program} {o : Oper} {a : Act} {w : World} {K : Act → World → Prop} {Q : Exit → Act → World → Prop} (hnd : ∀ c, o.op ≠ .defer c) (h : o.wp P a w K Q) : o.wpIn (Fc rd) n P a w K Q := by
  unfold Oper.wp at h
  unfold Oper.wpIn
  refine ⟨fun _ _ => trivial, ?_⟩
  rw [Oper.semAt_plain _ _ _ hnd]
  generalize (execOp a.eval o).run P w = r at *
  cases r with
  | ok x w' =>
    cases x <;> simp only [Oper.upon, Oper.uponIn] at h ⊢ <;>
      first
        | exact h
        | exact h.elim
        | exact ⟨fun hd => by simp [Fc] at hd, callsIn_wide.2 h⟩
        | exact ⟨fun hd => by simp [Fc] at hd, rowsIn_wide h⟩
  | halt x w' => cases x <;> simp only [Oper.upon, Oper.uponIn] at h ⊢ <;> exact h

def Fr (F : Frm) (C : Cx) (a : Act) : Prop :=
  a.defers = C.df ∧ a.tmps.size = C.n ∧ ∀ i v, lk F i = some v → a.tmps[i]? = some v

structure Hp (w0 : World) (M : List Nat) (L : List Ent) (w : World) : Prop where
  os : w.os = w0.os
  tape : w.tape = w0.tape
  output : w.output = w0.output
  le : w0.heap.size ≤ w.heap.size
  old : ∀ b, b < w0.heap.size → b ∉ M → w.heap[b]? = w0.heap[b]?
  ent : ∀ e ∈ L, w.heap[e.b]? = some (.cells e.cs.toArray e.T e.fz)
  nd : (L.map Ent.b).Nodup
  own : ∀ e ∈ L, e.b ∈ M ∨ w0.heap.size ≤ e.b

variable {C : Cx} {F : Frm} {L : List Ent}

theorem Fr.ev {F : Frm} {C : Cx} {a : Act} (h : Fr F C a) {x : Operand} {v : Value} (hx : ev F x = some v) : a.eval x = v := by
  cases x with
  | tmp t => simp [Act.eval, Array.getD_eq_getD_getElem?, h.2.2 t v hx]
  | const c => simpa [Sx.ev, Act.eval] using hx
  | global g => simpa [Sx.ev, Act.eval] using hx
  | func f => simpa [Sx.ev, Act.eval] using hx

theorem Fr.put {F : Frm} {C : Cx} {a : Act} (h : Fr F C a) {d : Nat} (v : Value) (hd : d < C.n) : Fr ((d, v) :: F) C (a.put (some d) v) := by
  refine ⟨h.1, by simp [Act.put, h.2.1], fun i u hi => ?_⟩
  simp only [lk] at hi
  cases hb : Nat.beq d i with
  | true =>
    rw [hb] at hi
    obtain rfl : d = i := Nat.eq_of_beq_eq_true hb
    simp at hi
    subst hi
    simp [Act.put, h.2.1, hd]
  | false =>
    rw [hb] at hi
    have hne : d ≠ i := Nat.ne_of_beq_eq_false hb
    have := h.2.2 i u hi
    rw [← this]
    simp only [Act.put]
    rw [Array.getElem?_setIfInBounds_ne hne]

theorem Fr.putNone {F : Frm} {C : Cx} {a : Act} (h : Fr F C a) (v : Value) : Fr F C (a.put none v) := h

theorem Fr.weaken {F F' : Frm} {C : Cx} {a : Act} (h : Fr F C a) (hs : ∀ i v, lk F' i = some v → lk F i = some v) : Fr F' C a :=
  ⟨h.1, h.2.1, fun i v hi => h.2.2 i v (hs i v hi)⟩

/-- What holds of every act and world that the symbolic state describes. -/
def K (C : Cx) (F : Frm) (L : List Ent) (φ : Act → World → Prop) : Prop := ∀ a w, Fr F C a → Hp C.w0 C.M L w → φ a w
def JC (C : Cx) (Q : Exit → Act → World → Prop) (c : Code) (F : Frm) (L : List Ent) : Prop := K C F L fun a w => c.wpIn (Fc C.rd) 0 C.P Q a w
def JQ (C : Cx) (Q : Exit → Act → World → Prop) (e : Exit) (F : Frm) (L : List Ent) : Prop := K C F L fun a w => Q e a w
def JL (C : Cx) (Q : Exit → Act → World → Prop) (ops : Array Oper) (l : List Oper) (F : Frm) (L : List Ent) : Prop := K C F L fun a w => wpListIn (Fc C.rd) 0 C.P ops Q l a w

/-- The operation gives this value and leaves the world. -/
def Ev (C : Cx) (F : Frm) (L : List Ent) (op : Op) (ty : TypeId) (v : Value) : Prop :=
  ∀ a w, Fr F C a → Hp C.w0 C.M L w → ∀ d pos aft g, (execOp a.eval ⟨d, op, ty, pos, aft, g⟩).run C.P w = .ok (.value v) w

variable {Q : Exit → Act → World → Prop} {ops : Array Oper} {l : List Oper}

theorem JL_nil (h : JQ C Q .normal F L) : JL C Q ops [] F L := fun a w ha hw => h a w ha hw

theorem JL_val {d : Nat} {op : Op} {ty : TypeId} {pos : String} {aft : Array Edge} (v : Value) (hv : Ev C F L op ty v) (hd : Nat.blt d C.n = true)
    (h : JL C Q ops l ((d, v) :: F) L) : JL C Q ops (⟨some d, op, ty, pos, aft, none⟩ :: l) F L := by
  intro a w ha hw
  refine wpListIn_plain rfl fun K hK => ?_
  refine wpIn_of_wp (nd_of_run (hv a w ha hw _ _ _ _) (by simp)) ?_
  unfold Oper.wp
  rw [hv a w ha hw]
  exact hK _ _ (h _ _ (ha.put v (by simpa [Nat.blt_eq] using hd)) hw)

theorem JL_gval {d : Nat} {op : Op} {ty : TypeId} {pos : String} {aft : Array Edge} (j s : Nat) (want b : Bool) (v : Value) (hj : (ops[j]?).bind (·.dst) = some s)
    (hs : lk F s = some (.bool b)) (hb : b = want) (hv : Ev C F L op ty v) (hd : Nat.blt d C.n = true)
    (h : JL C Q ops l ((d, v) :: F) L) : JL C Q ops (⟨some d, op, ty, pos, aft, some (j, want)⟩ :: l) F L := by
  intro a w ha hw
  refine wpListIn_step fun K hK => ?_
  have hy : yielded ops a.tmps j = some want := by
    have := ha.2.2 s _ hs
    simp [yielded, hj, this, hb]
  simp only [Region.wanted, hy, beq_self_eq_true, if_true]
  refine wpIn_of_wp (nd_of_run (hv a w ha hw _ _ _ _) (by simp)) ?_
  unfold Oper.wp
  rw [hv a w ha hw]
  exact hK _ _ (h _ _ (ha.put v (by simpa [Nat.blt_eq] using hd)) hw)

theorem JL_gskip {d : Nat} {op : Op} {ty : TypeId} {pos : String} {aft : Array Edge} (j s : Nat) (want b : Bool) (hj : (ops[j]?).bind (·.dst) = some s)
    (hs : lk F s = some (.bool b)) (hb : b = !want) (hd : Nat.blt d C.n = true)
    (h : JL C Q ops l ((d, undef) :: F) L) : JL C Q ops (⟨some d, op, ty, pos, aft, some (j, want)⟩ :: l) F L := by
  intro a w ha hw
  refine wpListIn_step fun K hK => ?_
  have hy : yielded ops a.tmps j = some (!want) := by
    simp [yielded, hj, ha.2.2 s _ hs, hb]
  have hn : Region.wanted ⟨some d, op, ty, pos, aft, some (j, want)⟩ (yielded ops a.tmps) = false := by
    cases want <;> simp [Region.wanted, hy]
  rw [hn]
  exact ⟨fun _ _ => trivial, hK _ _ (h _ _ (ha.put undef (by simpa [Nat.blt_eq] using hd)) hw)⟩

/-- ops whose guard stands in a slot that holds undef (an outer guard said no): skipped. -/
theorem JL_gskipU {d : Nat} {op : Op} {ty : TypeId} {pos : String} {aft : Array Edge} (j s : Nat) (want : Bool) (hj : (ops[j]?).bind (·.dst) = some s)
    (hs : lk F s = some undef) (hd : Nat.blt d C.n = true)
    (h : JL C Q ops l ((d, undef) :: F) L) : JL C Q ops (⟨some d, op, ty, pos, aft, some (j, want)⟩ :: l) F L := by
  intro a w ha hw
  refine wpListIn_step fun K hK => ?_
  have hy : yielded ops a.tmps j = none := by
    simp [yielded, hj, ha.2.2 s _ hs, undef]
  have hn : Region.wanted ⟨some d, op, ty, pos, aft, some (j, want)⟩ (yielded ops a.tmps) = false := by
    simp [Region.wanted, hy]
  rw [hn]
  exact ⟨fun _ _ => trivial, hK _ _ (h _ _ (ha.put undef (by simpa [Nat.blt_eq] using hd)) hw)⟩

theorem JC_seq {x y : Code} (h : JC C (Exit.then (y.wpIn (Fc C.rd) 0 C.P Q) Q) x F L) : JC C Q (.seq x y) F L := fun a w ha hw => wpIn_seq (h a w ha hw)
theorem JC_skip (h : JQ C Q .normal F L) : JC C Q .skip F L := fun a w ha hw => wpIn_skip (h a w ha hw)
theorem JC_ret (h : JQ C Q .ret F L) : JC C Q .ret F L := fun a w ha hw => wpIn_ret (h a w ha hw)
theorem JC_exit {id : Nat} (h : JQ C Q (.exit id) F L) : JC C Q (.exit id) F L := fun a w ha hw => wpIn_exit (h a w ha hw)
theorem JC_block {id : Nat} {c : Code} (h : JC C (Exit.inBlock id Q) c F L) : JC C Q (.block id c) F L := fun a w ha hw => wpIn_block (h a w ha hw)
theorem JC_region {id : Nat} {l : List Oper} (h : JL C Q l.toArray l F L) : JC C Q (.region id l.toArray false) F L := fun a w ha hw => wpIn_region_lit (h a w ha hw)
theorem JC_cond {c : Operand} {x y : Code} (b : Bool) (hc : ev F c = some (.bool b)) (ht : b = true → JC C Q x F L) (hf : b = false → JC C Q y F L) : JC C Q (.cond c x y) F L :=
  fun a w ha hw => wpIn_cond_split (ha.ev hc) (fun h => ht h a w ha hw) (fun h => hf h a w ha hw)
theorem JC_condT {c : Operand} {x y : Code} (b : Bool) (hc : ev F c = some (.bool b)) (hb : b = true) (ht : JC C Q x F L) : JC C Q (.cond c x y) F L :=
  JC_cond b hc (fun _ => ht) (fun h => by rw [hb] at h; cases h)
theorem JC_condF {c : Operand} {x y : Code} (b : Bool) (hc : ev F c = some (.bool b)) (hb : b = false) (hf : JC C Q y F L) : JC C Q (.cond c x y) F L :=
  JC_cond b hc (fun h => by rw [hb] at h; cases h) (fun _ => hf)
theorem JC_congr {c c' : Code} (hc : c = c') (h : JC C Q c' F L) : JC C Q c F L := hc ▸ h

theorem JQ_then {y : Code} (h : JC C Q y F L) : JQ C (Exit.then (y.wpIn (Fc C.rd) 0 C.P Q) Q) .normal F L := fun a w ha hw => h a w ha hw
theorem JQ_thenK {k : Act → World → Prop} (h : K C F L k) : JQ C (Exit.then k Q) .normal F L := fun a w ha hw => h a w ha hw
theorem JQ_then_exit {k : Act → World → Prop} {id : Nat} (h : JQ C Q (.exit id) F L) : JQ C (Exit.then k Q) (.exit id) F L := fun a w ha hw => h a w ha hw
theorem JQ_then_ret {k : Act → World → Prop} (h : JQ C Q .ret F L) : JQ C (Exit.then k Q) .ret F L := fun a w ha hw => h a w ha hw
theorem JQ_in_same {id : Nat} (h : JQ C Q .normal F L) : JQ C (Exit.inBlock id Q) (.exit id) F L := fun a w ha hw => by
  show if id = id then Q .normal a w else _
  rw [if_pos rfl]; exact h a w ha hw
theorem JQ_in_other {id id' : Nat} (hn : Nat.beq id' id = false) (h : JQ C Q (.exit id') F L) : JQ C (Exit.inBlock id Q) (.exit id') F L := fun a w ha hw => by
  show if id' = id then Q .normal a w else Q (.exit id') a w
  rw [if_neg (Nat.ne_of_beq_eq_false hn)]; exact h a w ha hw
theorem JQ_in_ret {id : Nat} (h : JQ C Q .ret F L) : JQ C (Exit.inBlock id Q) .ret F L := fun a w ha hw => h a w ha hw
theorem JQ_in_normal {id : Nat} (h : JQ C Q .normal F L) : JQ C (Exit.inBlock id Q) .normal F L := fun a w ha hw => h a w ha hw

/-- The frame keeps what is listed. -/
def Sub (F' F : Frm) : Prop := ∀ i v, lk F' i = some v → lk F i = some v
theorem Sub.nil : Sub [] F := fun _ _ h => by simp [lk] at h
theorem Sub.cons {F' : Frm} {i : Nat} {v : Value} (hv : lk F i = some v) (h : Sub F' F) : Sub ((i, v) :: F') F := fun j u hj => by
  simp only [lk] at hj
  cases hb : Nat.beq i j with
  | true => rw [hb] at hj; obtain rfl := Nat.eq_of_beq_eq_true hb; simp at hj; rw [← hj]; exact hv
  | false => rw [hb] at hj; exact h j u hj
theorem K_sub {F' : Frm} {φ : Act → World → Prop} (hs : Sub F' F) (h : K C F' L φ) : K C F L φ := fun a w ha hw => h a w (ha.weaken hs) hw

/-- Heaps: fewer entries, in whatever order. -/
theorem Hp.sub {w0 w : World} {M : List Nat} {L L' : List Ent} (h : Hp w0 M L w) (hm : ∀ e ∈ L', e ∈ L) (hn : (L'.map Ent.b).Nodup) : Hp w0 M L' w :=
  ⟨h.os, h.tape, h.output, h.le, h.old, fun e he => h.ent e (hm e he), hn, fun e he => h.own e (hm e he)⟩

theorem K_heap {L' : List Ent} {φ : Act → World → Prop} (hs : L'.Sublist L) (h : K C F L' φ) : K C F L φ := fun a w ha hw =>
  h a w ha (hw.sub (fun _ he => hs.subset he) (hw.nd.sublist (hs.map _)))


theorem wpIn_loop_ghost {G : Fence} {n : Nat} {P : Program} {Q : Exit → Act → World → Prop} {a : Act} {w : World} {c : Code} (I : Nat → Act → World → Prop) (n₀ : Nat) (h₀ : I n₀ a w)
    (round : ∀ m a w, I m a w → c.wpIn G n P (Exit.then (fun a' w' => ∃ m', m' < m ∧ I m' a' w') Q) a w) : (Code.loop c).wpIn G n P Q a w := by
  refine wpIn_loop (fun a w => ∃ n, I n a w) (fun a w => leastOf (fun n => I n a w)) ⟨n₀, h₀⟩ ?_
  intro a w hI
  refine wpIn_mono (round _ a w (leastOf_spec hI).1) ?_
  intro e a' w' hq
  cases e with
  | normal =>
    obtain ⟨n', hlt, hI'⟩ := hq
    exact show (∃ n, I n a' w') ∧ leastOf (fun n => I n a' w') < leastOf (fun n => I n a w) from ⟨⟨n', hI'⟩, Nat.lt_of_le_of_lt ((leastOf_spec ⟨n', hI'⟩).2 n' hI') hlt⟩
  | exit id => exact hq
  | goto l => exact hq
  | ret => exact hq
  | panic ch => exact hq
  | outgrown => exact hq

theorem JC_loop {ι : Type} {c : Code} (FI : ι → Frm) (LI : ι → List Ent) (Pre : ι → Prop) (μ : ι → Nat) (x0 : ι) (h0 : Pre x0) (hF : Sub (FI x0) F) (hL : LI x0 = L)
    (round : ∀ x, Pre x → JC C (Exit.then (fun a w => ∃ x', Pre x' ∧ μ x' < μ x ∧ Fr (FI x') C a ∧ Hp C.w0 C.M (LI x') w) Q) c (FI x) (LI x)) : JC C Q (.loop c) F L := by
  intro a w ha hw
  refine wpIn_loop_ghost (fun n a w => ∃ x, μ x = n ∧ Pre x ∧ Fr (FI x) C a ∧ Hp C.w0 C.M (LI x) w) (μ x0) ⟨x0, rfl, h0, ha.weaken hF, hL ▸ hw⟩ ?_
  rintro n a w ⟨x, rfl, hp, ha, hw⟩
  refine wpIn_mono (round x hp a w ha hw) fun ex a1 w1 hq => ?_
  cases ex with
  | normal => obtain ⟨x', hp', hlt, ha', hw'⟩ := hq; exact ⟨μ x', hlt, x', rfl, hp', ha', hw'⟩
  | _ => exact hq

/-- A round's end: the next index. -/
theorem K_next {ι : Type} {FI : ι → Frm} {LI : ι → List Ent} {Pre : ι → Prop} {μ : ι → Nat} {m : Nat} (x' : ι) (hp : Pre x') (hm : μ x' < m) (hF : Sub (FI x') F) (hL : LI x' = L) :
    K C F L fun a w => ∃ x', Pre x' ∧ μ x' < m ∧ Fr (FI x') C a ∧ Hp C.w0 C.M (LI x') w :=
  fun _ _ ha hw => ⟨x', hp, hm, ha.weaken hF, hL ▸ hw⟩

/-! ### in and out of a function -/
def Post (w0 : World) (M : List Nat) (R : Value → List Ent → Prop) : Ending → World → Prop :=
  fun e w' => ∃ v L, e = .returned v ∧ R v L ∧ Hp w0 M L w'

def argF : Nat → List Value → Frm
  | _, [] => []
  | i, v :: r => (i, v) :: argF (i + 1) r

theorem argF_lk : ∀ (vs : List Value) (i j : Nat) (v : Value), lk (argF i vs) j = some v → i ≤ j ∧ vs[j - i]? = some v
  | [], i, j, v, h => by simp [argF, lk] at h
  | u :: r, i, j, v, h => by
    simp only [argF, lk] at h
    cases hb : Nat.beq i j with
    | true => rw [hb] at h; obtain rfl := Nat.eq_of_beq_eq_true hb; simp at h; subst h; simp
    | false =>
      rw [hb] at h
      have hne := Nat.ne_of_beq_eq_false hb
      obtain ⟨h1, h2⟩ := argF_lk r (i + 1) j v h
      refine ⟨by omega, ?_⟩
      rw [show j - i = (j - (i + 1)) + 1 from by omega]
      simpa using h2

theorem Hp.start {w : World} {M : List Nat} {L : List Ent} (he : ∀ e ∈ L, w.heap[e.b]? = some (.cells e.cs.toArray e.T e.fz)) (hn : (L.map Ent.b).Nodup) (hM : ∀ e ∈ L, e.b ∈ M) : Hp w M L w :=
  ⟨rfl, rfl, rfl, Nat.le_refl _, fun _ _ _ => rfl, he, hn, fun e h => .inl (hM e h)⟩

theorem enter {P : Program} {f : FuncId} {fn : Func} {c : Code} {R : Ending → World → Prop} (w0 : World) (M : List Nat) (n : Nat) (L : List Ent) (args : List Value)
    (hf : P.funcs[f]? = some fn) (hb : fn.body = some c) (hn : fn.ntmps = n) (hlen : args.length ≤ n) (hw : Hp w0 M L w0)
    (h : JC ⟨P, w0, M, n, none, []⟩ (bodyPost P fn R) c (argF 0 args) L) : Calls P f args.toArray w0 R := by
  refine calls_of_wp hf hb (wpIn_wide.1 (h _ _ ⟨rfl, ?_, fun i v hi => ?_⟩ hw))
  · simp [hn]; omega
  · obtain ⟨_, h2⟩ := argF_lk args 0 i v hi
    have hi' : i < args.length := by
      have := (List.getElem?_eq_some_iff.1 h2).1
      simpa using this
    simp only [Array.getElem?_append, List.size_toArray]
    rw [if_pos hi']
    simpa using h2

theorem JQ_ret {fn : Func} {R : Ending → World → Prop} (v : Value) (hr : ∀ a w, Fr F C a → Hp C.w0 C.M L w → (results fn a.tmps).run C.P w = .ok v w)
    (h : ∀ w, Hp C.w0 C.M L w → R (.returned v) w) (hdf : C.df = [] := by rfl) : JQ C (bodyPost C.P fn R) .ret F L := fun a w ha hw => ⟨ha.1.trans hdf, v, hr a w ha hw, h w hw⟩
theorem JQ_end {fn : Func} {R : Ending → World → Prop} (v : Value) (hr : ∀ a w, Fr F C a → Hp C.w0 C.M L w → (results fn a.tmps).run C.P w = .ok v w)
    (h : ∀ w, Hp C.w0 C.M L w → R (.returned v) w) (hdf : C.df = [] := by rfl) : JQ C (bodyPost C.P fn R) .normal F L := fun a w ha hw => ⟨ha.1.trans hdf, v, hr a w ha hw, h w hw⟩


def rvS (tmps : Array Value) : ResultVar → Sem Value
  | .tmp t => pure (tmps.getD t undef)
  | .cell a t => do loadVar t (← asAddr (tmps.getD a undef))

theorem results_eq (fn : Func) (tmps : Array Value) : results fn tmps = (do let vs ← fn.results.mapM (rvS tmps); pure (if h : vs.size = 1 then vs[0] else .tuple vs)) := by
  unfold results
  congr 1

/-- One result's variable. -/
def RV (C : Cx) (F : Frm) (L : List Ent) (r : ResultVar) (v : Value) : Prop :=
  ∀ a w, Fr F C a → Hp C.w0 C.M L w → (rvS a.tmps r).run C.P w = .ok v w

theorem RV_tmp {t : Nat} {v : Value} (h : lk F t = some v) : RV C F L (.tmp t) v := fun a w ha _ => by
  have := ha.2.2 t v h
  simp [rvS, Array.getD_eq_getD_getElem?, this]
theorem res1 {fn : Func} {r : ResultVar} {v : Value} (hr : fn.results = #[r]) (h : RV C F L r v) : ∀ a w, Fr F C a → Hp C.w0 C.M L w → (results fn a.tmps).run C.P w = .ok v w := fun a w ha hw => by
  have := h a w ha hw
  simp [results_eq, hr, this]
theorem res0 {fn : Func} (hr : fn.results = #[]) : ∀ a w, Fr F C a → Hp C.w0 C.M L w → (results fn a.tmps).run C.P w = .ok (.tuple #[]) w := fun a w _ _ => by
  simp [results_eq, hr]
theorem res2 {fn : Func} {r s : ResultVar} {v u : Value} (hr : fn.results = #[r, s]) (h : RV C F L r v) (h' : RV C F L s u) :
    ∀ a w, Fr F C a → Hp C.w0 C.M L w → (results fn a.tmps).run C.P w = .ok (.tuple #[v, u]) w := fun a w ha hw => by
  have h1 := h a w ha hw
  have h2 := h' a w ha hw
  simp [results_eq, hr, h1, h2]
theorem res3 {fn : Func} {r s q : ResultVar} {v u x : Value} (hr : fn.results = #[r, s, q]) (h : RV C F L r v) (h' : RV C F L s u) (h2 : RV C F L q x) :
    ∀ a w, Fr F C a → Hp C.w0 C.M L w → (results fn a.tmps).run C.P w = .ok (.tuple #[v, u, x]) w := fun a w ha hw => by
  have h1 := h a w ha hw
  have h3 := h' a w ha hw
  have h4 := h2 a w ha hw
  simp [results_eq, hr, h1, h3, h4]

/-! ### memory -/
/-- These cells can be read there. -/
def MemAt (C : Cx) (L : List Ent) (b off : Nat) (vs : List Value) : Prop := ∀ w, Hp C.w0 C.M L w → ∀ j v, vs[j]? = some v → w.cell? ⟨b, off + j, none⟩ = some v
/-- vs stands in cs at off. -/
def Seg (cs : List Value) (off : Nat) (vs : List Value) : Prop := ∀ j v, vs[j]? = some v → cs[off + j]? = some v

theorem Seg.whole (cs : List Value) : Seg cs 0 cs := fun j v h => by simpa using h
theorem Seg.left {p q vs : List Value} {off : Nat} (h : Seg p off vs) : Seg (p ++ q) off vs := fun j v hj => by
  have := h j v hj
  rw [List.getElem?_append_left (List.getElem?_eq_some_iff.1 this).1]; exact this
theorem Seg.right {p q vs : List Value} {off : Nat} (n o : Nat) (hn : p.length = n) (ho : off = n + o) (h : Seg q o vs) : Seg (p ++ q) off vs := fun j v hj => by
  have := h j v hj
  rw [List.getElem?_append_right (by omega)]
  rw [show off + j - p.length = o + j from by omega]; exact this
theorem Seg.head {v : Value} {q : List Value} : Seg (v :: q) 0 [v] := fun j u hj => by
  match j, hj with
  | 0, hj => simpa using hj
theorem Seg.tail {v : Value} {q vs : List Value} {off : Nat} (h : Seg q off vs) : Seg (v :: q) (off + 1) vs := fun j u hj => by
  have := h j u hj
  rw [show off + 1 + j = (off + j) + 1 from by omega]; simpa using this
theorem Seg.get {cs : List Value} {off : Nat} {v : Value} (h : cs[off]? = some v) : Seg cs off [v] := fun j u hj => by
  match j, hj with
  | 0, hj => simp at hj; subst hj; simpa using h
theorem Seg.sub {cs p q vs : List Value} {off n o : Nat} (hn : p.length = n) (ho : off = o + n) (h : Seg cs o (p ++ vs ++ q)) : Seg cs off vs := fun j u hj => by
  have hlt : j < vs.length := (List.getElem?_eq_some_iff.1 hj).1
  have := h (n + j) u (by rw [List.append_assoc, List.getElem?_append_right (by omega), List.getElem?_append_left (by omega)]; rw [show n + j - p.length = j from by omega]; exact hj)
  rw [show off + j = o + (n + j) from by omega]; exact this
theorem Seg.mid {p q vs : List Value} {off : Nat} (hn : p.length = off) : Seg (p ++ vs ++ q) off vs := Seg.sub hn (by simp) (Seg.whole _)
theorem Seg.len {cs vs : List Value} {off : Nat} (h : Seg cs off vs) (hv : vs ≠ []) : off + vs.length ≤ cs.length := by
  have hp : 0 < vs.length := List.length_pos_iff.2 hv
  have := h (vs.length - 1) (vs[vs.length - 1]) (by simp)
  have := (List.getElem?_eq_some_iff.1 this).1
  omega

theorem MemAt.ent {b off : Nat} {vs cs : List Value} {T : TypeId} {fz : Nat × Nat} (i : Nat) (hi : L[i]? = some ⟨b, cs, T, fz⟩) (hs : Seg cs off vs) : MemAt C L b off vs := fun w hw j v hj => by
  have := hw.ent _ (List.mem_of_getElem? hi)
  have h2 := hs j v hj
  simp only [World.cell?, this]
  simpa using h2
theorem MemAt.base {b off : Nat} {vs : List Value} (hb : b < C.w0.heap.size) (hM : b ∉ C.M) (h : ∀ j v, vs[j]? = some v → C.w0.cell? ⟨b, off + j, none⟩ = some v) : MemAt C L b off vs := fun w hw j v hj => by
  have := hw.old b hb hM
  have h2 := h j v hj
  simp only [World.cell?, this] at h2 ⊢
  exact h2
theorem MemAt.one {b off : Nat} {v : Value} (h : MemAt C L b off [v]) {w : World} (hw : Hp C.w0 C.M L w) : w.cell? ⟨b, off, none⟩ = some v := by
  simpa using h w hw 0 v (by simp)

theorem addr_add (b off n : Nat) : (⟨b, off, none⟩ : Addr).add n = ⟨b, off + n, none⟩ := by
  unfold Addr.add; split <;> simp_all

theorem run_loadVar_agg {P : Program} {w : World} {T b off n : Nat} {vs : List Value} (hA : (isAgg T).run P w = .ok true w) (hS : (sizeOf T).run P w = .ok n w) (hn : vs.length = n)
    (h : ∀ j v, vs[j]? = some v → w.cell? ⟨b, off + j, none⟩ = some v) : (loadVar T ⟨b, off, none⟩).run P w = .ok (.agg vs.toArray) w := by
  have hl := run_loadCells_list (P := P) w ⟨b, off, none⟩ vs (fun j v hj => by rw [addr_add]; exact h j v hj)
  rw [hn] at hl
  simp [loadVar, hA, hS, hl]
theorem run_loadVar_one {P : Program} {w : World} {T b off : Nat} {v : Value} (hA : (isAgg T).run P w = .ok false w)
    (h : w.cell? ⟨b, off, none⟩ = some v) : (loadVar T ⟨b, off, none⟩).run P w = .ok v w := by
  simp [loadVar, hA, Go.load, Sem.run, h]

/-- A variable's value. -/
def Ld (C : Cx) (L : List Ent) (T b off : Nat) (v : Value) : Prop := ∀ w, Hp C.w0 C.M L w → (loadVar T ⟨b, off, none⟩).run C.P w = .ok v w
theorem Ld_agg {T b off n : Nat} {vs : List Value} (hA : ∀ w, (isAgg T).run C.P w = .ok true w) (hS : ∀ w, (sizeOf T).run C.P w = .ok n w) (hn : vs.length = n) (h : MemAt C L b off vs) : Ld C L T b off (.agg vs.toArray) :=
  fun w hw => run_loadVar_agg (hA w) (hS w) hn (h w hw)
theorem Ld_one {T b off : Nat} {v : Value} (hA : ∀ w, (isAgg T).run C.P w = .ok false w) (h : MemAt C L b off [v]) : Ld C L T b off v :=
  fun w hw => run_loadVar_one (hA w) (h.one hw)

theorem RV_cell {x T b off : Nat} {v : Value} (hx : lk F x = some (Ptr b off)) (h : Ld C L T b off v) : RV C F L (.cell x T) v := fun a w ha hw => by
  have := ha.2.2 x _ hx
  simp [rvS, Array.getD_eq_getD_getElem?, this, asAddr, h w hw]

/-! ### stores, new blocks -/
def oneC (v : Value) : Bool := v.oneCell'
/-- cs with vs laid at off. -/
def lay (cs : List Value) (off : Nat) (vs : List Value) : List Value := cs.take off ++ vs ++ cs.drop (off + vs.length)


theorem Hp.ne {w0 w : World} {M : List Nat} {L : List Ent} (h : Hp w0 M L w) {i j : Nat} {e x : Ent} (hi : L[i]? = some e) (hj : L[j]? = some x) (hne : i ≠ j) : e.b ≠ x.b := fun he => by
  have hlt : i < (L.map Ent.b).length := by simpa using (List.getElem?_eq_some_iff.1 hi).1
  exact hne ((List.getElem?_inj hlt h.nd).1 (by simp [hi, hj, he]))

theorem Hp.setRow {w0 w : World} {M : List Nat} {L : List Ent} (h : Hp w0 M L w) {i : Nat} {b T : Nat} {cs : List Value} {fz : Nat × Nat} (hi : L[i]? = some ⟨b, cs, T, fz⟩) (cs' : List Value) :
    Hp w0 M (L.set i ⟨b, cs', T, fz⟩) (w.setRow b cs'.toArray) := by
  have hmem := List.mem_of_getElem? hi
  have hE := h.ent _ hmem
  have hlt : b < w.heap.size := (Array.getElem?_eq_some_iff.1 hE).1
  have hsame : ∀ k, k ≠ b → (w.setRow b cs'.toArray).heap[k]? = w.heap[k]? := fun k hk => by
    simp only [World.setRow]
    rw [Array.getElem?_modify, if_neg (by omega)]
  have hnew : (w.setRow b cs'.toArray).heap[b]? = some (.cells cs'.toArray T fz) := setRow_heap _ _ _ _ _ _ hE
  have hil : i < L.length := (List.getElem?_eq_some_iff.1 hi).1
  refine ⟨h.os, h.tape, h.output, by simpa [World.setRow] using h.le, fun k hk hM => ?_, fun x hx => ?_, ?_, fun x hx => ?_⟩
  · have : k ≠ b := fun he => by
      rcases h.own _ hmem with h1 | h1
      · exact hM (he ▸ h1)
      · simp at h1; omega
    rw [hsame k this]; exact h.old k hk hM
  · obtain ⟨j, hj⟩ := List.mem_iff_getElem?.1 hx
    rw [List.getElem?_set] at hj
    split at hj
    · simp at hj; subst hj; exact hnew
    · rename_i hij
      rw [hsame x.b (fun he => h.ne hi hj hij he.symm)]; exact h.ent x (List.mem_of_getElem? hj)
  · have : (L.set i ⟨b, cs', T, fz⟩).map Ent.b = L.map Ent.b := by
      apply List.ext_getElem?
      intro j
      simp only [List.getElem?_map, List.getElem?_set]
      split
      · rename_i hij; subst hij; rw [hi]; rfl
      · rfl
    rw [this]; exact h.nd
  · rcases List.mem_or_eq_of_mem_set hx with h1 | h1
    · exact h.own x h1
    · subst h1; exact h.own ⟨b, cs, T, fz⟩ hmem

theorem Hp.alloc {w0 w : World} {M : List Nat} {L : List Ent} (h : Hp w0 M L w) (cs : List Value) (T : Nat) : Hp w0 M (L ++ [⟨w.heap.size, cs, T, (0, 0)⟩]) (w.alloc (.cells cs.toArray T)) := by
  have hlt : ∀ x ∈ L, x.b < w.heap.size := fun x hx => (Array.getElem?_eq_some_iff.1 (h.ent x hx)).1
  refine ⟨h.os, h.tape, h.output, by have := h.le; simp; omega, fun k hk hM => ?_, fun x hx => ?_, ?_, fun x hx => ?_⟩
  · rw [Below.heap_alloc _ _ _ (by have := h.le; omega)]; exact h.old k hk hM
  · rcases List.mem_append.1 hx with h1 | h1
    · rw [Below.heap_alloc _ _ _ (hlt x h1)]; exact h.ent x h1
    · simp at h1; subst h1; show (w.heap.push _)[w.heap.size]? = _; simp
  · rw [List.map_append, List.nodup_append]
    refine ⟨h.nd, by simp, fun a ha c hc => ?_⟩
    simp at hc; subst hc
    obtain ⟨x, hx, rfl⟩ := List.mem_map.1 ha
    have := hlt x hx; omega
  · rcases List.mem_append.1 hx with h1 | h1
    · exact h.own x h1
    · simp at h1; subst h1; exact .inr h.le

theorem Hp.drewN {w0 w : World} {M : List Nat} {L : List Ent} (h : Hp w0 M L w) (k : Nat) : Hp w0 M L { w with drawn := k } := ⟨h.os, h.tape, h.output, h.le, h.old, h.ent, h.nd, h.own⟩

/-- The world behind a call: the callee's own clauses over the caller's. -/
theorem Hp.call {w0 w w' : World} {M M' : List Nat} {L L0 Lr L' : List Ent} (h : Hp w0 M L w) (h' : Hp w M' L' w') (hp : L.Perm (L0 ++ Lr)) (hM : L0.map Ent.b = M') : Hp w0 M (Lr ++ L') w' := by
  have hlt : ∀ x ∈ L, x.b < w.heap.size := fun x hx => (Array.getElem?_eq_some_iff.1 (h.ent x hx)).1
  have hnd : ((L0 ++ Lr).map Ent.b).Nodup := (hp.map Ent.b).nodup_iff.1 h.nd
  rw [List.map_append, List.nodup_append] at hnd
  obtain ⟨hn0, hnr, hdis⟩ := hnd
  have hr : ∀ x ∈ Lr, x ∈ L := fun x hx => hp.mem_iff.2 (List.mem_append.2 (.inr hx))
  have h0 : ∀ x ∈ L0, x ∈ L := fun x hx => hp.mem_iff.2 (List.mem_append.2 (.inl hx))
  have hrM : ∀ x ∈ Lr, x.b ∉ M' := fun x hx hm => by
    rw [← hM] at hm
    exact hdis _ hm _ (List.mem_map_of_mem hx) rfl
  have hmM : ∀ b ∈ M', b ∈ M ∨ w0.heap.size ≤ b := fun b hb => by
    rw [← hM] at hb
    obtain ⟨x, hx, rfl⟩ := List.mem_map.1 hb
    exact h.own x (h0 x hx)
  refine ⟨h'.os.trans h.os, h'.tape.trans h.tape, h'.output.trans h.output, Nat.le_trans h.le h'.le, fun k hk hkM => ?_, fun x hx => ?_, ?_, fun x hx => ?_⟩
  · rw [h'.old k (by have := h.le; omega) (fun hm => (hmM k hm).elim hkM (by omega))]; exact h.old k hk hkM
  · rcases List.mem_append.1 hx with h1 | h1
    · rw [h'.old x.b (hlt x (hr x h1)) (hrM x h1)]; exact h.ent x (hr x h1)
    · exact h'.ent x h1
  · rw [List.map_append, List.nodup_append]
    refine ⟨hnr, h'.nd, fun a ha c hc => ?_⟩
    obtain ⟨x, hx, rfl⟩ := List.mem_map.1 ha
    obtain ⟨y, hy, rfl⟩ := List.mem_map.1 hc
    intro he
    rcases h'.own y hy with h1 | h1
    · exact hrM x hx (he ▸ h1)
    · have := hlt x (hr x hx); omega
  · rcases List.mem_append.1 hx with h1 | h1
    · exact h.own x (hr x h1)
    · rcases h'.own x h1 with h2 | h2
      · exact hmM _ h2
      · exact .inr (Nat.le_trans h.le h2)

theorem Hp.below {w0 w : World} {L : List Ent} (h : Hp w0 [] L w) : Below w0.heap.size w0 w := ⟨h.os, h.tape, h.output, h.le, fun k hk => h.old k hk (by simp)⟩

/-- Part a heap by a mask: what is handed on, what stays. -/
def take? : List Bool → List Ent → List Ent
  | true :: m, e :: l => e :: take? m l
  | false :: m, _ :: l => take? m l
  | _, _ => []
def rest? : List Bool → List Ent → List Ent
  | true :: m, _ :: l => rest? m l
  | false :: m, e :: l => e :: rest? m l
  | [], l => l
  | _ :: _, [] => []
theorem perm_mask : ∀ (m : List Bool) (l : List Ent), l.Perm (take? m l ++ rest? m l)
  | [], l => by simp [take?, rest?]
  | _ :: _, [] => by simp [take?, rest?]
  | true :: m, e :: l => by simpa [take?, rest?] using perm_mask m l
  | false :: m, e :: l => by
    simp only [take?, rest?]
    exact ((perm_mask m l).cons e).trans List.perm_middle.symm

/-- A call whose target is a Go function: what 'execOp' makes of it. -/
def Cl (C : Cx) (F : Frm) (L : List Ent) (op : Op) (ty : TypeId) (f : FuncId) (args : Array Value) : Prop :=
  ∀ a w, Fr F C a → Hp C.w0 C.M L w → ∀ d pos aft g, (execOp a.eval ⟨d, op, ty, pos, aft, g⟩).run C.P w = .ok (.enter f args) w

end Go.Sx
