import Derived.WalkKit
import Derived.WalkSpells
import Derived.WalkLawsBesides
import Derived.Orders
import Derived.Deep.LoopGhost
import Derived.OwnWalkIn
import Derived.OrdersIn
import Derived.RangeFuncCalls
import Derived.ChangeKeysEq
import Derived.OpenShut
import Derived.ChangeOld
import Derived.Below
import Derived.Laws.Cover3
import Derived.ChangeSlices
import Derived.WideShapes
import Derived.RangeFuncNested
import Derived.RangeFuncRecord
import Derived.RangeFuncLeaves
import Derived.Deep.Slices
import Derived.LaidEql
import Derived.Test.YtkdpdgpphpngeaaDoorProg
import Derived.KernelRfl
set_option linter.unusedVariables false
set_option linter.unusedSimpArgs false
set_option maxRecDepth 100000
namespace Go.Sx
open Go Go.RowKit
abbrev U8 (x : UInt8) : Value := .int .u8 x.toNat
abbrev U32 (x : UInt32) : Value := .int .u32 x.toNat
abbrev U64 (x : UInt64) : Value := .int .u64 x.toNat
abbrev I64 (n : Int) : Value := .int .i64 n
abbrev Ptr (b o : Nat) : Value := .pointer (some ⟨b, o, none⟩)
abbrev Slc (b o l c : Nat) : Value := .slice (some ⟨b, o, none⟩) l c
structure Ent where
 b : Nat
 cs : List Value
 T : TypeId
 fz : Nat × Nat
abbrev Frm := List (Nat × Value)
def lk : Frm → Nat → Option Value
 | [], _ => none
 | (i, v) :: r, j => bif Nat.beq i j then some v else lk r j
def ev (F : Frm) : Operand → Option Value
 | .tmp t => lk F t
 | .const v => some v
 | .global g => some (.pointer (some ⟨g, 0, none⟩))
 | .func f => some (.func (.func f) #[] #[])
structure Cx where
 P : Program
 w0 : World
 M : List Nat
 n : Nat
 rd : Option Nat
 df : List Deferred
def Fc (rd : Option Nat) : Fence := { fn := fun _ => True, depth := none, alive := false, round := rd }
theorem nd_of_run {ρ : Operand → Value} {o : Oper} {P : Program} {w w' : World} {r : Next} (h : (execOp ρ o).run P w = .ok r w') (hr : ∀ d, r ≠ .defer d) : ∀ c, o.op ≠ .defer c := by
 intro c hc
 unfold execOp at h
 rw [hc] at h
 simp only [Sem.run_bind] at h
 cases hs : (resolve ρ c o.type).run P w with
 | ok d w1 => rw [hs] at h; simp [Result.andThen] at h; exact hr d h.1.symm
 | halt x w1 => rw [hs] at h; simp [Result.andThen] at h
theorem rowsIn_wide {rd : Option Nat} {n : Nat} {P : Program} {row : String} {args : Array Value} {w : World} {R : Value → World → Prop} (h : Rows P row args w R) : RowsIn (Fc rd) n P row args w R :=
 fun c cs _ => let ⟨v, w', r, s⟩ := h c cs; ⟨v, w', r, stepsIn_wide.2 s⟩
theorem wpIn_of_wp {rd : Option Nat} {n : Nat} {P : Program} {o : Oper} {a : Act} {w : World} {K : Act → World → Prop} {Q : Exit → Act → World → Prop} (hnd : ∀ c, o.op ≠ .defer c) (h : o.wp P a w K Q) : o.wpIn (Fc rd) n P a w K Q := by
 unfold Oper.wp at h
 unfold Oper.wpIn
 refine ⟨fun _ _ => trivial, ?_⟩
 rw [Oper.semAt_plain _ _ _ hnd]
 generalize (execOp a.eval o).run P w = r at *
 cases r with
 | ok x w' =>
  cases x <;> simp only [Oper.upon, Oper.uponIn] at h ⊢ <;>
   first
    | exact h
    | exact h.elim
    | exact ⟨fun hd => by simp [Fc] at hd, callsIn_wide.2 h⟩
    | exact ⟨fun hd => by simp [Fc] at hd, rowsIn_wide h⟩
 | halt x w' => cases x <;> simp only [Oper.upon, Oper.uponIn] at h ⊢ <;> exact h
def Fr (F : Frm) (C : Cx) (a : Act) : Prop :=
 a.defers = C.df ∧ a.tmps.size = C.n ∧ ∀ i v, lk F i = some v → a.tmps[i]? = some v
structure Hp (w0 : World) (M : List Nat) (L : List Ent) (w : World) : Prop where
 os : w.os = w0.os
 tape : w.tape = w0.tape
 output : w.output = w0.output
 le : w0.heap.size ≤ w.heap.size
 old : ∀ b, b < w0.heap.size → b ∉ M → w.heap[b]? = w0.heap[b]?
 ent : ∀ e ∈ L, w.heap[e.b]? = some (.cells e.cs.toArray e.T e.fz)
 nd : (L.map Ent.b).Nodup
 own : ∀ e ∈ L, e.b ∈ M ∨ w0.heap.size ≤ e.b
variable {C : Cx} {F : Frm} {L : List Ent}
theorem Fr.ev {F : Frm} {C : Cx} {a : Act} (h : Fr F C a) {x : Operand} {v : Value} (hx : ev F x = some v) : a.eval x = v := by
 cases x with
 | tmp t => simp [Act.eval, Array.getD_eq_getD_getElem?, h.2.2 t v hx]
 | const c => simpa [Sx.ev, Act.eval] using hx
 | global g => simpa [Sx.ev, Act.eval] using hx
 | func f => simpa [Sx.ev, Act.eval] using hx
theorem Fr.put {F : Frm} {C : Cx} {a : Act} (h : Fr F C a) {d : Nat} (v : Value) (hd : d < C.n) : Fr ((d, v) :: F) C (a.put (some d) v) := by
 refine ⟨h.1, by simp [Act.put, h.2.1], fun i u hi => ?_⟩
 simp only [lk] at hi
 cases hb : Nat.beq d i with
 | true =>
  rw [hb] at hi
  obtain rfl : d = i := Nat.eq_of_beq_eq_true hb
  simp at hi
  subst hi
  simp [Act.put, h.2.1, hd]
 | false =>
  rw [hb] at hi
  have hne : d ≠ i := Nat.ne_of_beq_eq_false hb
  have := h.2.2 i u hi
  rw [← this]
  simp only [Act.put]
  rw [Array.getElem?_setIfInBounds_ne hne]
theorem Fr.weaken {F F' : Frm} {C : Cx} {a : Act} (h : Fr F C a) (hs : ∀ i v, lk F' i = some v → lk F i = some v) : Fr F' C a :=
 ⟨h.1, h.2.1, fun i v hi => h.2.2 i v (hs i v hi)⟩
def K (C : Cx) (F : Frm) (L : List Ent) (φ : Act → World → Prop) : Prop := ∀ a w, Fr F C a → Hp C.w0 C.M L w → φ a w
def JC (C : Cx) (Q : Exit → Act → World → Prop) (c : Code) (F : Frm) (L : List Ent) : Prop := K C F L fun a w => c.wpIn (Fc C.rd) 0 C.P Q a w
def JQ (C : Cx) (Q : Exit → Act → World → Prop) (e : Exit) (F : Frm) (L : List Ent) : Prop := K C F L fun a w => Q e a w
def JL (C : Cx) (Q : Exit → Act → World → Prop) (ops : Array Oper) (l : List Oper) (F : Frm) (L : List Ent) : Prop := K C F L fun a w => wpListIn (Fc C.rd) 0 C.P ops Q l a w
def Ev (C : Cx) (F : Frm) (L : List Ent) (op : Op) (ty : TypeId) (v : Value) : Prop :=
 ∀ a w, Fr F C a → Hp C.w0 C.M L w → ∀ d pos aft g, (execOp a.eval ⟨d, op, ty, pos, aft, g⟩).run C.P w = .ok (.value v) w
variable {Q : Exit → Act → World → Prop} {ops : Array Oper} {l : List Oper}
theorem AN (h : JQ C Q .normal F L) : JL C Q ops [] F L := fun a w ha hw => h a w ha hw
theorem AA {d : Nat} {op : Op} {ty : TypeId} {pos : String} {aft : Array Edge} (v : Value) (hv : Ev C F L op ty v) (hd : Nat.blt d C.n = true)
  (h : JL C Q ops l ((d, v) :: F) L) : JL C Q ops (⟨some d, op, ty, pos, aft, none⟩ :: l) F L := by
 intro a w ha hw
 refine wpListIn_plain rfl fun K hK => ?_
 refine wpIn_of_wp (nd_of_run (hv a w ha hw _ _ _ _) (by simp)) ?_
 unfold Oper.wp
 rw [hv a w ha hw]
 exact hK _ _ (h _ _ (ha.put v (by simpa [Nat.blt_eq] using hd)) hw)
theorem A0 {d : Nat} {op : Op} {ty : TypeId} {pos : String} {aft : Array Edge} (j s : Nat) (want b : Bool) (v : Value) (hj : (ops[j]?).bind (·.dst) = some s)
  (hs : lk F s = some (.bool b)) (hb : b = want) (hv : Ev C F L op ty v) (hd : Nat.blt d C.n = true)
  (h : JL C Q ops l ((d, v) :: F) L) : JL C Q ops (⟨some d, op, ty, pos, aft, some (j, want)⟩ :: l) F L := by
 intro a w ha hw
 refine wpListIn_step fun K hK => ?_
 have hy : yielded ops a.tmps j = some want := by
  have := ha.2.2 s _ hs
  simp [yielded, hj, this, hb]
 simp only [Region.wanted, hy, beq_self_eq_true, if_true]
 refine wpIn_of_wp (nd_of_run (hv a w ha hw _ _ _ _) (by simp)) ?_
 unfold Oper.wp
 rw [hv a w ha hw]
 exact hK _ _ (h _ _ (ha.put v (by simpa [Nat.blt_eq] using hd)) hw)
theorem AQ {d : Nat} {op : Op} {ty : TypeId} {pos : String} {aft : Array Edge} (j s : Nat) (want b : Bool) (hj : (ops[j]?).bind (·.dst) = some s)
  (hs : lk F s = some (.bool b)) (hb : b = !want) (hd : Nat.blt d C.n = true)
  (h : JL C Q ops l ((d, undef) :: F) L) : JL C Q ops (⟨some d, op, ty, pos, aft, some (j, want)⟩ :: l) F L := by
 intro a w ha hw
 refine wpListIn_step fun K hK => ?_
 have hy : yielded ops a.tmps j = some (!want) := by
  simp [yielded, hj, ha.2.2 s _ hs, hb]
 have hn : Region.wanted ⟨some d, op, ty, pos, aft, some (j, want)⟩ (yielded ops a.tmps) = false := by
  cases want <;> simp [Region.wanted, hy]
 rw [hn]
 exact ⟨fun _ _ => trivial, hK _ _ (h _ _ (ha.put undef (by simpa [Nat.blt_eq] using hd)) hw)⟩
theorem FG {d : Nat} {op : Op} {ty : TypeId} {pos : String} {aft : Array Edge} (j s : Nat) (want : Bool) (hj : (ops[j]?).bind (·.dst) = some s)
  (hs : lk F s = some undef) (hd : Nat.blt d C.n = true)
  (h : JL C Q ops l ((d, undef) :: F) L) : JL C Q ops (⟨some d, op, ty, pos, aft, some (j, want)⟩ :: l) F L := by
 intro a w ha hw
 refine wpListIn_step fun K hK => ?_
 have hy : yielded ops a.tmps j = none := by
  simp [yielded, hj, ha.2.2 s _ hs, undef]
 have hn : Region.wanted ⟨some d, op, ty, pos, aft, some (j, want)⟩ (yielded ops a.tmps) = false := by
  simp [Region.wanted, hy]
 rw [hn]
 exact ⟨fun _ _ => trivial, hK _ _ (h _ _ (ha.put undef (by simpa [Nat.blt_eq] using hd)) hw)⟩
theorem AI {x y : Code} (h : JC C (Exit.then (y.wpIn (Fc C.rd) 0 C.P Q) Q) x F L) : JC C Q (.seq x y) F L := fun a w ha hw => wpIn_seq (h a w ha hw)
theorem BT (h : JQ C Q .normal F L) : JC C Q .skip F L := fun a w ha hw => wpIn_skip (h a w ha hw)
theorem BP (h : JQ C Q .ret F L) : JC C Q .ret F L := fun a w ha hw => wpIn_ret (h a w ha hw)
theorem D8 {id : Nat} (h : JQ C Q (.exit id) F L) : JC C Q (.exit id) F L := fun a w ha hw => wpIn_exit (h a w ha hw)
theorem BY {id : Nat} {c : Code} (h : JC C (Exit.inBlock id Q) c F L) : JC C Q (.block id c) F L := fun a w ha hw => wpIn_block (h a w ha hw)
theorem AD {id : Nat} {l : List Oper} (h : JL C Q l.toArray l F L) : JC C Q (.region id l.toArray false) F L := fun a w ha hw => wpIn_region_lit (h a w ha hw)
theorem CY {c : Operand} {x y : Code} (b : Bool) (hc : ev F c = some (.bool b)) (ht : b = true → JC C Q x F L) (hf : b = false → JC C Q y F L) : JC C Q (.cond c x y) F L :=
 fun a w ha hw => wpIn_cond_split (ha.ev hc) (fun h => ht h a w ha hw) (fun h => hf h a w ha hw)
theorem DJ {c : Operand} {x y : Code} (b : Bool) (hc : ev F c = some (.bool b)) (hb : b = true) (ht : JC C Q x F L) : JC C Q (.cond c x y) F L :=
 CY b hc (fun _ => ht) (fun h => by rw [hb] at h; cases h)
theorem CK {c : Operand} {x y : Code} (b : Bool) (hc : ev F c = some (.bool b)) (hb : b = false) (hf : JC C Q y F L) : JC C Q (.cond c x y) F L :=
 CY b hc (fun h => by rw [hb] at h; cases h) (fun _ => hf)
theorem AE {y : Code} (h : JC C Q y F L) : JQ C (Exit.then (y.wpIn (Fc C.rd) 0 C.P Q) Q) .normal F L := fun a w ha hw => h a w ha hw
theorem DH {k : Act → World → Prop} (h : K C F L k) : JQ C (Exit.then k Q) .normal F L := fun a w ha hw => h a w ha hw
theorem BB {k : Act → World → Prop} {id : Nat} (h : JQ C Q (.exit id) F L) : JQ C (Exit.then k Q) (.exit id) F L := fun a w ha hw => h a w ha hw
theorem BN {k : Act → World → Prop} (h : JQ C Q .ret F L) : JQ C (Exit.then k Q) .ret F L := fun a w ha hw => h a w ha hw
theorem CV {id : Nat} (h : JQ C Q .normal F L) : JQ C (Exit.inBlock id Q) (.exit id) F L := fun a w ha hw => by
 show if id = id then Q .normal a w else _
 rw [if_pos rfl]; exact h a w ha hw
theorem DV {id : Nat} (h : JQ C Q .ret F L) : JQ C (Exit.inBlock id Q) .ret F L := fun a w ha hw => h a w ha hw
theorem BO {id : Nat} (h : JQ C Q .normal F L) : JQ C (Exit.inBlock id Q) .normal F L := fun a w ha hw => h a w ha hw
def Sub (F' F : Frm) : Prop := ∀ i v, lk F' i = some v → lk F i = some v
theorem Sub.nil : Sub [] F := fun _ _ h => by simp [lk] at h
theorem Sub.cons {F' : Frm} {i : Nat} {v : Value} (hv : lk F i = some v) (h : Sub F' F) : Sub ((i, v) :: F') F := fun j u hj => by
 simp only [lk] at hj
 cases hb : Nat.beq i j with
 | true => rw [hb] at hj; obtain rfl := Nat.eq_of_beq_eq_true hb; simp at hj; rw [← hj]; exact hv
 | false => rw [hb] at hj; exact h j u hj
theorem Sub.all {F' F : Frm} (h : F'.map (fun x => lk F x.1) = F'.map (fun x => some x.2)) : Sub F' F := by
  induction F' with
  | nil => exact Sub.nil
  | cons a r ih => obtain ⟨i, v⟩ := a; simp only [List.map_cons, List.cons.injEq] at h; exact Sub.cons h.1 (ih h.2)
theorem K_sub {F' : Frm} {φ : Act → World → Prop} (hs : Sub F' F) (h : K C F' L φ) : K C F L φ := fun a w ha hw => h a w (ha.weaken hs) hw
theorem Sub.ofMap : ∀ {F' : Frm}, F'.map (fun p => lk F p.1) = F'.map (fun p => some p.2) → Sub F' F
 | [], _ => Sub.nil
 | (i, v) :: F', h => by
  rw [List.map_cons, List.map_cons] at h
  injection h with h1 h2
  exact Sub.cons h1 (Sub.ofMap h2)
theorem CI {e : Exit} {F' : Frm} (hs : F'.map (fun p => lk F p.1) = F'.map (fun p => some p.2)) (h : JQ C Q e F' L) : JQ C Q e F L := K_sub (Sub.ofMap hs) h
theorem Hp.sub {w0 w : World} {M : List Nat} {L L' : List Ent} (h : Hp w0 M L w) (hm : ∀ e ∈ L', e ∈ L) (hn : (L'.map Ent.b).Nodup) : Hp w0 M L' w :=
 ⟨h.os, h.tape, h.output, h.le, h.old, fun e he => h.ent e (hm e he), hn, fun e he => h.own e (hm e he)⟩
theorem wpIn_loop_ghost {G : Fence} {n : Nat} {P : Program} {Q : Exit → Act → World → Prop} {a : Act} {w : World} {c : Code} (I : Nat → Act → World → Prop) (n₀ : Nat) (h₀ : I n₀ a w)
  (round : ∀ m a w, I m a w → c.wpIn G n P (Exit.then (fun a' w' => ∃ m', m' < m ∧ I m' a' w') Q) a w) : (Code.loop c).wpIn G n P Q a w := by
 refine wpIn_loop (fun a w => ∃ n, I n a w) (fun a w => leastOf (fun n => I n a w)) ⟨n₀, h₀⟩ ?_
 intro a w hI
 refine wpIn_mono (round _ a w (leastOf_spec hI).1) ?_
 intro e a' w' hq
 cases e with
 | normal =>
  obtain ⟨n', hlt, hI'⟩ := hq
  exact show (∃ n, I n a' w') ∧ leastOf (fun n => I n a' w') < leastOf (fun n => I n a w) from ⟨⟨n', hI'⟩, Nat.lt_of_le_of_lt ((leastOf_spec ⟨n', hI'⟩).2 n' hI') hlt⟩
 | exit id => exact hq
 | goto l => exact hq
 | ret => exact hq
 | panic ch => exact hq
 | outgrown => exact hq
theorem EE {ι : Type} {c : Code} (FI : ι → Frm) (LI : ι → List Ent) (Pre : ι → Prop) (μ : ι → Nat) (x0 : ι) (h0 : Pre x0) (hF : Sub (FI x0) F) (hL : LI x0 = L)
  (round : ∀ x, Pre x → JC C (Exit.then (fun a w => ∃ x', Pre x' ∧ μ x' < μ x ∧ Fr (FI x') C a ∧ Hp C.w0 C.M (LI x') w) Q) c (FI x) (LI x)) : JC C Q (.loop c) F L := by
 intro a w ha hw
 refine wpIn_loop_ghost (fun n a w => ∃ x, μ x = n ∧ Pre x ∧ Fr (FI x) C a ∧ Hp C.w0 C.M (LI x) w) (μ x0) ⟨x0, rfl, h0, ha.weaken hF, hL ▸ hw⟩ ?_
 rintro n a w ⟨x, rfl, hp, ha, hw⟩
 refine wpIn_mono (round x hp a w ha hw) fun ex a1 w1 hq => ?_
 cases ex with
 | normal => obtain ⟨x', hp', hlt, ha', hw'⟩ := hq; exact ⟨μ x', hlt, x', rfl, hp', ha', hw'⟩
 | _ => exact hq
theorem EP {ι : Type} {FI : ι → Frm} {LI : ι → List Ent} {Pre : ι → Prop} {μ : ι → Nat} {m : Nat} (x' : ι) (hp : Pre x') (hm : μ x' < m) (hF : Sub (FI x') F) (hL : LI x' = L) :
  K C F L fun a w => ∃ x', Pre x' ∧ μ x' < m ∧ Fr (FI x') C a ∧ Hp C.w0 C.M (LI x') w :=
 fun _ _ ha hw => ⟨x', hp, hm, ha.weaken hF, hL ▸ hw⟩
def Post (w0 : World) (M : List Nat) (R : Value → List Ent → Prop) : Ending → World → Prop :=
 fun e w' => ∃ v L, e = .returned v ∧ R v L ∧ Hp w0 M L w'
def argF : Nat → List Value → Frm
 | _, [] => []
 | i, v :: r => (i, v) :: argF (i + 1) r
theorem argF_lk : ∀ (vs : List Value) (i j : Nat) (v : Value), lk (argF i vs) j = some v → i ≤ j ∧ vs[j - i]? = some v
 | [], i, j, v, h => by simp [argF, lk] at h
 | u :: r, i, j, v, h => by
  simp only [argF, lk] at h
  cases hb : Nat.beq i j with
  | true => rw [hb] at h; obtain rfl := Nat.eq_of_beq_eq_true hb; simp at h; subst h; simp
  | false =>
   rw [hb] at h
   have hne := Nat.ne_of_beq_eq_false hb
   obtain ⟨h1, h2⟩ := argF_lk r (i + 1) j v h
   refine ⟨by omega, ?_⟩
   rw [show j - i = (j - (i + 1)) + 1 from by omega]
   simpa using h2
theorem BZ {w : World} {M : List Nat} {L : List Ent} (he : ∀ e ∈ L, w.heap[e.b]? = some (.cells e.cs.toArray e.T e.fz)) (hn : (L.map Ent.b).Nodup) (hM : ∀ e ∈ L, e.b ∈ M) : Hp w M L w :=
 ⟨rfl, rfl, rfl, Nat.le_refl _, fun _ _ _ => rfl, he, hn, fun e h => .inl (hM e h)⟩
theorem enter {P : Program} {f : FuncId} {fn : Func} {c : Code} {R : Ending → World → Prop} (w0 : World) (M : List Nat) (n : Nat) (L : List Ent) (args : List Value)
    (hf : P.funcs[f]? = some fn) (hb : fn.body = some c) (hn : fn.ntmps = n) (hlen : args.length ≤ n) (hw : Hp w0 M L w0)
    (h : JC ⟨P, w0, M, n, none, []⟩ (bodyPost P fn R) c (argF 0 args) L) : Calls P f args.toArray w0 R := by
  refine calls_of_wp hf hb (wpIn_wide.1 (h _ _ ⟨rfl, ?_, fun i v hi => ?_⟩ hw))
  · simp [hn]; omega
  · obtain ⟨_, h2⟩ := argF_lk args 0 i v hi
    have hi' : i < args.length := by
      have := (List.getElem?_eq_some_iff.1 h2).1
      simpa using this
    simp only [Array.getElem?_append, List.size_toArray]
    rw [if_pos hi']
    simpa using h2
theorem BQ {fn : Func} {R : Ending → World → Prop} (v : Value) (hr : ∀ a w, Fr F C a → Hp C.w0 C.M L w → (results fn a.tmps).run C.P w = .ok v w)
  (h : ∀ w, Hp C.w0 C.M L w → R (.returned v) w) (hdf : C.df = [] := by rfl) : JQ C (bodyPost C.P fn R) .ret F L := fun a w ha hw => ⟨ha.1.trans hdf, v, hr a w ha hw, h w hw⟩
theorem JQ_end {fn : Func} {R : Ending → World → Prop} (v : Value) (hr : ∀ a w, Fr F C a → Hp C.w0 C.M L w → (results fn a.tmps).run C.P w = .ok v w)
  (h : ∀ w, Hp C.w0 C.M L w → R (.returned v) w) (hdf : C.df = [] := by rfl) : JQ C (bodyPost C.P fn R) .normal F L := fun a w ha hw => ⟨ha.1.trans hdf, v, hr a w ha hw, h w hw⟩
def rvS (tmps : Array Value) : ResultVar → Sem Value
 | .tmp t => pure (tmps.getD t undef)
 | .cell a t => do loadVar t (← asAddr (tmps.getD a undef))
theorem results_eq (fn : Func) (tmps : Array Value) : results fn tmps = (do let vs ← fn.results.mapM (rvS tmps); pure (if h : vs.size = 1 then vs[0] else .tuple vs)) := by
 unfold results
 congr 1
def RV (C : Cx) (F : Frm) (L : List Ent) (r : ResultVar) (v : Value) : Prop :=
 ∀ a w, Fr F C a → Hp C.w0 C.M L w → (rvS a.tmps r).run C.P w = .ok v w
theorem B2 {t : Nat} {v : Value} (h : lk F t = some v) : RV C F L (.tmp t) v := fun a w ha _ => by
 have := ha.2.2 t v h
 simp [rvS, Array.getD_eq_getD_getElem?, this]
theorem res1 {fn : Func} {r : ResultVar} {v : Value} (hr : fn.results = #[r]) (h : RV C F L r v) : ∀ a w, Fr F C a → Hp C.w0 C.M L w → (results fn a.tmps).run C.P w = .ok v w := fun a w ha hw => by
 have := h a w ha hw
 simp [results_eq, hr, this]
theorem res0 {fn : Func} (hr : fn.results = #[]) : ∀ a w, Fr F C a → Hp C.w0 C.M L w → (results fn a.tmps).run C.P w = .ok (.tuple #[]) w := fun a w _ _ => by
 simp [results_eq, hr]
theorem res2 {fn : Func} {r s : ResultVar} {v u : Value} (hr : fn.results = #[r, s]) (h : RV C F L r v) (h' : RV C F L s u) :
  ∀ a w, Fr F C a → Hp C.w0 C.M L w → (results fn a.tmps).run C.P w = .ok (.tuple #[v, u]) w := fun a w ha hw => by
 have h1 := h a w ha hw
 have h2 := h' a w ha hw
 simp [results_eq, hr, h1, h2]
def MemAt (C : Cx) (L : List Ent) (b off : Nat) (vs : List Value) : Prop := ∀ w, Hp C.w0 C.M L w → ∀ j v, vs[j]? = some v → w.cell? ⟨b, off + j, none⟩ = some v
def Seg (cs : List Value) (off : Nat) (vs : List Value) : Prop := ∀ j v, vs[j]? = some v → cs[off + j]? = some v
theorem AL (cs : List Value) : Seg cs 0 cs := fun j v h => by simpa using h
theorem A4 {p q vs : List Value} {off : Nat} (h : Seg p off vs) : Seg (p ++ q) off vs := fun j v hj => by
 have := h j v hj
 rw [List.getElem?_append_left (List.getElem?_eq_some_iff.1 this).1]; exact this
theorem Seg.right {p q vs : List Value} {off : Nat} (n o : Nat) (hn : p.length = n) (ho : off = n + o) (h : Seg q o vs) : Seg (p ++ q) off vs := fun j v hj => by
 have := h j v hj
 rw [List.getElem?_append_right (by omega)]
 rw [show off + j - p.length = o + j from by omega]; exact this
theorem Seg.head {v : Value} {q : List Value} : Seg (v :: q) 0 [v] := fun j u hj => by
 match j, hj with
 | 0, hj => simpa using hj
theorem AJ {v : Value} {q vs : List Value} {off : Nat} (h : Seg q off vs) : Seg (v :: q) (off + 1) vs := fun j u hj => by
 have := h j u hj
 rw [show off + 1 + j = (off + j) + 1 from by omega]; simpa using this
theorem Seg.get {cs : List Value} {off : Nat} {v : Value} (h : cs[off]? = some v) : Seg cs off [v] := fun j u hj => by
 match j, hj with
 | 0, hj => simp at hj; subst hj; simpa using h
theorem Seg.sub {cs p q vs : List Value} {off n o : Nat} (hn : p.length = n) (ho : off = o + n) (h : Seg cs o (p ++ vs ++ q)) : Seg cs off vs := fun j u hj => by
 have hlt : j < vs.length := (List.getElem?_eq_some_iff.1 hj).1
 have := h (n + j) u (by rw [List.append_assoc, List.getElem?_append_right (by omega), List.getElem?_append_left (by omega)]; rw [show n + j - p.length = j from by omega]; exact hj)
 rw [show off + j = o + (n + j) from by omega]; exact this
theorem Seg.mid {p q vs : List Value} {off : Nat} (hn : p.length = off) : Seg (p ++ vs ++ q) off vs := Seg.sub hn (by simp) (AL _)
theorem Seg.len {cs vs : List Value} {off : Nat} (h : Seg cs off vs) (hv : vs ≠ []) : off + vs.length ≤ cs.length := by
 have hp : 0 < vs.length := List.length_pos_iff.2 hv
 have := h (vs.length - 1) (vs[vs.length - 1]) (by simp)
 have := (List.getElem?_eq_some_iff.1 this).1
 omega
theorem MemAt.ent {b off : Nat} {vs cs : List Value} {T : TypeId} {fz : Nat × Nat} (i : Nat) (hi : L[i]? = some ⟨b, cs, T, fz⟩) (hs : Seg cs off vs) : MemAt C L b off vs := fun w hw j v hj => by
 have := hw.ent _ (List.mem_of_getElem? hi)
 have h2 := hs j v hj
 simp only [World.cell?, this]
 simpa using h2
abbrev AS := @MemAt.ent
theorem MemAt.base {b off : Nat} {vs : List Value} (hb : b < C.w0.heap.size) (hM : b ∉ C.M) (h : ∀ j v, vs[j]? = some v → C.w0.cell? ⟨b, off + j, none⟩ = some v) : MemAt C L b off vs := fun w hw j v hj => by
 have := hw.old b hb hM
 have h2 := h j v hj
 simp only [World.cell?, this] at h2 ⊢
 exact h2
theorem MemAt.one {b off : Nat} {v : Value} (h : MemAt C L b off [v]) {w : World} (hw : Hp C.w0 C.M L w) : w.cell? ⟨b, off, none⟩ = some v := by
 simpa using h w hw 0 v (by simp)
theorem F1 (b off n : Nat) : (⟨b, off, none⟩ : Addr).add n = ⟨b, off + n, none⟩ := by
 unfold Addr.add; split <;> simp_all
theorem run_loadVar_agg {P : Program} {w : World} {T b off n : Nat} {vs : List Value} (hA : (isAgg T).run P w = .ok true w) (hS : (sizeOf T).run P w = .ok n w) (hn : vs.length = n)
  (h : ∀ j v, vs[j]? = some v → w.cell? ⟨b, off + j, none⟩ = some v) : (loadVar T ⟨b, off, none⟩).run P w = .ok (.agg vs.toArray) w := by
 have hl := run_loadCells_list (P := P) w ⟨b, off, none⟩ vs (fun j v hj => by rw [F1]; exact h j v hj)
 rw [hn] at hl
 simp [loadVar, hA, hS, hl]
theorem run_loadVar_one {P : Program} {w : World} {T b off : Nat} {v : Value} (hA : (isAgg T).run P w = .ok false w)
  (h : w.cell? ⟨b, off, none⟩ = some v) : (loadVar T ⟨b, off, none⟩).run P w = .ok v w := by
 simp [loadVar, hA, Go.load, Sem.run, h]
def Ld (C : Cx) (L : List Ent) (T b off : Nat) (v : Value) : Prop := ∀ w, Hp C.w0 C.M L w → (loadVar T ⟨b, off, none⟩).run C.P w = .ok v w
theorem BH {T b off n : Nat} {vs : List Value} (hA : ∀ w, (isAgg T).run C.P w = .ok true w) (hS : ∀ w, (sizeOf T).run C.P w = .ok n w) (hn : vs.length = n) (h : MemAt C L b off vs) : Ld C L T b off (.agg vs.toArray) :=
 fun w hw => run_loadVar_agg (hA w) (hS w) hn (h w hw)
theorem AV {T b off : Nat} {v : Value} (hA : ∀ w, (isAgg T).run C.P w = .ok false w) (h : MemAt C L b off [v]) : Ld C L T b off v :=
 fun w hw => run_loadVar_one (hA w) (h.one hw)
theorem DU {x T b off : Nat} {v : Value} (hx : lk F x = some (Ptr b off)) (h : Ld C L T b off v) : RV C F L (.cell x T) v := fun a w ha hw => by
 have := ha.2.2 x _ hx
 simp [rvS, Array.getD_eq_getD_getElem?, this, asAddr, h w hw]
def lay (cs : List Value) (off : Nat) (vs : List Value) : List Value := cs.take off ++ vs ++ cs.drop (off + vs.length)
theorem Hp.ne {w0 w : World} {M : List Nat} {L : List Ent} (h : Hp w0 M L w) {i j : Nat} {e x : Ent} (hi : L[i]? = some e) (hj : L[j]? = some x) (hne : i ≠ j) : e.b ≠ x.b := fun he => by
 have hlt : i < (L.map Ent.b).length := by simpa using (List.getElem?_eq_some_iff.1 hi).1
 exact hne ((List.getElem?_inj hlt h.nd).1 (by simp [hi, hj, he]))
theorem Hp.setRow {w0 w : World} {M : List Nat} {L : List Ent} (h : Hp w0 M L w) {i : Nat} {b T : Nat} {cs : List Value} {fz : Nat × Nat} (hi : L[i]? = some ⟨b, cs, T, fz⟩) (cs' : List Value) :
    Hp w0 M (L.set i ⟨b, cs', T, fz⟩) (w.setRow b cs'.toArray) := by
  have hmem := List.mem_of_getElem? hi
  have hE := h.ent _ hmem
  have hlt : b < w.heap.size := (Array.getElem?_eq_some_iff.1 hE).1
  have hsame : ∀ k, k ≠ b → (w.setRow b cs'.toArray).heap[k]? = w.heap[k]? := fun k hk => by
    simp only [World.setRow]
    rw [Array.getElem?_modify, if_neg (by omega)]
  have hnew : (w.setRow b cs'.toArray).heap[b]? = some (.cells cs'.toArray T fz) := setRow_heap _ _ _ _ _ _ hE
  have hil : i < L.length := (List.getElem?_eq_some_iff.1 hi).1
  refine ⟨h.os, h.tape, h.output, by simpa [World.setRow] using h.le, fun k hk hM => ?_, fun x hx => ?_, ?_, fun x hx => ?_⟩
  · have : k ≠ b := fun he => by
      rcases h.own _ hmem with h1 | h1
      · exact hM (he ▸ h1)
      · simp at h1; omega
    rw [hsame k this]; exact h.old k hk hM
  · obtain ⟨j, hj⟩ := List.mem_iff_getElem?.1 hx
    rw [List.getElem?_set] at hj
    split at hj
    · simp at hj; subst hj; exact hnew
    · rename_i hij
      rw [hsame x.b (fun he => h.ne hi hj hij he.symm)]; exact h.ent x (List.mem_of_getElem? hj)
  · have : (L.set i ⟨b, cs', T, fz⟩).map Ent.b = L.map Ent.b := by
      apply List.ext_getElem?
      intro j
      simp only [List.getElem?_map, List.getElem?_set]
      split
      · rename_i hij; subst hij; rw [hi]; rfl
      · rfl
    rw [this]; exact h.nd
  · rcases List.mem_or_eq_of_mem_set hx with h1 | h1
    · exact h.own x h1
    · subst h1; exact h.own ⟨b, cs, T, fz⟩ hmem
theorem Hp.alloc {w0 w : World} {M : List Nat} {L : List Ent} (h : Hp w0 M L w) (cs : List Value) (T : Nat) : Hp w0 M (L ++ [⟨w.heap.size, cs, T, (0, 0)⟩]) (w.alloc (.cells cs.toArray T)) := by
  have hlt : ∀ x ∈ L, x.b < w.heap.size := fun x hx => (Array.getElem?_eq_some_iff.1 (h.ent x hx)).1
  refine ⟨h.os, h.tape, h.output, by have := h.le; simp; omega, fun k hk hM => ?_, fun x hx => ?_, ?_, fun x hx => ?_⟩
  · rw [Below.heap_alloc _ _ _ (by have := h.le; omega)]; exact h.old k hk hM
  · rcases List.mem_append.1 hx with h1 | h1
    · rw [Below.heap_alloc _ _ _ (hlt x h1)]; exact h.ent x h1
    · simp at h1; subst h1; show (w.heap.push _)[w.heap.size]? = _; simp
  · rw [List.map_append, List.nodup_append]
    refine ⟨h.nd, by simp, fun a ha c hc => ?_⟩
    simp at hc; subst hc
    obtain ⟨x, hx, rfl⟩ := List.mem_map.1 ha
    have := hlt x hx; omega
  · rcases List.mem_append.1 hx with h1 | h1
    · exact h.own x h1
    · simp at h1; subst h1; exact .inr h.le
theorem Hp.drewN {w0 w : World} {M : List Nat} {L : List Ent} (h : Hp w0 M L w) (k : Nat) : Hp w0 M L { w with drawn := k } := ⟨h.os, h.tape, h.output, h.le, h.old, h.ent, h.nd, h.own⟩
theorem Hp.call {w0 w w' : World} {M M' : List Nat} {L L0 Lr L' : List Ent} (h : Hp w0 M L w) (h' : Hp w M' L' w') (hp : L.Perm (L0 ++ Lr)) (hM : L0.map Ent.b = M') : Hp w0 M (Lr ++ L') w' := by
  have hlt : ∀ x ∈ L, x.b < w.heap.size := fun x hx => (Array.getElem?_eq_some_iff.1 (h.ent x hx)).1
  have hnd : ((L0 ++ Lr).map Ent.b).Nodup := (hp.map Ent.b).nodup_iff.1 h.nd
  rw [List.map_append, List.nodup_append] at hnd
  obtain ⟨hn0, hnr, hdis⟩ := hnd
  have hr : ∀ x ∈ Lr, x ∈ L := fun x hx => hp.mem_iff.2 (List.mem_append.2 (.inr hx))
  have h0 : ∀ x ∈ L0, x ∈ L := fun x hx => hp.mem_iff.2 (List.mem_append.2 (.inl hx))
  have hrM : ∀ x ∈ Lr, x.b ∉ M' := fun x hx hm => by
    rw [← hM] at hm
    exact hdis _ hm _ (List.mem_map_of_mem hx) rfl
  have hmM : ∀ b ∈ M', b ∈ M ∨ w0.heap.size ≤ b := fun b hb => by
    rw [← hM] at hb
    obtain ⟨x, hx, rfl⟩ := List.mem_map.1 hb
    exact h.own x (h0 x hx)
  refine ⟨h'.os.trans h.os, h'.tape.trans h.tape, h'.output.trans h.output, Nat.le_trans h.le h'.le, fun k hk hkM => ?_, fun x hx => ?_, ?_, fun x hx => ?_⟩
  · rw [h'.old k (by have := h.le; omega) (fun hm => (hmM k hm).elim hkM (by omega))]; exact h.old k hk hkM
  · rcases List.mem_append.1 hx with h1 | h1
    · rw [h'.old x.b (hlt x (hr x h1)) (hrM x h1)]; exact h.ent x (hr x h1)
    · exact h'.ent x h1
  · rw [List.map_append, List.nodup_append]
    refine ⟨hnr, h'.nd, fun a ha c hc => ?_⟩
    obtain ⟨x, hx, rfl⟩ := List.mem_map.1 ha
    obtain ⟨y, hy, rfl⟩ := List.mem_map.1 hc
    intro he
    rcases h'.own y hy with h1 | h1
    · exact hrM x hx (he ▸ h1)
    · have := hlt x (hr x hx); omega
  · rcases List.mem_append.1 hx with h1 | h1
    · exact h.own x (hr x h1)
    · rcases h'.own x h1 with h2 | h2
      · exact hmM _ h2
      · exact .inr (Nat.le_trans h.le h2)
theorem Hp.below {w0 w : World} {L : List Ent} (h : Hp w0 [] L w) : Below w0.heap.size w0 w := ⟨h.os, h.tape, h.output, h.le, fun k hk => h.old k hk (by simp)⟩
def take? : List Bool → List Ent → List Ent
 | true :: m, e :: l => e :: take? m l
 | false :: m, _ :: l => take? m l
 | _, _ => []
def rest? : List Bool → List Ent → List Ent
 | true :: m, _ :: l => rest? m l
 | false :: m, e :: l => e :: rest? m l
 | [], l => l
 | _ :: _, [] => []
theorem perm_mask : ∀ (m : List Bool) (l : List Ent), l.Perm (take? m l ++ rest? m l)
 | [], l => by simp [take?, rest?]
 | _ :: _, [] => by simp [take?, rest?]
 | true :: m, e :: l => by simpa [take?, rest?] using perm_mask m l
 | false :: m, e :: l => by
  simp only [take?, rest?]
  exact ((perm_mask m l).cons e).trans List.perm_middle.symm
def Cl (C : Cx) (F : Frm) (L : List Ent) (op : Op) (ty : TypeId) (f : FuncId) (args : Array Value) : Prop :=
 ∀ a w, Fr F C a → Hp C.w0 C.M L w → ∀ d pos aft g, (execOp a.eval ⟨d, op, ty, pos, aft, g⟩).run C.P w = .ok (.enter f args) w
end Go.Sx
namespace Go.Sx
open Go Go.RowKit
theorem wrap_u64' (n : Int) : IntKind.u64.wrap n = n % 18446744073709551616 := by simp [IntKind.wrap, IntKind.bits, IntKind.signed]
theorem wrapU32 (a : UInt32) : IntKind.u32.wrap (a.toNat : Int) = a.toNat := by
 rw [IntKind.wrap_u32']; have := a.toNat_lt; omega
theorem wrapU64 (a : UInt64) : IntKind.u64.wrap (a.toNat : Int) = a.toNat := by
 rw [wrap_u64']; have := a.toNat_lt; omega
theorem eqGuard_int {P : Program} {w : World} (op : BinOp) (t : TypeId) (x y : Operand) (k k' : IntKind) (m n : Int) : (eqGuard op t x y (.int k m) (.int k' n)).run P w = .ok () w := by
 cases op <;> simp [eqGuard]
variable {P : Program} {w : World} {T : TypeId}
theorem FZ (a b : UInt8) : (binOp .xor T (U8 a) (U8 b)).run P w = .ok (U8 (a ^^^ b)) w := by
 rw [binOp_xor]; simp [go_sem]; rw [u8_xor_nat _ _ a.toNat_lt b.toNat_lt]
theorem bin_or_u8 (a b : UInt8) : (binOp .or T (U8 a) (U8 b)).run P w = .ok (U8 (a ||| b)) w := by
 rw [binOp_or]; simp [go_sem]; rw [u8_or_nat _ _ a.toNat_lt b.toNat_lt]
theorem bin_eql_u8 (a b : UInt8) : (binOp .eql T (U8 a) (U8 b)).run P w = .ok (.bool (decide (a = b))) w := by
 have e : ((a.toNat : Int) == (b.toNat : Int)) = decide (a = b) := by rw [Bool.eq_iff_iff]; simp [← UInt8.toNat_inj]; omega
 rw [binOp_eql, e]; simp
theorem bin_shl_u8 (a : UInt8) (yk : IntKind) (y : Int) (n : Nat) (hn : n < 8) (hy : y = n) : (binOp .shl T (U8 a) (.int yk y)).run P w = .ok (U8 (a <<< UInt8.ofNat n)) w := by
 subst hy
 have e : IntKind.u8.wrap ((a.toNat : Int) * 2 ^ (min (n : Int).toNat 8)) = ((a <<< UInt8.ofNat n).toNat : Int) := by
  rw [IntKind.wrap_u8', UInt8.toNat_shiftLeft, show min (n : Int).toNat 8 = n from by omega, Nat.shiftLeft_eq]
  have : (UInt8.ofNat n).toNat % 8 = n := by simp; omega
  rw [this]; simp
 simp only [binOp, Op.shift, IntKind.bits]
 rw [if_neg (by omega), e]; simp
theorem C7 (a b : UInt32) : (binOp .add T (U32 a) (U32 b)).run P w = .ok (U32 (a + b)) w := by
 simp [binOp, Op.intArith, IntKind.wrap_u32', UInt32.toNat_add]
theorem bin_mul_u32 (a b : UInt32) : (binOp .mul T (U32 a) (U32 b)).run P w = .ok (U32 (a * b)) w := by
 simp [binOp, Op.intArith, IntKind.wrap_u32', UInt32.toNat_mul]
theorem C6 (a b : UInt32) : (binOp .xor T (U32 a) (U32 b)).run P w = .ok (U32 (a ^^^ b)) w := by
 rw [binOp_xor]; simp [go_sem]; rw [u32_xor_nat _ _ a.toNat_lt b.toNat_lt]
theorem D7 (a b : UInt32) : (binOp .and T (U32 a) (U32 b)).run P w = .ok (U32 (a &&& b)) w := by
 rw [binOp_and]; simp [go_sem]; rw [u32_and_nat _ _ a.toNat_lt b.toNat_lt]
theorem bin_or_u32 (a b : UInt32) : (binOp .or T (U32 a) (U32 b)).run P w = .ok (U32 (a ||| b)) w := by
 rw [binOp_or]; simp [go_sem]; rw [u32_or_nat _ _ a.toNat_lt b.toNat_lt]
theorem bin_shl_u32 (a : UInt32) (yk : IntKind) (y : Int) (n : Nat) (hn : n < 32) (hy : y = n) : (binOp .shl T (U32 a) (.int yk y)).run P w = .ok (U32 (a <<< UInt32.ofNat n)) w := by
 subst hy
 have e : IntKind.u32.wrap ((a.toNat : Int) * 2 ^ (min (n : Int).toNat 32)) = ((a <<< UInt32.ofNat n).toNat : Int) := by
  rw [IntKind.wrap_u32', UInt32.toNat_shiftLeft, show min (n : Int).toNat 32 = n from by omega, Nat.shiftLeft_eq]
  have : (UInt32.ofNat n).toNat % 32 = n := by simp; omega
  rw [this]; simp
 simp only [binOp, Op.shift, IntKind.bits]
 rw [if_neg (by omega), e]; simp
theorem EO (a : UInt32) (yk : IntKind) (y : Int) (n : Nat) (hn : n < 32) (hy : y = n) : (binOp .shr T (U32 a) (.int yk y)).run P w = .ok (U32 (a >>> UInt32.ofNat n)) w := by
 subst hy
 have e : ((a.toNat : Int).fdiv (2 ^ (min (n : Int).toNat 32))) = ((a >>> UInt32.ofNat n).toNat : Int) := by
  rw [UInt32.toNat_shiftRight, show min (n : Int).toNat 32 = n from by omega, Nat.shiftRight_eq_div_pow]
  have : (UInt32.ofNat n).toNat % 32 = n := by simp; omega
  rw [this, Int.fdiv_eq_ediv_of_nonneg _ (by exact Int.pow_nonneg (by omega))]; simp
 simp only [binOp, Op.shift, IntKind.bits]
 rw [if_neg (by omega), e]; simp
theorem bin_sub_u64 (a b : UInt64) : (binOp .sub T (U64 a) (U64 b)).run P w = .ok (U64 (a - b)) w := by
 have := a.toNat_lt; have := b.toNat_lt
 simp [binOp, Op.intArith, wrap_u64', UInt64.toNat_sub]; omega
theorem bin_mul_u64 (a b : UInt64) : (binOp .mul T (U64 a) (U64 b)).run P w = .ok (U64 (a * b)) w := by
 simp [binOp, Op.intArith, wrap_u64', UInt64.toNat_mul]
theorem bin_and_u64 (a b : UInt64) : (binOp .and T (U64 a) (U64 b)).run P w = .ok (U64 (a &&& b)) w := by
 rw [binOp_and]; simp [go_sem]; rw [u64_and_nat _ _ a.toNat_lt b.toNat_lt]
theorem bin_or_u64 (a b : UInt64) : (binOp .or T (U64 a) (U64 b)).run P w = .ok (U64 (a ||| b)) w := by
 rw [binOp_or]; simp [go_sem]; rw [u64_or_nat _ _ a.toNat_lt b.toNat_lt]
theorem bin_quo_u64 (a b : UInt64) (hb : b ≠ 0) : (binOp .quo T (U64 a) (U64 b)).run P w = .ok (U64 (a / b)) w := by
 have h0 : (b.toNat : Int) ≠ 0 := by intro h; apply hb; apply UInt64.toNat_inj.1; simpa using h
 have e : ((a.toNat : Int).tdiv b.toNat) = ((a / b).toNat : Int) := by rw [UInt64.toNat_div]; rfl
 simp only [binOp, Op.intDiv, if_neg h0]
 rw [e, wrapU64]; simp
theorem bin_rem_u64 (a b : UInt64) (hb : b ≠ 0) : (binOp .rem T (U64 a) (U64 b)).run P w = .ok (U64 (a % b)) w := by
 have h0 : (b.toNat : Int) ≠ 0 := by intro h; apply hb; apply UInt64.toNat_inj.1; simpa using h
 have e : ((a.toNat : Int).tmod b.toNat) = ((a % b).toNat : Int) := by rw [UInt64.toNat_mod]; rfl
 simp only [binOp, Op.intDiv, if_neg h0]
 rw [e]; simp
theorem FW (a b : UInt64) : (binOp .eql T (U64 a) (U64 b)).run P w = .ok (.bool (decide (a = b))) w := by
 have e : ((a.toNat : Int) == (b.toNat : Int)) = decide (a = b) := by rw [Bool.eq_iff_iff]; simp [← UInt64.toNat_inj]; omega
 rw [binOp_eql, e]; simp
theorem bin_neq_u64 (a b : UInt64) : (binOp .neq T (U64 a) (U64 b)).run P w = .ok (.bool (decide (a ≠ b))) w := by
 have e : ((a.toNat : Int) != (b.toNat : Int)) = decide (a ≠ b) := by rw [Bool.eq_iff_iff]; simp [← UInt64.toNat_inj]; omega
 rw [binOp_neq, e]; simp
theorem bin_lss_u64 (a b : UInt64) : (binOp .lss T (U64 a) (U64 b)).run P w = .ok (.bool (decide (a < b))) w := by
 rw [binOp_lss]; simp [UInt64.lt_iff_toNat_lt]
theorem bin_leq_u64 (a b : UInt64) : (binOp .leq T (U64 a) (U64 b)).run P w = .ok (.bool (decide (a ≤ b))) w := by
 rw [binOp_leq]; simp [UInt64.le_iff_toNat_le]
theorem bin_geq_u64 (a b : UInt64) : (binOp .geq T (U64 a) (U64 b)).run P w = .ok (.bool (decide (b ≤ a))) w := by
 rw [binOp_geq]; simp [UInt64.le_iff_toNat_le]
theorem bin_shl_u64 (a : UInt64) (yk : IntKind) (y : Int) (n : Nat) (hn : n < 64) (hy : y = n) : (binOp .shl T (U64 a) (.int yk y)).run P w = .ok (U64 (a <<< UInt64.ofNat n)) w := by
 subst hy
 have e : IntKind.u64.wrap ((a.toNat : Int) * 2 ^ (min (n : Int).toNat 64)) = ((a <<< UInt64.ofNat n).toNat : Int) := by
  rw [wrap_u64', UInt64.toNat_shiftLeft, show min (n : Int).toNat 64 = n from by omega, Nat.shiftLeft_eq]
  have : (UInt64.ofNat n).toNat % 64 = n := by simp; omega
  rw [this]; simp
 simp only [binOp, Op.shift, IntKind.bits]
 rw [if_neg (by omega), e]; simp
theorem FD (a : UInt64) (yk : IntKind) (y : Int) (n : Nat) (hn : n < 64) (hy : y = n) : (binOp .shr T (U64 a) (.int yk y)).run P w = .ok (U64 (a >>> UInt64.ofNat n)) w := by
 subst hy
 have e : ((a.toNat : Int).fdiv (2 ^ (min (n : Int).toNat 64))) = ((a >>> UInt64.ofNat n).toNat : Int) := by
  rw [UInt64.toNat_shiftRight, show min (n : Int).toNat 64 = n from by omega, Nat.shiftRight_eq_div_pow]
  have : (UInt64.ofNat n).toNat % 64 = n := by simp; omega
  rw [this, Int.fdiv_eq_ediv_of_nonneg _ (by exact Int.pow_nonneg (by omega))]; simp
 simp only [binOp, Op.shift, IntKind.bits]
 rw [if_neg (by omega), e]; simp
end Go.Sx
namespace Go.Sx
open Go Go.RowKit
variable {C : Cx} {F : Frm} {L : List Ent} {ty T T' : TypeId} {x y : Operand}
theorem AH {v : Value} (hx : ev F x = some v) : Ev C F L (.move x) ty v := fun a w ha _ d pos aft g => by
 simp [execOp, ha.ev hx]
theorem AG {v : Value} (hx : ev F x = some v) : Ev C F L (.assign x) ty v := fun a w ha _ d pos aft g => by
 simp [execOp, ha.ev hx]
theorem CN {c : Operand} {v : Value} (b : Bool) (hc : ev F c = some (.bool b)) (hb : b = true) (hx : ev F x = some v) : Ev C F L (.pick c x y) ty v := fun a w ha _ d pos aft g => by
 subst hb; simp [execOp, ha.ev hc, ha.ev hx, asBool]
theorem BU {c : Operand} {v : Value} (b : Bool) (hc : ev F c = some (.bool b)) (hb : b = false) (hy : ev F y = some v) : Ev C F L (.pick c x y) ty v := fun a w ha _ d pos aft g => by
 subst hb; simp [execOp, ha.ev hc, ha.ev hy, asBool]
theorem CZ {p : Addr} (hx : ev F x = some (.pointer (some p))) : Ev C F L (.nilCheck x) ty (.pointer (some p)) := fun a w ha _ d pos aft g => by
 simp [execOp, ha.ev hx]
theorem C2 {bop : BinOp} (vx vy v : Value) (hx : ev F x = some vx) (hy : ev F y = some vy) (hg : ∀ w, (eqGuard bop T x y vx vy).run C.P w = .ok () w)
  (hr : ∀ w, (binOp bop T vx vy).run C.P w = .ok v w) : Ev C F L (.binOp bop T x y T') ty v := fun a w ha _ d pos aft g => by
 simp [execOp, ha.ev hx, ha.ev hy, hg, hr]
theorem AR {bop : BinOp} {k k' : IntKind} {m n : Int} {v : Value} (hx : ev F x = some (.int k m)) (hy : ev F y = some (.int k' n))
  (hr : ∀ w, (binOp bop T (.int k m) (.int k' n)).run C.P w = .ok v w) : Ev C F L (.binOp bop T x y T') ty v :=
 C2 _ _ v hx hy (fun _ => eqGuard_int _ _ _ _ _ _ _ _) hr
theorem FH {b : Bool} (hx : ev F x = some (.bool b)) : Ev C F L (.unOp .not T x) ty (.bool (!b)) := fun a w ha _ d pos aft g => by
 simp [execOp, ha.ev hx, Op.unary]
theorem Ev_un {u : UnOp} (vx v : Value) (hx : ev F x = some vx) (hr : ∀ w, (Op.unary u vx).run C.P w = .ok v w) : Ev C F L (.unOp u T x) ty v := fun a w ha _ d pos aft g => by
 simp [execOp, ha.ev hx, hr]
theorem DW {src dst : TypeId} (vx v : Value) (hx : ev F x = some vx) (hr : ∀ w, (convert src dst vx).run C.P w = .ok v w) : Ev C F L (.convert src dst x) ty v := fun a w ha _ d pos aft g => by
 simp [execOp, ha.ev hx, hr]
theorem AK {b off : Nat} {v : Value} (hx : ev F x = some (Ptr b off)) (h : Ld C L T b off v) : Ev C F L (.load T x) ty v := fun a w ha hw d pos aft g => by
 simp [execOp, ha.ev hx, Instr.loadAt, Instr.sureAddr, h w hw]
theorem FF {v : Value} {dsc : TypeDesc} (hu : C.P.underlying T = some dsc) (hd : (match dsc with | .interface _ => false | _ => true) = true) (hx : ev F x = some v) : Ev C F L (.makeInterface T x) ty (.iface T v) := fun a w ha _ d pos aft g => by
 simp only [execOp, ha.ev hx, Instr.makeInterface]
 cases dsc <;> simp_all [run_underlying hu]
theorem B4 {vs : Array Value} {v : Value} {i : Nat} (hx : ev F x = some (.tuple vs)) (hv : vs[i]? = some v) : Ev C F L (.extract x i) ty v := fun a w ha _ d pos aft g => by
 simp [execOp, ha.ev hx, Instr.extract, hv]
theorem AB {b off i : Nat} (fo fT n : Nat) {fs : Array Field} (hu : C.P.underlying T = some (.struct fs)) (hf : (fs[i]?).map (fun f => (f.offset, f.type)) = some (fo, fT))
  (hS : ∀ w, (sizeOf fT).run C.P w = .ok n w) (hn : Nat.beq n 0 = false) (hx : ev F x = some (Ptr b off)) : Ev C F L (.fieldAddr T x i) ty (Ptr b (off + fo)) := fun a w ha _ d pos aft g => by
 cases hfi : fs[i]? with
 | none => rw [hfi] at hf; cases hf
 | some f =>
  rw [hfi] at hf
  simp at hf
  obtain ⟨rfl, rfl⟩ := hf
  have hn0 : n ≠ 0 := Nat.ne_of_beq_eq_false hn
  simp [execOp, ha.ev hx, Instr.fieldAt, run_underlying hu, hfi, Instr.sureAddr, fieldPlace, hS w, hn0, F1]
theorem BR {b off : Nat} {i : Int} {k : IntKind} (len e s : Nat) (o : Nat) (hu : C.P.underlying T = some (.array len e)) (hS : ∀ w, (sizeOf e).run C.P w = .ok s w) (hx : ev F x = some (Ptr b off)) (hy : ev F y = some (.int k i))
  (h0 : 0 ≤ i) (h1 : i < len) (ho : off + i.toNat * s = o) : Ev C F L (.indexAddr T x y) ty (Ptr b o) := fun a w ha _ d pos aft g => by
 simp [execOp, ha.ev hx, ha.ev hy, Instr.indexAt, asIntOf, run_underlying hu, Instr.sureAddr, h0, h1, hS w, F1, ho]
theorem FC {b off l c : Nat} {i : Int} {k : IntKind} (e s : Nat) (o : Nat) (hu : C.P.underlying T = some (.slice e)) (hS : ∀ w, (sizeOf e).run C.P w = .ok s w) (hx : ev F x = some (Slc b off l c)) (hy : ev F y = some (.int k i))
  (h0 : 0 ≤ i) (h1 : i < l) (ho : off + i.toNat * s = o) : Ev C F L (.indexAddr T x y) ty (Ptr b o) := fun a w ha _ d pos aft g => by
 simp [execOp, ha.ev hx, ha.ev hy, Instr.indexAt, asIntOf, run_underlying hu, h0, h1, hS w, F1, ho]
theorem Ev_index1 {cs : List Value} {i : Int} {k : IntKind} (len e : Nat) (v : Value) (hu : C.P.underlying T = some (.array len e)) (hA : ∀ w, (isAgg e).run C.P w = .ok false w) (hS : ∀ w, (sizeOf e).run C.P w = .ok 1 w)
  (hx : ev F x = some (.agg cs.toArray)) (hy : ev F y = some (.int k i)) (h0 : 0 ≤ i) (h1 : i < len) (hv : cs[i.toNat]? = some v) : Ev C F L (.index T x y) ty v := fun a w ha _ d pos aft g => by
 simp [execOp, ha.ev hx, ha.ev hy, Instr.index, asIntOf, run_underlying hu, h0, h1, hS w, part, hA w, hv]
theorem Ev_sliceG {lo hi : Option Operand} {ao : Option Addr} {l c : Nat} (e s i j : Nat) (hu : C.P.underlying T = some (.slice e)) (hS : ∀ w, (sizeOf e).run C.P w = .ok s w) (hx : ev F x = some (.slice ao l c))
    (hl : match lo with | some z => ev F z = some (I64 i) | none => i = 0) (hh : match hi with | some z => ev F z = some (I64 j) | none => j = l)
    (h1 : i ≤ j) (h2 : j ≤ c) : Ev C F L (.slice T x lo hi none) ty (.slice (if c = i then ao else ao.map (·.add (i * s))) (j - i) (c - i)) := fun a w ha _ d pos aft g => by
  have g1 : (Instr.sliceBound (I64 j) c .sliceAcap).run C.P w = .ok j w := by
    simp only [Instr.sliceBound, asIntOf]
    simp [h2]
  have g2 : (Instr.sliceBound (I64 i) j .sliceB).run C.P w = .ok i w := by
    simp only [Instr.sliceBound, asIntOf]
    simp [h1]
  cases lo <;> cases hi <;> simp only [] at hl hh
  · subst hl; subst hh
    simp [execOp, ha.ev hx, Instr.sliceAt, run_underlying hu, Instr.slice, Instr.sliceBounds, hS w]
  · subst hl
    simp [execOp, ha.ev hx, ha.ev hh, Instr.sliceAt, run_underlying hu, Instr.slice, Instr.sliceBounds, hS w, g1]
  · subst hh
    simp [execOp, ha.ev hx, ha.ev hl, Instr.sliceAt, run_underlying hu, Instr.slice, Instr.sliceBounds, hS w, g2]
  · simp [execOp, ha.ev hx, ha.ev hl, ha.ev hh, Instr.sliceAt, run_underlying hu, Instr.slice, Instr.sliceBounds, hS w, g1, g2]
theorem Ev_slice {lo hi : Option Operand} {b off l c : Nat} (e s i j o c' : Nat) (hu : C.P.underlying T = some (.slice e)) (hS : ∀ w, (sizeOf e).run C.P w = .ok s w) (hx : ev F x = some (Slc b off l c))
  (hl : match lo with | some z => ev F z = some (I64 i) | none => i = 0) (hh : match hi with | some z => ev F z = some (I64 j) | none => j = l)
  (h1 : i ≤ j) (h2 : j ≤ c) (hne : i < c) (ho : off + i * s = o) (hc : c - i = c') (j' : Nat) (hj : j - i = j') : Ev C F L (.slice T x lo hi none) ty (Slc b o j' c') := by
 have := Ev_sliceG (ty := ty) (L := L) e s i j hu hS hx hl hh h1 h2
 rw [if_neg (by omega), Option.map_some, F1, ho, hc, hj] at this
 exact this
theorem B3 {lo hi : Option Operand} {b off : Nat} (n e s i j o c' : Nat) (hu : C.P.underlying T = some (.array n e)) (hS : ∀ w, (sizeOf e).run C.P w = .ok s w) (hx : ev F x = some (Ptr b off))
    (hl : match lo with | some z => ev F z = some (I64 i) | none => i = 0) (hh : match hi with | some z => ev F z = some (I64 j) | none => j = n)
    (h1 : i ≤ j) (h2 : j ≤ n) (hne : i < n) (ho : off + i * s = o) (hc : n - i = c') (j' : Nat) (hj : j - i = j') : Ev C F L (.slice T x lo hi none) ty (Slc b o j' c') := fun a w ha _ d pos aft g => by
  have g1 : (Instr.sliceBound (I64 j) n .sliceAlen).run C.P w = .ok j w := by
    simp only [Instr.sliceBound, asIntOf]
    simp [h2]
  have g2 : (Instr.sliceBound (I64 i) j .sliceB).run C.P w = .ok i w := by
    simp only [Instr.sliceBound, asIntOf]
    simp [h1]
  have hne' : ¬ n = i := by omega
  cases lo <;> cases hi <;> simp only [] at hl hh
  · subst hl; subst hh; subst hj; subst hc; subst ho
    have h3 : ¬ j = 0 := by omega
    simp [execOp, ha.ev hx, Instr.sliceAt, run_underlying hu, Instr.sliceBounds, hS w, Instr.sureAddr, F1]
  · subst hl; subst hj; subst hc; subst ho
    simp [execOp, ha.ev hx, ha.ev hh, Instr.sliceAt, run_underlying hu, Instr.sliceBounds, hS w, g1, Instr.sureAddr, F1]
  · subst hh; subst hj; subst hc; subst ho
    simp [execOp, ha.ev hx, ha.ev hl, Instr.sliceAt, run_underlying hu, Instr.sliceBounds, hS w, g2, Instr.sureAddr, F1, hne']
  · subst hj; subst hc; subst ho
    simp [execOp, ha.ev hx, ha.ev hl, ha.ev hh, Instr.sliceAt, run_underlying hu, Instr.sliceBounds, hS w, g1, g2, Instr.sureAddr, F1, hne']
theorem addr_map (ao : Option Addr) : ao.map (·.add 0) = ao := by
 cases ao <;> simp [Addr.add]
theorem EL {ao : Option Addr} {l c t e : Nat} (hu : C.P.underlying t = some (.slice e)) (hx : ev F x = some (.slice ao l c)) : Ev C F L (.call { callee := .builtin .len, args := #[x], argTypes := #[t] }) ty (I64 l) := fun a w ha _ d pos aft g => by
 have e := ha.ev hx
 simp [execOp, resolve, invoke, e, builtin, Builtin.len_, run_underlying hu, goInt]
theorem AY {f : FuncId} {args : Array Operand} {ats : Array TypeId} (vs : List Value) (hcf : ∀ (args : Array Value) (w : World), Sem.run C.P (callFunc f args) w = Result.ok (Next.enter f args) w)
  (h : args.toList.map (ev F) = vs.map some) : Cl C F L (.call { callee := .value (.func f), args := args, argTypes := ats }) ty f vs.toArray := fun a w ha _ d pos aft g => by
 have : args.map a.eval = vs.toArray := by
  apply Array.toList_inj.1
  rw [Array.toList_map]
  generalize args.toList = l at h
  clear hcf
  induction l generalizing vs with
  | nil => cases vs <;> simp_all
  | cons o l ih =>
   cases vs with
   | nil => simp at h
   | cons v vs =>
    simp only [List.map_cons, List.cons.injEq] at h
    simp [ha.ev h.1, ih vs h.2]
 have h2 : a.eval (.func f) = .func (.func f) #[] #[] := rfl
 simp [execOp, resolve, this, h2, Deferred.ofValue, invoke, hcf]
end Go.Sx
namespace Go.Sx
open Go Go.RowKit
variable {C : Cx} {F : Frm} {L : List Ent} {Q : Exit → Act → World → Prop} {ops : Array Oper} {l : List Oper}
variable {P : Program} {w : World} {T : TypeId}
theorem wrap_i64_in (n : Int) (h1 : -9223372036854775808 ≤ n) (h2 : n ≤ 9223372036854775807) : IntKind.i64.wrap n = n := IntWalk.i64_in n ⟨h1, h2⟩
theorem DF (x y r : Int) (h1 : -9223372036854775808 ≤ r ∧ r ≤ 9223372036854775807) (hr : x + y = r) : (binOp .add T (I64 x) (I64 y)).run P w = .ok (I64 r) w := by
 subst hr; simp [binOp, Op.intArith, wrap_i64_in _ h1.1 h1.2]
theorem DD (x y r : Int) (h1 : -9223372036854775808 ≤ r ∧ r ≤ 9223372036854775807) (hr : x - y = r) : (binOp .sub T (I64 x) (I64 y)).run P w = .ok (I64 r) w := by
 subst hr; simp [binOp, Op.intArith, wrap_i64_in _ h1.1 h1.2]
theorem E8 (x y r : Int) (h1 : -9223372036854775808 ≤ r ∧ r ≤ 9223372036854775807) (hr : x * y = r) : (binOp .mul T (I64 x) (I64 y)).run P w = .ok (I64 r) w := by
 subst hr; simp [binOp, Op.intArith, wrap_i64_in _ h1.1 h1.2]
theorem F3 (x y r : Int) (hx : 0 ≤ x ∧ x ≤ 9223372036854775807) (hy : 1 ≤ y) (hr : x / y = r) : (binOp .quo T (I64 x) (I64 y)).run P w = .ok (I64 r) w := by
 subst hr
 have h0 : y ≠ 0 := by omega
 have := IntWalk.i64_quo x y ⟨hx.1, hx.2, hy⟩
 simp [binOp, Op.intDiv, h0, this]
theorem bin_rem_i (x y r : Int) (hx : 0 ≤ x) (hy : 1 ≤ y) (hr : x % y = r) : (binOp .rem T (I64 x) (I64 y)).run P w = .ok (I64 r) w := by
 subst hr
 have h0 : y ≠ 0 := by omega
 simp [binOp, Op.intDiv, h0, Int.tmod_eq_emod_of_nonneg hx]
theorem C9 (x y : Int) : (binOp .eql T (I64 x) (I64 y)).run P w = .ok (.bool (decide (x = y))) w := by
 have e : (x == y) = decide (x = y) := by rw [Bool.eq_iff_iff]; simp
 rw [binOp_eql, e]; simp
theorem bin_neq_i (x y : Int) : (binOp .neq T (I64 x) (I64 y)).run P w = .ok (.bool (decide (x ≠ y))) w := by
 have e : (x != y) = decide (x ≠ y) := by rw [Bool.eq_iff_iff]; simp
 rw [binOp_neq, e]; simp
theorem CS (x y : Int) : (binOp .lss T (I64 x) (I64 y)).run P w = .ok (.bool (decide (x < y))) w := by rw [binOp_lss]; simp
theorem bin_leq_i (x y : Int) : (binOp .leq T (I64 x) (I64 y)).run P w = .ok (.bool (decide (x ≤ y))) w := by rw [binOp_leq]; simp
theorem FL (x y : Int) : (binOp .gtr T (I64 x) (I64 y)).run P w = .ok (.bool (decide (y < x))) w := by rw [binOp_gtr]; simp
theorem FV (x y : Int) : (binOp .geq T (I64 x) (I64 y)).run P w = .ok (.bool (decide (y ≤ x))) w := by rw [binOp_geq]; simp
theorem conv_int {src dst : TypeId} {k : IntKind} (n m : Int) (hs : (P.underlying src).isSome = true) (hd : P.underlying dst = some (.int k)) (k' : IntKind) (h : k.wrap n = m) : (convert src dst (.int k' n)).run P w = .ok (.int k m) w := by
 cases hu : P.underlying src with
 | none => rw [hu] at hs; cases hs
 | some d => subst h; simp [convert, run_underlying hu, run_underlying hd, Conv.intToInt]
theorem conv_lit {src dst : TypeId} {k : IntKind} {n m : Int} {k' : IntKind} (hs : (P.underlying src).isSome = true) (hd : P.underlying dst = some (.int k)) (h : k.wrap n = m) : (convert src dst (.int k' n)).run P w = .ok (.int k m) w := conv_int n m hs hd k' h
theorem conv_i64_u8 {src dst : TypeId} (hs : (P.underlying src).isSome = true) (hd : P.underlying dst = some (.int .u8)) (n : Nat) (x : Int) (h : x = n) : (convert src dst (I64 x)).run P w = .ok (U8 (UInt8.ofNat n)) w :=
 conv_int _ _ hs hd _ (by subst h; rw [IntKind.wrap_u8']; simp)
theorem conv_u8_u32 {src dst : TypeId} (hs : (P.underlying src).isSome = true) (hd : P.underlying dst = some (.int .u32)) (x : UInt8) : (convert src dst (U8 x)).run P w = .ok (U32 x.toUInt32) w :=
 conv_int _ _ hs hd _ (by have := x.toNat_lt; rw [IntKind.wrap_u32']; simp; try omega)
theorem conv_u8_u64 {src dst : TypeId} (hs : (P.underlying src).isSome = true) (hd : P.underlying dst = some (.int .u64)) (x : UInt8) : (convert src dst (U8 x)).run P w = .ok (U64 x.toUInt64) w :=
 conv_int _ _ hs hd _ (by have := x.toNat_lt; rw [wrap_u64']; simp; try omega)
theorem F6 (x : UInt32) : (Op.unary .xor (U32 x)).run P w = .ok (U32 (~~~x)) w := by
 have hx := x.toNat_lt
 have e : (BitVec.ofInt 32 (4294967295:Int)) ^^^ (BitVec.ofInt 32 (x.toNat : Int)) = (~~~x).toBitVec := by
  rw [show BitVec.ofInt 32 (4294967295:Int) = BitVec.allOnes 32 from by decide, show BitVec.ofInt 32 (x.toNat : Int) = x.toBitVec from by apply BitVec.eq_of_toNat_eq; rw [BitVec.toNat_ofInt]; simp; omega, BitVec.allOnes_xor]
  rfl
 show Sem.run P (pure (Value.int .u32 (IntKind.u32.wrap ((BitVec.ofInt 32 (4294967295:Int)) ^^^ (BitVec.ofInt 32 (x.toNat : Int))).toNat))) w = _
 rw [e]
 show Sem.run P (pure (Value.int .u32 (IntKind.u32.wrap ((~~~x).toNat : Int)))) w = _
 rw [wrapU32]; simp
theorem conv_u32_u8 {src dst : TypeId} (hs : (P.underlying src).isSome = true) (hd : P.underlying dst = some (.int .u8)) (x : UInt32) : (convert src dst (U32 x)).run P w = .ok (U8 x.toUInt8) w :=
 conv_int _ _ hs hd _ (by have := x.toNat_lt; rw [IntKind.wrap_u8']; simp; try omega)
theorem EN {src dst : TypeId} (hs : (P.underlying src).isSome = true) (hd : P.underlying dst = some (.int .u64)) (n : Nat) (x : Int) (h : x = n) : (convert src dst (I64 x)).run P w = .ok (U64 (UInt64.ofNat n)) w :=
 conv_int _ _ hs hd _ (by subst h; rw [wrap_u64']; simp)
theorem FN {src dst : TypeId} (hs : (P.underlying src).isSome = true) (hd : P.underlying dst = some (.int .u8)) (x : UInt64) : (convert src dst (U64 x)).run P w = .ok (U8 x.toUInt8) w :=
 conv_int _ _ hs hd _ (by have := x.toNat_lt; rw [IntKind.wrap_u8']; simp; try omega)
theorem conv_u64_i64 {src dst : TypeId} (hs : (P.underlying src).isSome = true) (hd : P.underlying dst = some (.int .i64)) (x : UInt64) (r : Int) (hr : (x.toNat : Int) = r) (hx : x.toNat < 9223372036854775808) : (convert src dst (U64 x)).run P w = .ok (I64 r) w :=
 conv_int _ _ hs hd _ (by subst hr; have := x.toNat_lt; exact wrap_i64_in _ (by omega) (by omega))
theorem FM (op : BinOp) (t : TypeId) (x y : Operand) (p q : Option Addr) : (eqGuard op t x y (.pointer p) (.pointer q)).run P w = .ok () w := by cases op <;> simp [eqGuard]
theorem eqGuard_sl (op : BinOp) (t : TypeId) (x y : Operand) (p q : Option Addr) (a b c d : Nat) : (eqGuard op t x y (.slice p a b) (.slice q c d)).run P w = .ok () w := by cases op <;> simp [eqGuard]
theorem F9 (op : BinOp) (t : TypeId) (x y : Operand) (p q : Bool) : (eqGuard op t x y (.bool p) (.bool q)).run P w = .ok () w := by cases op <;> simp [eqGuard]
theorem eqGuard_if (op : BinOp) (t : TypeId) (x y : Operand) (d : TypeId) (p : Value) : (eqGuard op t x y (.iface d p) .nilIface).run P w = .ok () w := by cases op <;> simp [eqGuard]
theorem eqGuard_nilc (op : BinOp) (t : TypeId) (x : Operand) (v : Value) : (eqGuard op t x (.const v) .nilIface .nilIface).run P w = .ok () w := by cases op <;> simp [eqGuard]
theorem eqGuard_agg (op : BinOp) (t : TypeId) (x y : Operand) (p q : Array Value) (hg : P.eqGuardType P.depth t = false) : (eqGuard op t x y (.agg p) (.agg q)).run P w = .ok () w := by cases op <;> simp [eqGuard, program, Sem.run, hg]
theorem eql_of {t : TypeId} {x y : Value} {b : Bool} (hi : binOp .eql t x y = (do pure (.bool (← Op.equal t x y)))) (h : (Op.equal t x y).run P w = .ok b w) : (binOp .eql t x y).run P w = .ok (.bool b) w := by rw [hi]; simp [h]
theorem neq_of {t : TypeId} {x y : Value} {b : Bool} (hi : binOp .neq t x y = (do pure (.bool (!(← Op.equal t x y))))) (h : (Op.equal t x y).run P w = .ok b w) : (binOp .neq t x y).run P w = .ok (.bool !b) w := by rw [hi]; simp [h]
theorem equal_ptr_nil {t e : TypeId} (hu : P.underlying t = some (.pointer e)) (a : Addr) : (Op.equal t (.pointer (some a)) (.pointer none)).run P w = .ok false w := by
 unfold Op.equal Op.maxDepth
 rw [show (10000:Nat) = 9999 + 1 from rfl]
 generalize 9999 = d
 simp [Op.equalIn, run_underlying hu]
theorem equal_sl_any {t e : TypeId} (hu : P.underlying t = some (.slice e)) (a : Option Addr) (n c : Nat) : (Op.equal t (.slice a n c) (.slice none 0 0)).run P w = .ok a.isNone w := by
 cases a <;> (unfold Op.equal Op.maxDepth; rw [show (10000:Nat) = 9999 + 1 from rfl]; generalize 9999 = d; simp [Op.equalIn, run_underlying hu])
theorem equal_if_nil {t : TypeId} {ms : Array (String × TypeId)} (hu : P.underlying t = some (.interface ms)) (d : TypeId) (v : Value) : (Op.equal t (.iface d v) .nilIface).run P w = .ok false w := by
 unfold Op.equal Op.maxDepth
 rw [show (10000:Nat) = 9999 + 1 from rfl]
 generalize 9999 = d
 simp [Op.equalIn, run_underlying hu]
theorem equal_if_nil_nil {t : TypeId} {ms : Array (String × TypeId)} (hu : P.underlying t = some (.interface ms)) : (Op.equal t .nilIface .nilIface).run P w = .ok true w := by
 unfold Op.equal Op.maxDepth
 rw [show (10000:Nat) = 9999 + 1 from rfl]
 generalize 9999 = d
 simp [Op.equalIn, run_underlying hu]
theorem equal_bool {t : TypeId} (hu : P.underlying t = some .bool) (a b : Bool) : (Op.equal t (.bool a) (.bool b)).run P w = .ok (a == b) w := by
 unfold Op.equal Op.maxDepth
 rw [show (10000:Nat) = 9999 + 1 from rfl]
 generalize 9999 = d
 simp [Op.equalIn, run_underlying hu]
theorem FQ {t e : TypeId} (hu : P.underlying t = some (.pointer e)) {a : Addr} : (binOp .eql t (.pointer (some a)) (.pointer none)).run P w = .ok (.bool false) w := eql_of (by simp [binOp]) (equal_ptr_nil hu a)
theorem neq_ptr_nil {t e : TypeId} (hu : P.underlying t = some (.pointer e)) {a : Addr} : (binOp .neq t (.pointer (some a)) (.pointer none)).run P w = .ok (.bool (true)) w := neq_of (by simp [binOp]) (equal_ptr_nil hu a)
theorem eql_sl_any {t e : TypeId} (hu : P.underlying t = some (.slice e)) {a : Option Addr} {n c : Nat} : (binOp .eql t (.slice a n c) (.slice none 0 0)).run P w = .ok (.bool a.isNone) w := eql_of (by simp [binOp]) (equal_sl_any hu a n c)
theorem eql_sl_nil_nil {t e : TypeId} (hu : P.underlying t = some (.slice e)) : (binOp .eql t (.slice none 0 0) (.slice none 0 0)).run P w = .ok (.bool true) w := eql_of (by simp [binOp]) (equal_sl_any hu none 0 0)
theorem eql_if_nil {t : TypeId} {ms : Array (String × TypeId)} (hu : P.underlying t = some (.interface ms)) {d : TypeId} {v : Value} : (binOp .eql t (.iface d v) (.nilIface)).run P w = .ok (.bool false) w := eql_of (by simp [binOp]) (equal_if_nil hu d v)
theorem neq_if_nil {t : TypeId} {ms : Array (String × TypeId)} (hu : P.underlying t = some (.interface ms)) {d : TypeId} {v : Value} : (binOp .neq t (.iface d v) (.nilIface)).run P w = .ok (.bool (true)) w := neq_of (by simp [binOp]) (equal_if_nil hu d v)
theorem eql_if_nil_nil {t : TypeId} {ms : Array (String × TypeId)} (hu : P.underlying t = some (.interface ms)) : (binOp .eql t (.nilIface) (.nilIface)).run P w = .ok (.bool true) w := eql_of (by simp [binOp]) (equal_if_nil_nil hu)
theorem DC {t : TypeId} {ms : Array (String × TypeId)} (hu : P.underlying t = some (.interface ms)) : (binOp .neq t (.nilIface) (.nilIface)).run P w = .ok (.bool (false)) w := neq_of (by simp [binOp]) (equal_if_nil_nil hu)
theorem eql_bool {t : TypeId} (hu : P.underlying t = some .bool) {a b : Bool} : (binOp .eql t (.bool a) (.bool b)).run P w = .ok (.bool (a == b)) w := eql_of (by simp [binOp]) (equal_bool hu a b)
def cu8 (l : List UInt8) : List Value := l.map fun x => U8 x
@[simp] theorem FY (l : List UInt8) : (cu8 l).length = l.length := by simp [cu8]
def g8 (l : List UInt8) (i : Nat) : UInt8 := l.getD i 0
theorem GE {l : List UInt8} {i : Nat} (h : i < l.length) : (cu8 l)[i]? = some (U8 (g8 l i)) := by
 simp [cu8, g8, h]
theorem g8_eq {l : List UInt8} {i : Nat} (h : i < l.length) : g8 l i = l[i] := by simp [g8, h]
theorem g8_set (l : List UInt8) (i j : Nat) (v : UInt8) (h : i < l.length) : g8 (l.set i v) j = if i = j then v else g8 l j := by
  simp only [g8, List.getD_eq_getElem?_getD, List.getElem?_set]
  split
  · subst j; simp
  · rfl
theorem lay8 (l : List UInt8) (i : Nat) (v : UInt8) (h : i < l.length) : lay (cu8 l) i [U8 v] = cu8 (l.set i v) := by
 simp [lay, cu8, List.set_eq_take_append_cons_drop]
 simp [h]
theorem CD {l : List UInt8} : ∀ u ∈ cu8 l, u.oneCell' = true := by
 intro u hu; simp only [cu8, List.mem_map] at hu; obtain ⟨x, _, rfl⟩ := hu; rfl
theorem seg_u8_mid {l : List UInt8} (o n : Nat) (_h : o + n ≤ l.length) : Seg (cu8 l) o (cu8 ((l.drop o).take n)) := by
  intro j v hj
  simp only [cu8, List.getElem?_map, List.getElem?_take, List.getElem?_drop] at hj ⊢
  split at hj
  · exact hj
  · simp at hj
theorem cu8_app (a b : List UInt8) : cu8 (a ++ b) = cu8 a ++ cu8 b := by simp [cu8]
def cu32 (l : List UInt32) : List Value := l.map fun x => U32 x
@[simp] theorem cu32_length (l : List UInt32) : (cu32 l).length = l.length := by simp [cu32]
def g32 (l : List UInt32) (i : Nat) : UInt32 := l.getD i 0
theorem DI {l : List UInt32} {i : Nat} (h : i < l.length) : (cu32 l)[i]? = some (U32 (g32 l i)) := by
 simp [cu32, g32, h]
theorem g32_eq {l : List UInt32} {i : Nat} (h : i < l.length) : g32 l i = l[i] := by simp [g32, h]
theorem g32_set (l : List UInt32) (i j : Nat) (v : UInt32) (h : i < l.length) : g32 (l.set i v) j = if i = j then v else g32 l j := by
  simp only [g32, List.getD_eq_getElem?_getD, List.getElem?_set]
  split
  · subst j; simp
  · rfl
theorem lay32 (l : List UInt32) (i : Nat) (v : UInt32) (h : i < l.length) : lay (cu32 l) i [U32 v] = cu32 (l.set i v) := by
 simp [lay, cu32, List.set_eq_take_append_cons_drop]
 simp [h]
theorem D3 {l : List UInt32} : ∀ u ∈ cu32 l, u.oneCell' = true := by
 intro u hu; simp only [cu32, List.mem_map] at hu; obtain ⟨x, _, rfl⟩ := hu; rfl
def cu64 (l : List UInt64) : List Value := l.map fun x => U64 x
@[simp] theorem F4 (l : List UInt64) : (cu64 l).length = l.length := by simp [cu64]
def g64 (l : List UInt64) (i : Nat) : UInt64 := l.getD i 0
theorem g64_get {l : List UInt64} {i : Nat} (h : i < l.length) : (cu64 l)[i]? = some (U64 (g64 l i)) := by
 simp [cu64, g64, h]
theorem g64_eq {l : List UInt64} {i : Nat} (h : i < l.length) : g64 l i = l[i] := by simp [g64, h]
theorem D1 {l : List UInt64} : ∀ u ∈ cu64 l, u.oneCell' = true := by
 intro u hu; simp only [cu64, List.mem_map] at hu; obtain ⟨x, _, rfl⟩ := hu; rfl
theorem cu64_app (a b : List UInt64) : cu64 (a ++ b) = cu64 a ++ cu64 b := by simp [cu64]
theorem BC {cs vs : List Value} (h : vs.length = cs.length) : lay cs 0 vs = vs := by
 simp [lay, h]
end Go.Sx
namespace Go.Sx
open Go Go.RowKit
def Step (C : Cx) (F : Frm) (L : List Ent) (op : Op) (ty : TypeId) (R : Value → List Ent → Prop) : Prop :=
 ∀ a w, Fr F C a → Hp C.w0 C.M L w → ∀ d pos aft g (Kk : Act → World → Prop) (Q : Exit → Act → World → Prop),
  (∀ v L' w', R v L' → Hp C.w0 C.M L' w' → Kk (a.put d v) w') → (Oper.mk d op ty pos aft g).wpIn (Fc C.rd) 0 C.P a w Kk Q
variable {C : Cx} {F : Frm} {L : List Ent} {Q : Exit → Act → World → Prop} {l : List Oper}
theorem Step_run {op : Op} {ty : TypeId} {R : Value → List Ent → Prop} (h : ∀ a w, Fr F C a → Hp C.w0 C.M L w → ∀ d pos aft g, ∃ v L' w', R v L' ∧ Hp C.w0 C.M L' w' ∧
    ((execOp a.eval ⟨d, op, ty, pos, aft, g⟩).run C.P w = .ok (.value v) w' ∨ v = undef ∧ (execOp a.eval ⟨d, op, ty, pos, aft, g⟩).run C.P w = .ok .skip w')) : Step C F L op ty R := fun a w ha hw d pos aft g Kk Q hk => by
  obtain ⟨v, L', w', hR, hw', hr⟩ := h a w ha hw d pos aft g
  rcases hr with hr | ⟨rfl, hr⟩
  · refine wpIn_of_wp (nd_of_run hr (by simp)) ?_
    unfold Oper.wp; rw [hr]; exact hk v L' w' hR hw'
  · refine wpIn_of_wp (nd_of_run hr (by simp)) ?_
    unfold Oper.wp; rw [hr]; exact hk _ L' w' hR hw'
theorem DN {op : Op} {ty : TypeId} (f : FuncId) (args : Array Value) (m : List Bool) (M' : List Nat) (R : Value → List Ent → Prop)
  (hc : Cl C F L op ty f args) (hM : (take? m L).map Ent.b = M') (hct : ∀ w, Hp C.w0 C.M L w → Calls C.P f args w (Post w M' R)) :
  Step C F L op ty fun v L' => ∃ L'', R v L'' ∧ L' = rest? m L ++ L'' := fun a w ha hw d pos aft g Kk Q hk => by
 refine wpIn_of_wp (nd_of_run (hc a w ha hw d pos aft g) (by simp)) ?_
 unfold Oper.wp
 rw [hc a w ha hw]
 refine (hct w hw).mono ?_
 rintro e w' ⟨v, L', rfl, hR, hw'⟩
 exact hk v _ w' ⟨L', hR, rfl⟩ (hw.call hw' (perm_mask m L) hM)
theorem A1 {ops : Array Oper} {d : Option Tmp} {op : Op} {ty : TypeId} {pos : String} {aft : Array Edge} {R : Value → List Ent → Prop} (hs : Step C F L op ty R) (hd : (match d with | some d => Nat.blt d C.n | none => true) = true)
  (h : ∀ v L', R v L' → JL C Q ops l (match d with | some d => (d, v) :: F | none => F) L') : JL C Q ops (⟨d, op, ty, pos, aft, none⟩ :: l) F L := by
 intro a w ha hw
 refine wpListIn_plain rfl fun K hK => hs a w ha hw _ _ _ _ _ _ fun v L' w' hR hw' => hK _ _ ?_
 cases d with
 | none => exact h v L' hR _ _ ha hw'
 | some d => exact h v L' hR _ _ (ha.put v (by simpa [Nat.blt_eq] using hd)) hw'
theorem A7 {ops : Array Oper} {d : Option Tmp} {op : Op} {ty : TypeId} {pos : String} {aft : Array Edge} {b : Value} {M : List Ent} (hs : Step C F L op ty fun v L' => v = b ∧ L' = M) (hd : (match d with | some d => Nat.blt d C.n | none => true) = true)
    (h : JL C Q ops l (match d with | some d => (d, b) :: F | none => F) M) : JL C Q ops (⟨d, op, ty, pos, aft, none⟩ :: l) F L := A1 hs hd fun v L' hR => by
  obtain ⟨h1, h2⟩ := hR
  rw [h1, h2]; exact h
theorem EK {ops : Array Oper} {d : Option Tmp} {op : Op} {ty : TypeId} {pos : String} {aft : Array Edge} {R : Value → List Ent → Prop} (j s : Nat) (want b : Bool) (hj : (ops[j]?).bind (·.dst) = some s)
  (hs' : lk F s = some (.bool b)) (hb : b = want) (hs : Step C F L op ty R) (hd : (match d with | some d => Nat.blt d C.n | none => true) = true)
  (h : ∀ v L', R v L' → JL C Q ops l (match d with | some d => (d, v) :: F | none => F) L') : JL C Q ops (⟨d, op, ty, pos, aft, some (j, want)⟩ :: l) F L := by
 intro a w ha hw
 refine wpListIn_step fun K hK => ?_
 have hy : yielded ops a.tmps j = some want := by
  simp [yielded, hj, ha.2.2 s _ hs', hb]
 simp only [Region.wanted, hy, beq_self_eq_true, if_true]
 refine hs a w ha hw _ _ _ _ _ _ fun v L' w' hR hw' => hK _ _ ?_
 cases d with
 | none => exact h v L' hR _ _ ha hw'
 | some d => exact h v L' hR _ _ (ha.put v (by simpa [Nat.blt_eq] using hd)) hw'
def preds (ops : Array Oper) (i : Nat) : List Nat :=
 match ops[i]? with
 | some o => (o.after.toList.filter (Region.binds .any)).map (·.on)
 | none => []
def dstOf (ops : Array Oper) (i : Nat) : Option Nat := (ops[i]?).bind (·.dst)
abbrev Vals := List (Nat × Value)
def okb (ops : Array Oper) (i s : Nat) : Bool := (List.range ops.size).all fun j => match dstOf ops j with
 | some d => !(Nat.beq d s) || Nat.beq j i || (preds ops j).contains i
 | none => true
def predF (ops : Array Oper) (Vl : Vals) : List Nat → Frm
 | [] => []
 | j :: r => match dstOf ops j, lk Vl j with
  | some d, some v => (d, v) :: predF ops Vl r
  | _, _ => predF ops Vl r
def baseF (ops : Array Oper) (i : Nat) : Frm → Frm
 | [] => []
 | (s, v) :: r => bif okb ops i s then (s, v) :: baseF ops i r else baseF ops i r
def frmOf (ops : Array Oper) (Vl : Vals) (F0 : Frm) (i : Nat) : Frm := predF ops Vl (preds ops i) ++ baseF ops i F0
def Qok (C : Cx) (ops : Array Oper) (Q : Exit → Act → World → Prop) (F : Frm) (L : List Ent) (i : Nat) (v : Value) : Prop :=
 ∀ a w, Fr F C a → Hp C.w0 C.M L w → ∀ K : Act → World → Prop, K (a.put (dstOf ops i) v) w → wpOpIn (Fc C.rd) 0 C.P ops Q i K a w
def Cok (C : Cx) (ops : Array Oper) (Q : Exit → Act → World → Prop) (F : Frm) (L : List Ent) (i : Nat) (R : Value → List Ent → Prop) : Prop :=
 ∀ a w, Fr F C a → Hp C.w0 C.M L w → ∀ K : Act → World → Prop, (∀ v L' w', R v L' → Hp C.w0 C.M L' w' → K (a.put (dstOf ops i) v) w') → wpOpIn (Fc C.rd) 0 C.P ops Q i K a w
theorem AC {ops : Array Oper} {i : Nat} {d : Option Tmp} {op : Op} {ty : TypeId} {pos : String} {aft : Array Edge} {v : Value} (hi : ops[i]? = some ⟨d, op, ty, pos, aft, none⟩) (h : Ev C F L op ty v) : Qok C ops Q F L i v := fun a w ha hw K hk => by
 unfold wpOpIn
 rw [hi]
 simp only [Region.wanted, if_true]
 refine wpIn_of_wp (nd_of_run (h a w ha hw d pos aft _) (by simp)) ?_
 unfold Oper.wp
 rw [h a w ha hw]
 have h2 : K (a.put d v) w := by simpa [dstOf, hi] using hk
 exact h2
theorem A2 {F0 : Frm} {Vl : Vals} {ops : Array Oper} {i : Nat} {d : Option Tmp} {ty : TypeId} {pos : String} {aft : Array Edge} {v : Value} {x : Operand} (hv : lk Vl i = some v) (hi : ops[i]? = some ⟨d, .move x, ty, pos, aft, none⟩) (hx : ev (frmOf ops Vl F0 i) x = some v) : ∃ v, lk Vl i = some v ∧ Qok C ops Q (frmOf ops Vl F0 i) L i v := ⟨v, hv, AC hi (AH hx)⟩
theorem DK {ops : Array Oper} {i : Nat} {d : Option Tmp} {op : Op} {ty : TypeId} {pos : String} {aft : Array Edge} {v : Value} (j s : Nat) (want b : Bool) (hi : ops[i]? = some ⟨d, op, ty, pos, aft, some (j, want)⟩)
  (hj : (ops[j]?).bind (·.dst) = some s) (hs : lk F s = some (.bool b)) (hb : b = want) (h : Ev C F L op ty v) : Qok C ops Q F L i v := fun a w ha hw K hk => by
 have hy : yielded ops a.tmps j = some want := by
  simp [yielded, hj, ha.2.2 s _ hs, hb]
 unfold wpOpIn
 rw [hi]
 simp only [Region.wanted, hy, beq_self_eq_true, if_true]
 refine wpIn_of_wp (nd_of_run (h a w ha hw d pos aft _) (by simp)) ?_
 unfold Oper.wp
 rw [h a w ha hw]
 have h2 : K (a.put d v) w := by simpa [dstOf, hi] using hk
 exact h2
theorem DM {ops : Array Oper} {i : Nat} {d : Option Tmp} {op : Op} {ty : TypeId} {pos : String} {aft : Array Edge} (j s : Nat) (want b : Bool) (hi : ops[i]? = some ⟨d, op, ty, pos, aft, some (j, want)⟩)
  (hj : (ops[j]?).bind (·.dst) = some s) (hs : lk F s = some (.bool b)) (hb : b = !want) : Qok C ops Q F L i undef := fun a w ha hw K hk => by
 have hy : yielded ops a.tmps j = some (!want) := by
  simp [yielded, hj, ha.2.2 s _ hs, hb]
 have hn : Region.wanted ⟨d, op, ty, pos, aft, some (j, want)⟩ (yielded ops a.tmps) = false := by
  cases want <;> simp [Region.wanted, hy]
 unfold wpOpIn
 rw [hi]
 simp only [hn]
 exact ⟨fun _ _ => trivial, by simpa [dstOf, hi] using hk⟩
theorem AZ {ops : Array Oper} {i : Nat} {d : Option Tmp} {op : Op} {ty : TypeId} {pos : String} {aft : Array Edge} {R : Value → List Ent → Prop} (hi : ops[i]? = some ⟨d, op, ty, pos, aft, none⟩) (h : Step C F L op ty R) : Cok C ops Q F L i R := fun a w ha hw K hk => by
 unfold wpOpIn
 rw [hi]
 simp only [Region.wanted, if_true]
 refine (h a w ha hw _ _ _ _ _ _ fun v L' w' hR hw' => ?_)
 have := hk v L' w' hR hw'
 simpa [dstOf, hi] using this
theorem Cok_gstep {ops : Array Oper} {i : Nat} {d : Option Tmp} {op : Op} {ty : TypeId} {pos : String} {aft : Array Edge} {R : Value → List Ent → Prop} (j s : Nat) (want b : Bool) (hi : ops[i]? = some ⟨d, op, ty, pos, aft, some (j, want)⟩)
  (hj : (ops[j]?).bind (·.dst) = some s) (hs : lk F s = some (.bool b)) (hb : b = want) (h : Step C F L op ty R) : Cok C ops Q F L i R := fun a w ha hw K hk => by
 have hy : yielded ops a.tmps j = some want := by
  simp [yielded, hj, ha.2.2 s _ hs, hb]
 unfold wpOpIn
 rw [hi]
 simp only [Region.wanted, hy, beq_self_eq_true, if_true]
 refine (h a w ha hw _ _ _ _ _ _ fun v L' w' hR hw' => ?_)
 have := hk v L' w' hR hw'
 simpa [dstOf, hi] using this
structure Ph where
 pre : List Nat
 av : List Nat
 mu : List Nat
 q : List Nat
 cs : List Nat
def Ph.chk (ops : Array Oper) (p : Ph) : Bool :=
 ((List.range ops.size).all fun i => p.pre.contains i || p.av.contains i || p.cs.contains i || (preds ops i).any fun j => !(p.pre.contains j || p.av.contains j)) &&
 (p.mu.all fun i => (p.pre ++ p.mu).any fun j => Nat.blt i j && (preds ops j).contains i) &&
 (p.cs.all fun c => !p.pre.contains c && !p.av.contains c && Nat.blt c ops.size) &&
 (p.av.all fun i => p.mu.contains i || p.q.contains i)
def chk0 (ops : Array Oper) (n : Nat) : Bool :=
 ((List.range ops.size).all fun i => match dstOf ops i with | some d => Nat.blt d n | none => true) &&
 ((List.range ops.size).all fun i => (preds ops i).all fun j => Nat.blt j i) &&
 ((List.range ops.size).all fun i => (List.range i).all fun j => match dstOf ops i, dstOf ops j with
  | some d, some e => !Nat.beq d e
  | _, _ => true)
def QAll (C : Cx) (ops : Array Oper) (Q : Exit → Act → World → Prop) (F0 : Frm) (Vl : Vals) (L : List Ent) : List Nat → Prop
 | [] => True
 | i :: r => (∃ v, lk Vl i = some v ∧ Qok C ops Q (frmOf ops Vl F0 i) L i v) ∧ QAll C ops Q F0 Vl L r
def endF (ops : Array Oper) (Vl : Vals) (F0 : Frm) : Frm := predF ops Vl (List.range ops.size) ++ baseF ops ops.size F0
def DP (C : Cx) (ops : Array Oper) (Q : Exit → Act → World → Prop) (F0 : Frm) : Nat → List Nat → List Nat → Vals → List Ent → Prop
 | 0, _, _, _, _ => False
 | k + 1, pre, av, Vl, L => ∃ p : Ph, p.pre = pre ∧ (av.all fun i => p.av.contains i) = true ∧ p.chk ops = true ∧ QAll C ops Q F0 Vl L p.q ∧ (p.cs = [] → JQ C Q .normal (endF ops Vl F0) L) ∧
  ∀ c ∈ p.cs, (lk Vl c).isNone = true ∧ ∃ R, Cok C ops Q (frmOf ops Vl F0 c) L c R ∧ ∀ v L', R v L' → ∃ ex, DP C ops Q F0 k (pre ++ [c]) p.av (Vl ++ (c, v) :: ex) L'
theorem lk_append : ∀ (A B : Frm) (s : Nat), lk (A ++ B) s = (lk A s).or (lk B s)
 | [], B, s => by simp [lk]
 | (i, v) :: A, B, s => by
  simp only [List.cons_append, lk]
  cases Nat.beq i s <;> simp [lk_append A B s]
theorem lk_base (ops : Array Oper) (i : Nat) : ∀ (F : Frm) (s : Nat) (v : Value), lk (baseF ops i F) s = some v → okb ops i s = true ∧ lk F s = some v
 | [], s, v, h => by simp [baseF, lk] at h
 | (j, u) :: F, s, v, h => by
  simp only [baseF] at h
  cases ho : okb ops i j with
  | true =>
   rw [ho] at h
   simp only [cond_true, lk] at h ⊢
   cases hb : Nat.beq j s with
   | true =>
    rw [hb] at h
    obtain rfl := Nat.eq_of_beq_eq_true hb
    exact ⟨ho, by simpa using h⟩
   | false => rw [hb] at h; simpa using lk_base ops i F s v h
  | false =>
   rw [ho] at h
   simp only [cond_false] at h
   obtain ⟨h1, h2⟩ := lk_base ops i F s v h
   refine ⟨h1, ?_⟩
   simp only [lk]
   cases hb : Nat.beq j s with
   | true => obtain rfl := Nat.eq_of_beq_eq_true hb; rw [h1] at ho; cases ho
   | false => simpa using h2
theorem lk_pred (ops : Array Oper) (Vl : Vals) : ∀ (js : List Nat) (s : Nat) (v : Value), lk (predF ops Vl js) s = some v → ∃ j ∈ js, dstOf ops j = some s ∧ lk Vl j = some v
 | [], s, v, h => by simp [predF, lk] at h
 | j :: js, s, v, h => by
  simp only [predF] at h
  cases hd : dstOf ops j with
  | none => rw [hd] at h; obtain ⟨k, hk, h2⟩ := lk_pred ops Vl js s v h; exact ⟨k, List.mem_cons_of_mem _ hk, h2⟩
  | some d =>
   cases hv : lk Vl j with
   | none => rw [hd, hv] at h; obtain ⟨k, hk, h2⟩ := lk_pred ops Vl js s v h; exact ⟨k, List.mem_cons_of_mem _ hk, h2⟩
   | some u =>
    rw [hd, hv] at h
    simp only [lk] at h
    cases hb : Nat.beq d s with
    | true =>
     rw [hb] at h
     obtain rfl := Nat.eq_of_beq_eq_true hb
     simp at h; subst h
     exact ⟨j, by simp, hd, hv⟩
    | false => rw [hb] at h; obtain ⟨k, hk, h2⟩ := lk_pred ops Vl js s v h; exact ⟨k, List.mem_cons_of_mem _ hk, h2⟩
structure Mid (C : Cx) (ops : Array Oper) (F0 : Frm) (p : Ph) (Vl : Vals) (L : List Ent) (li : Array Bool) (a : Act) (w : World) : Prop where
 size : li.size = ops.size
 closed : ∀ j, li[j]? = some true → ∀ k ∈ preds ops j, li[k]? = some true
 pre : ∀ c ∈ p.pre, li[c]? = some true
 ex : ∀ j, li[j]? = some true → j ∈ p.pre ∨ j ∈ p.av
 df : a.defers = C.df
 n : a.tmps.size = C.n
 vals : ∀ j, li[j]? = some true → ∀ d, dstOf ops j = some d → ∃ v, lk Vl j = some v ∧ a.tmps[d]? = some v
 base : ∀ s v, lk F0 s = some v → (∀ j, li[j]? = some true → dstOf ops j ≠ some s) → a.tmps[s]? = some v
 heap : Hp C.w0 C.M L w
theorem ready_spec {ops : Array Oper} {li : Array Bool} {i : Nat} (h : i ∈ Region.ready .any ops li) : i < ops.size ∧ li[i]? = some false ∧ ∀ j ∈ preds ops i, li[j]? = some true := by
  simp only [Region.ready, List.mem_filter, List.mem_range, Bool.and_eq_true, Bool.not_eq_true'] at h
  obtain ⟨h1, h2, h3⟩ := h
  refine ⟨h1, ?_, fun j hj => ?_⟩
  · rw [Array.getD_eq_getD_getElem?] at h2
    cases hx : li[i]? with
    | none => rw [hx] at h2; simp at h2
    | some b => rw [hx] at h2; simp at h2; rw [h2]
  · unfold preds at hj
    cases ho : ops[i]? with
    | none => rw [ho] at hj; simp at hj
    | some o =>
      rw [ho] at hj h3
      simp only [List.mem_map, List.mem_filter] at hj
      obtain ⟨e, ⟨he, hb⟩, rfl⟩ := hj
      simp only [Option.map_some, Option.getD_some, Array.all_eq_true_iff_forall_mem] at h3
      have := h3 e (Array.mem_toList_iff.1 he)
      simp only [hb, Bool.not_true, Bool.false_or] at this
      rw [Array.getD_eq_getD_getElem?] at this
      cases hx : li[e.on]? with
      | none => rw [hx] at this; simp at this
      | some b => rw [hx] at this; simp at this; rw [this]
theorem ready_of {ops : Array Oper} {li : Array Bool} {i : Nat} (h1 : i < ops.size) (h2 : li[i]? = some false) (h3 : ∀ j ∈ preds ops i, li[j]? = some true) : i ∈ Region.ready .any ops li := by
  simp only [Region.ready, List.mem_filter, List.mem_range, Bool.and_eq_true, Bool.not_eq_true']
  refine ⟨h1, ?_, ?_⟩
  · rw [Array.getD_eq_getD_getElem?, h2]; rfl
  · rw [Array.getElem?_eq_getElem h1]
    simp only [Option.map_some, Option.getD_some, Array.all_eq_true_iff_forall_mem]
    intro e he
    cases hb : Region.binds .any e with
    | false => rfl
    | true =>
      have := h3 e.on (by
        unfold preds
        rw [Array.getElem?_eq_getElem h1]
        exact List.mem_map.2 ⟨e, List.mem_filter.2 ⟨Array.mem_toList_iff.2 he, hb⟩, rfl⟩)
      simp [Array.getD_eq_getD_getElem?, this]
def cnt : List Bool → Nat
 | [] => 0
 | b :: l => (if b then 0 else 1) + cnt l
theorem cnt_set : ∀ (l : List Bool) (i : Nat), l[i]? = some false → cnt (l.set i true) + 1 = cnt l
 | [], i, h => by simp at h
 | b :: l, 0, h => by simp at h; subst h; simp [cnt]; omega
 | b :: l, i + 1, h => by
  have := cnt_set l i (by simpa using h)
  simp only [List.set_cons_succ, cnt]; omega
theorem cnt_zero : ∀ (l : List Bool), cnt l = 0 → ∀ (i : Nat) (b : Bool), l[i]? = some b → b = true
 | [], _, i, b, h => by simp at h
 | c :: l, hc, i, b, h => by
  simp only [cnt] at hc
  cases c with
  | false => simp at hc
  | true =>
   cases i with
   | zero => simpa using h.symm
   | succ i => exact cnt_zero l (by simpa using hc) i b (by simpa using h)
theorem chk0_lt {ops : Array Oper} {n : Nat} (h : chk0 ops n = true) {i j : Nat} (hj : j ∈ preds ops i) : j < i ∧ i < ops.size := by
 have hi : i < ops.size := by
  unfold preds at hj
  cases ho : ops[i]? with
  | none => rw [ho] at hj; simp at hj
  | some o => exact (Array.getElem?_eq_some_iff.1 ho).1
 simp only [chk0, Bool.and_eq_true, List.all_eq_true, List.mem_range] at h
 have := h.1.2 i hi j hj
 exact ⟨by simpa [Nat.blt_eq] using this, hi⟩
theorem dst_lt {ops : Array Oper} {i d : Nat} (h : dstOf ops i = some d) : i < ops.size := by
 unfold dstOf at h
 cases ho : ops[i]? with
 | none => rw [ho] at h; simp at h
 | some o => exact (Array.getElem?_eq_some_iff.1 ho).1
theorem chk0_n {ops : Array Oper} {n : Nat} (h : chk0 ops n = true) {i d : Nat} (hd : dstOf ops i = some d) : d < n := by
 simp only [chk0, Bool.and_eq_true, List.all_eq_true, List.mem_range] at h
 have := h.1.1 i (dst_lt hd)
 rw [hd] at this
 simpa [Nat.blt_eq] using this
theorem chk0_inj {ops : Array Oper} {n : Nat} (h : chk0 ops n = true) {i j d : Nat} (hi : dstOf ops i = some d) (hj : dstOf ops j = some d) : i = j := by
 simp only [chk0, Bool.and_eq_true, List.all_eq_true, List.mem_range] at h
 have key : ∀ i j, dstOf ops i = some d → dstOf ops j = some d → ¬ j < i := fun i j hi hj hlt => by
  have := h.2 i (dst_lt hi) j hlt
  rw [hi, hj] at this
  simp [Nat.beq_refl] at this
 have h1 := key i j hi hj
 have h2 := key j i hj hi
 omega
section
variable {ops : Array Oper} {F0 : Frm} {p : Ph} {Vl : Vals} {li : Array Bool} {a : Act} {w : World}
theorem Mid.frm (h : Mid C ops F0 p Vl L li a w) {i : Nat} (hi : i ∈ Region.ready .any ops li) : Fr (frmOf ops Vl F0 i) C a := by
  obtain ⟨h1, h2, h3⟩ := ready_spec hi
  refine ⟨h.df, h.n, fun s v hs => ?_⟩
  unfold frmOf at hs
  rw [lk_append] at hs
  cases hp : lk (predF ops Vl (preds ops i)) s with
  | some u =>
    rw [hp] at hs
    simp at hs; subst hs
    obtain ⟨j, hj, hd, hv⟩ := lk_pred _ _ _ _ _ hp
    obtain ⟨v', hv', ht⟩ := h.vals j (h3 j hj) s hd
    rw [hv] at hv'; cases hv'; exact ht
  | none =>
    rw [hp] at hs
    simp at hs
    obtain ⟨ho, hb⟩ := lk_base _ _ _ _ _ hs
    refine h.base s v hb fun j hj hd => ?_
    simp only [okb, List.all_eq_true, List.mem_range] at ho
    have := ho j (dst_lt hd)
    rw [hd] at this
    simp only [Nat.beq_refl, Bool.not_true, Bool.false_or, Bool.or_eq_true, List.contains_iff_mem] at this
    rcases this with h4 | h4
    · obtain rfl := Nat.eq_of_beq_eq_true h4; rw [h2] at hj; cases hj
    · have := h.closed j hj i h4; rw [h2] at this; cases this
theorem Mid.must (h : Mid C ops F0 p Vl L li a w) (hc : p.chk ops = true) {n : Nat} (h0 : chk0 ops n = true) {i : Nat} (hi : i ∈ p.mu) : li[i]? = some true := by
  simp only [Ph.chk, Bool.and_eq_true, List.all_eq_true] at hc
  have hmu := hc.1.1.2
  have key : ∀ m i, ops.size ≤ i + m → i ∈ p.mu → li[i]? = some true := by
    intro m
    induction m with
    | zero =>
      intro i hm hi
      obtain ⟨j, hj, hb⟩ := List.any_eq_true.1 (hmu i hi)
      simp only [Bool.and_eq_true, List.contains_iff_mem] at hb
      have := chk0_lt h0 hb.2; omega
    | succ m ih =>
      intro i hm hi
      obtain ⟨j, hj, hb⟩ := List.any_eq_true.1 (hmu i hi)
      simp only [Bool.and_eq_true, List.contains_iff_mem] at hb
      have hlt := chk0_lt h0 hb.2
      have hjl : li[j]? = some true := by
        rcases List.mem_append.1 hj with h1 | h1
        · exact h.pre j h1
        · exact ih j (by omega) h1
      exact h.closed j hjl i hb.2
  exact key ops.size i (by omega) hi
theorem Mid.put (h : Mid C ops F0 p Vl L li a w) (h0 : chk0 ops C.n = true) {i : Nat} (hi : i ∈ Region.ready .any ops li) {p' : Ph} {Vl' : Vals} {L' : List Ent} {w' : World} {u : Value}
    (hV : ∀ j v, lk Vl j = some v → lk Vl' j = some v) (hu : lk Vl' i = some u) (hpre : ∀ c ∈ p'.pre, c ∈ p.pre ∨ c = i) (hex : ∀ j, j ∈ p.pre ∨ j ∈ p.av → j ∈ p'.pre ∨ j ∈ p'.av) (hiex : i ∈ p'.pre ∨ i ∈ p'.av)
    (hw : Hp C.w0 C.M L' w') : Mid C ops F0 p' Vl' L' (li.setIfInBounds i true) (a.put (dstOf ops i) u) w' := by
  obtain ⟨h1, h2, h3⟩ := ready_spec hi
  have hil : i < li.size := by rw [h.size]; exact h1
  have hset : ∀ j, (li.setIfInBounds i true)[j]? = some true ↔ j = i ∨ li[j]? = some true := fun j => by
    rw [Array.getElem?_setIfInBounds]
    by_cases hji : i = j
    · subst hji; simp [hil]
    · simp [hji, Ne.symm hji]
  refine ⟨by simp [h.size], fun j hj k hk => ?_, fun c hc => ?_, fun j hj => ?_, ?_, ?_, fun j hj d hd => ?_, fun s v hs hn => ?_, hw⟩
  · rw [hset]
    rcases (hset j).1 hj with rfl | hj
    · exact .inr (h3 k hk)
    · exact .inr (h.closed j hj k hk)
  · rw [hset]
    rcases hpre c hc with h4 | h4
    · exact .inr (h.pre c h4)
    · exact .inl h4
  · rcases (hset j).1 hj with rfl | hj
    · exact hiex
    · exact hex j (h.ex j hj)
  · cases dstOf ops i <;> simp [Act.put, h.df]
  · cases dstOf ops i <;> simp [Act.put, h.n]
  · by_cases hji : j = i
    · subst hji
      refine ⟨u, hu, ?_⟩
      rw [hd]
      simp [Act.put, h.n, chk0_n h0 hd]
    · have hjl : li[j]? = some true := ((hset j).1 hj).resolve_left hji
      obtain ⟨v, hv, ht⟩ := h.vals j hjl d hd
      refine ⟨v, hV j v hv, ?_⟩
      cases hdi : dstOf ops i with
      | none => simpa [Act.put] using ht
      | some e =>
        have hne : e ≠ d := fun he => hji (chk0_inj h0 hd (he ▸ hdi))
        simp only [Act.put]
        rw [Array.getElem?_setIfInBounds_ne hne]; exact ht
  · have hb := h.base s v hs fun j hj => hn j ((hset j).2 (.inr hj))
    have hns := hn i ((hset i).2 (.inl rfl))
    cases hdi : dstOf ops i with
    | none => simpa [Act.put] using hb
    | some e =>
      have hne : e ≠ s := fun he => hns (he ▸ hdi)
      simp only [Act.put]
      rw [Array.getElem?_setIfInBounds_ne hne]; exact hb
theorem QAll.get : ∀ {q : List Nat}, QAll C ops Q F0 Vl L q → ∀ i ∈ q, ∃ v, lk Vl i = some v ∧ Qok C ops Q (frmOf ops Vl F0 i) L i v
  | [], _, i, hi => by simp at hi
  | j :: r, h, i, hi => by
    rcases List.mem_cons.1 hi with rfl | hi
    · exact h.1
    · exact h.2.get i hi
theorem wpAny_of_DP (h0 : chk0 ops C.n = true) : ∀ (fuel : Nat) (k : Nat) (p0 : Ph) (pre av : List Nat) (Vl : Vals) (L : List Ent) (li : Array Bool) (a : Act) (w : World), cnt li.toList ≤ fuel →
    p0.pre = pre → p0.av = av → Mid C ops F0 p0 Vl L li a w → DP C ops Q F0 k pre av Vl L → wpAnyIn (Fc C.rd) 0 C.P .any ops Q fuel li a w := by
  intro fuel
  have hdone : ∀ (k : Nat) (p : Ph) (Vl : Vals) (L : List Ent) (li : Array Bool) (a : Act) (w : World), Mid C ops F0 p Vl L li a w → p.chk ops = true → (p.cs = [] → JQ C Q .normal (endF ops Vl F0) L) → Region.ready .any ops li = [] → Q .normal a w := by
    intro k p Vl L li a w hm hc hd hr
    have hall : ∀ m i, i < m → i < ops.size → li[i]? = some true := by
      intro m
      induction m with
      | zero => intro i h; omega
      | succ m ih =>
        intro i him hi
        cases hx : li[i]? with
        | none => have := Array.getElem?_eq_none_iff.1 hx; rw [hm.size] at this; omega
        | some b =>
          cases b with
          | true => rfl
          | false =>
            have := ready_of hi hx fun j hj => ih j (by have := (chk0_lt h0 hj).1; omega) (by have := chk0_lt h0 hj; omega)
            rw [hr] at this; simp at this
    cases hpc : p.cs with
    | cons c cs =>
      exfalso
      simp only [Ph.chk, Bool.and_eq_true, List.all_eq_true, Bool.not_eq_true'] at hc
      have hcc := hc.1.2 c (by rw [hpc]; simp)
      have hcs : c < ops.size := by simpa [Nat.blt_eq] using hcc.2
      rcases hm.ex c (hall _ c (Nat.lt_succ_self c) hcs) with h1 | h1
      · have := hcc.1.1; rw [← Bool.not_eq_true, List.contains_iff_mem] at this; exact this h1
      · have := hcc.1.2; rw [← Bool.not_eq_true, List.contains_iff_mem] at this; exact this h1
    | nil =>
      refine hd hpc a w ⟨hm.df, hm.n, fun s v hs => ?_⟩ hm.heap
      unfold endF at hs
      rw [lk_append] at hs
      cases hp : lk (predF ops Vl (List.range ops.size)) s with
      | some u =>
        rw [hp] at hs
        simp at hs; subst hs
        obtain ⟨j, hj, hd, hv⟩ := lk_pred _ _ _ _ _ hp
        obtain ⟨v', hv', ht⟩ := hm.vals j (hall _ j (Nat.lt_succ_self j) (by simpa using hj)) s hd
        rw [hv] at hv'; cases hv'; exact ht
      | none =>
        rw [hp] at hs
        simp at hs
        obtain ⟨ho, hb⟩ := lk_base _ _ _ _ _ hs
        refine hm.base s v hb fun j hj hd => ?_
        simp only [okb, List.all_eq_true, List.mem_range] at ho
        have hjs := dst_lt hd
        have := ho j hjs
        rw [hd] at this
        simp only [Nat.beq_refl, Bool.not_true, Bool.false_or, Bool.or_eq_true, List.contains_iff_mem] at this
        rcases this with h4 | h4
        · have := Nat.eq_of_beq_eq_true h4; omega
        · have := chk0_lt h0 h4; omega
  have hin : ∀ {p0 p : Ph} {pre av : List Nat} {Vl : Vals} {L : List Ent} {li : Array Bool} {a : Act} {w : World}, p0.pre = pre → p0.av = av → p.pre = pre → (av.all fun i => p.av.contains i) = true → Mid C ops F0 p0 Vl L li a w → Mid C ops F0 p Vl L li a w := by
    intro p0 p pre av Vl L li a w h1 h2 h3 h4 hm
    refine ⟨hm.size, hm.closed, fun c hc => hm.pre c (by rw [h1, ← h3]; exact hc), fun j hj => ?_, hm.df, hm.n, hm.vals, hm.base, hm.heap⟩
    rcases hm.ex j hj with h5 | h5
    · exact .inl (by rw [h3, ← h1]; exact h5)
    · rw [h2] at h5
      simp only [List.all_eq_true, List.contains_iff_mem] at h4
      exact .inr (h4 j h5)
  induction fuel with
  | zero =>
    intro k p0 pre av Vl L li a w hf e1 e2 hm hd
    have hr : Region.ready .any ops li = [] := by
      rw [List.eq_nil_iff_forall_not_mem]
      intro i hi
      obtain ⟨h1, h2, h3⟩ := ready_spec hi
      have := cnt_zero li.toList (by omega) i false (by simpa using h2)
      cases this
    cases k with
    | zero => exact hd.elim
    | succ k =>
      obtain ⟨p, hp, hav, hc, _, he, _⟩ := hd
      exact ⟨hr, hdone k p Vl L li a w (hin e1 e2 hp hav hm) hc he hr⟩
  | succ fuel ih =>
    intro k p0 pre av Vl L li a w hf e1 e2 hm hd
    cases k with
    | zero => exact hd.elim
    | succ k =>
    obtain ⟨p, hp, hav, hc, hq, he, hd⟩ := hd
    replace hm := hin e1 e2 hp hav hm
    refine ⟨hdone k p Vl L li a w hm hc he, fun i hi => ?_⟩
    have hfr := hm.frm hi
    obtain ⟨h1, h2, h3⟩ := ready_spec hi
    have hcnt : cnt (li.setIfInBounds i true).toList ≤ fuel := by
      have := cnt_set li.toList i (by simpa using h2)
      rw [Array.toList_setIfInBounds]; omega
    have hc' := hc
    simp only [Ph.chk, Bool.and_eq_true, List.all_eq_true, List.mem_range] at hc
    by_cases hic : i ∈ p.cs
    · -- one of the chain's next
      obtain ⟨hVn, R, hR, hk⟩ := hd i hic
      refine hR a w hfr hm.heap _ fun v L' w' hv hw' => ?_
      obtain ⟨ex, hD⟩ := hk v L' hv
      have hVn : lk Vl i = none := by simpa using hVn
      have hVi : lk (Vl ++ (i, v) :: ex) i = some v := by rw [lk_append, hVn]; simp [lk, Nat.beq_refl]
      refine ih k ⟨pre ++ [i], p.av, [], [], []⟩ (pre ++ [i]) p.av _ L' _ _ w' hcnt rfl rfl (hm.put h0 hi (fun j u hj => by rw [lk_append, hj]; rfl) hVi (fun c hc => ?_) (fun j hj => ?_) ?_ hw') hD
      · rcases List.mem_append.1 hc with h4 | h4
        · exact .inl (by rw [hp]; exact h4)
        · exact .inr (by simpa using h4)
      · rcases hj with h4 | h4
        · exact .inl (by rw [← hp]; exact List.mem_append.2 (.inl h4))
        · exact .inr h4
      · exact .inl (List.mem_append.2 (.inr (by simp)))
    · have hav : i ∈ p.av := by
        have := hc.1.1.1 i h1
        simp only [Bool.or_eq_true, List.contains_iff_mem, List.any_eq_true, Bool.not_eq_true'] at this
        rcases this with ((h4 | h4) | h4) | h4
        · have := hm.pre i h4; rw [h2] at this; cases this
        · exact h4
        · exact absurd h4 hic
        · obtain ⟨j, hj, hn⟩ := h4
          exfalso
          simp only [Bool.or_eq_false_iff] at hn
          rcases hm.ex j (h3 j hj) with h5 | h5
          · have := hn.1; rw [← Bool.not_eq_true, List.contains_iff_mem] at this; exact this h5
          · have := hn.2; rw [← Bool.not_eq_true, List.contains_iff_mem] at this; exact this h5
      have hqi : i ∈ p.q := by
        have := hc.2 i hav
        simp only [Bool.or_eq_true, List.contains_iff_mem] at this
        rcases this with h4 | h4
        · have := hm.must hc' h0 h4; rw [h2] at this; cases this
        · exact h4
      obtain ⟨v, hv, hQ⟩ := hq.get i hqi
      have hd1 : DP C ops Q F0 (k + 1) pre p.av Vl L := ⟨p, hp, by simp, hc', hq, he, hd⟩
      exact hQ a w hfr hm.heap _ (ih (k + 1) p pre p.av Vl L _ _ w hcnt hp rfl (hm.put h0 hi (fun _ _ h => h) hv (fun c hc => .inl hc) (fun _ h => h) (.inr hav) hm.heap) hd1)
end
theorem C1 {id : Nat} {l : List Oper} (n k : Nat) (Vl : Vals) (hm : C.P.follows .mixedOrders = true) (hn : C.n = n) (h0 : chk0 l.toArray n = true) (h : DP C l.toArray Q F k [] [] Vl L) : JC C Q (.region id l.toArray true) F L := by
  subst hn
  intro a w ha hw
  refine wpIn_region_any hm (wpAny_of_DP h0 _ k ⟨[], [], [], [], []⟩ [] [] Vl L _ a _ ?_ rfl rfl ?_ h)
  · have : ∀ m, cnt (List.replicate m false) = m := by
      intro m; induction m with
      | zero => rfl
      | succ m ih => simp only [List.replicate_succ, cnt, ih]; simp; omega
    rw [Array.toList_replicate, this]; exact Nat.le_refl _
  · refine ⟨by simp, fun j hj => ?_, fun c hc => by simp at hc, fun j hj => ?_, ha.1, ha.2.1, fun j hj => ?_, fun s v hs _ => ha.2.2 s v hs, hw.drewN _⟩
    all_goals
      rw [Array.getElem?_replicate] at hj
      split at hj <;> simp at hj
end Go.Sx
namespace Go.Sx
open Go Go.RowKit
variable {C : Cx} {F : Frm} {L : List Ent} {Q : Exit → Act → World → Prop} {ops : Array Oper} {F0 : Frm} {Vl : Vals}
theorem C4 {k : Nat} {pre av : List Nat} (p : Ph) (hp : p.pre = pre) (ha : (av.all fun i => p.av.contains i) = true) (hc : p.chk ops = true) (hcs : p.cs = []) (hq : QAll C ops Q F0 Vl L p.q)
  (h : JQ C Q .normal (endF ops Vl F0) L) : DP C ops Q F0 (k + 1) pre av Vl L :=
 ⟨p, hp, ha, hc, hq, fun _ => h, fun c h => by rw [hcs] at h; simp at h⟩
theorem CR {k : Nat} {pre av : List Nat} (p : Ph) (c : Nat) (R : Value → List Ent → Prop) (hp : p.pre = pre) (ha : (av.all fun i => p.av.contains i) = true) (hc : p.chk ops = true) (hcs : p.cs = [c]) (hq : QAll C ops Q F0 Vl L p.q)
  (hV : (lk Vl c).isNone = true) (hR : Cok C ops Q (frmOf ops Vl F0 c) L c R) (h : ∀ v L', R v L' → ∃ ex, DP C ops Q F0 k (pre ++ [c]) p.av (Vl ++ (c, v) :: ex) L') : DP C ops Q F0 (k + 1) pre av Vl L :=
 ⟨p, hp, ha, hc, hq, fun h => by rw [hcs] at h; simp at h, fun c' h' => by
  rw [hcs] at h'
  obtain rfl : c' = c := by simpa using h'
  exact ⟨hV, R, hR, h⟩⟩
theorem CQ {k : Nat} {pre av : List Nat} {b : Value} {M : List Ent} (p : Ph) (c : Nat) (hp : p.pre = pre) (ha : (av.all fun i => p.av.contains i) = true) (hc : p.chk ops = true) (hcs : p.cs = [c]) (hq : QAll C ops Q F0 Vl L p.q)
    (hV : (lk Vl c).isNone = true) (hR : Cok C ops Q (frmOf ops Vl F0 c) L c fun v L' => v = b ∧ L' = M) (h : DP C ops Q F0 k (pre ++ [c]) p.av (Vl ++ (c, b) :: []) M) : DP C ops Q F0 (k + 1) pre av Vl L :=
  CR p c _ hp ha hc hcs hq hV hR fun v L' hR => by
    obtain ⟨h1, h2⟩ := hR
    rw [h1, h2]; exact ⟨[], h⟩
theorem DP_two {k : Nat} {pre av : List Nat} (p : Ph) (c d : Nat) (R S : Value → List Ent → Prop) (hp : p.pre = pre) (ha : (av.all fun i => p.av.contains i) = true) (hc : p.chk ops = true) (hcs : p.cs = [c, d]) (hq : QAll C ops Q F0 Vl L p.q)
    (hV : (lk Vl c).isNone = true) (hV' : (lk Vl d).isNone = true) (hR : Cok C ops Q (frmOf ops Vl F0 c) L c R) (hS : Cok C ops Q (frmOf ops Vl F0 d) L d S)
    (h : ∀ v L', R v L' → ∃ ex, DP C ops Q F0 k (pre ++ [c]) p.av (Vl ++ (c, v) :: ex) L') (h' : ∀ v L', S v L' → ∃ ex, DP C ops Q F0 k (pre ++ [d]) p.av (Vl ++ (d, v) :: ex) L') : DP C ops Q F0 (k + 1) pre av Vl L :=
  ⟨p, hp, ha, hc, hq, fun h => by rw [hcs] at h; simp at h, fun c' h0 => by
    rw [hcs] at h0
    rcases List.mem_cons.1 h0 with rfl | h0
    · exact ⟨hV, R, hR, h⟩
    · obtain rfl : c' = d := by simpa using h0
      exact ⟨hV', S, hS, h'⟩⟩
theorem DT {T : TypeId} {x y : Operand} {ty : TypeId} (i b off n : Nat) (cs : List Value) (T' : Nat) (v : Value) (vs cs' : List Value)
  (hi : L[i]? = some ⟨b, cs, T', (0, 0)⟩) (hx : ev F x = some (Ptr b off)) (hy : ev F y = some v) (hv : v.cells.toList = vs) (hS : ∀ w, (sizeOf T).run C.P w = .ok n w) (hn : vs.length = n)
  (h1 : ∀ u ∈ vs, u.oneCell' = true) (hle : off + n ≤ cs.length) (hcs : lay cs off vs = cs') :
  Step C F L (.store T x y) ty fun v L' => v = undef ∧ L' = L.set i ⟨b, cs', T', (0, 0)⟩ := Step_run fun a w ha hw d pos aft g => by
 have hE : w.heap[b]? = some (.cells cs.toArray T' (0, 0)) := hw.ent ⟨b, cs, T', (0, 0)⟩ (List.mem_of_getElem? hi)
 refine ⟨undef, _, w.setRow b cs'.toArray, ⟨rfl, rfl⟩, hw.setRow hi cs', .inr ⟨rfl, ?_⟩⟩
 have hst := run_storeCells_at C.P b off T' vs 0 cs.toArray w hE (by simpa [hn] using hle) h1
 have hsz : v.cells.size = n := by rw [← Array.length_toList, hv, hn]
 simp only [Nat.add_zero] at hst
 have hl : List.take off cs ++ vs ++ List.drop (off + vs.length) cs = cs' := hcs
 rw [hl] at hst
 simp [execOp, ha.ev hx, ha.ev hy, Instr.storeAt, Instr.sureAddr, storeVar, hS w, hsz, hv, hst]
theorem A5 {T : TypeId} {x y : Operand} {ty : TypeId} (i b n : Nat) (cs : List Value) (T' : Nat) (vs : List Value)
  (hi : L[i]? = some ⟨b, cs, T', (0, 0)⟩) (hx : ev F x = some (Ptr b 0)) (hy : ev F y = some (.agg vs.toArray)) (hS : ∀ w, (sizeOf T).run C.P w = .ok n w) (hn : vs.length = n)
  (h1 : ∀ u ∈ vs, u.oneCell' = true) (hle : 0 + n ≤ cs.length) (hcs : lay cs 0 vs = vs) :
  Step C F L (.store T x y) ty fun v L' => v = undef ∧ L' = L.set i ⟨b, vs, T', (0, 0)⟩ := DT i b 0 n cs T' (.agg vs.toArray) vs vs hi hx hy (by first | rfl | simp [Value.cells]) hS hn h1 hle hcs
theorem BG {T : TypeId} {ty : TypeId} (z : Value) (vs : List Value) (hz : ∀ w, (zeroValue T).run C.P w = .ok z w) (hv : z.cells.toList = vs) :
  Step C F L (.alloc T) ty fun v L' => ∃ nb, C.w0.heap.size ≤ nb ∧ v = Ptr nb 0 ∧ L' = L ++ [⟨nb, vs, T, (0, 0)⟩] := Step_run fun a w ha hw d pos aft g => by
 have : z.cells = vs.toArray := by rw [← hv]
 exact ⟨Ptr w.heap.size 0, _, w.alloc (.cells vs.toArray T), ⟨w.heap.size, hw.le, rfl, rfl⟩, hw.alloc vs T, .inl (by simp [execOp, Instr.alloc, hz w, newVar, newRow, newObj, Sem.run, this])⟩
theorem CW {T : TypeId} {x : Operand} {ty : TypeId} (v : Value) (vs : List Value) (hx : ev F x = some v) (hv : v.cells.toList = vs) :
  Step C F L (.box T x) ty fun v L' => ∃ nb, C.w0.heap.size ≤ nb ∧ v = Ptr nb 0 ∧ L' = L ++ [⟨nb, vs, T, (0, 0)⟩] := Step_run fun a w ha hw d pos aft g => by
 have : v.cells = vs.toArray := by rw [← hv]
 exact ⟨Ptr w.heap.size 0, _, w.alloc (.cells vs.toArray T), ⟨w.heap.size, hw.le, rfl, rfl⟩, hw.alloc vs T, .inl (by simp [execOp, Instr.box, ha.ev hx, newVar, newRow, newObj, Sem.run, this])⟩
theorem A3 {op : Op} {ty : TypeId} (f : FuncId) (args : List Value) (res : Value)
  (hc : Cl C F L op ty f args.toArray) (hct : ∀ w, Hp C.w0 C.M L w → Calls C.P f args.toArray w (Post w [] fun v L' => v = res ∧ L' = [])) :
  Step C F L op ty fun v L' => v = res ∧ L' = L := fun a w ha hw d pos aft g Kk Q hk =>
 DN f args.toArray [] [] _ hc (by simp [take?]) hct a w ha hw d pos aft g Kk Q (by
  rintro v L' w' ⟨L'', ⟨rfl, rfl⟩, rfl⟩ hw'
  exact hk _ _ w' ⟨rfl, by simp [rest?]⟩ hw')
theorem BI {op : Op} {ty : TypeId} (f : FuncId) (args : List Value) (R : Value → List Ent → Prop)
  (hc : Cl C F L op ty f args.toArray) (hct : ∀ w, Hp C.w0 C.M L w → Calls C.P f args.toArray w (Post w [] R)) :
  Step C F L op ty fun v L' => ∃ L'', R v L'' ∧ L' = L ++ L'' := fun a w ha hw d pos aft g Kk Q hk =>
 DN f args.toArray [] [] _ hc (by simp [take?]) hct a w ha hw d pos aft g Kk Q (by
  rintro v L' w' ⟨L'', hR, rfl⟩ hw'
  exact hk _ _ w' ⟨L'', hR, by simp [rest?]⟩ hw')
theorem B0 {T len : Nat} {parts : Array (Nat × Operand)} {ty : TypeId} (e s : Nat) (z : Value) (pv : List (Nat × Value)) (vs : List Value) (hu : C.P.underlying T = some (.slice e)) (hS : ∀ w, (sizeOf e).run C.P w = .ok s w)
  (hz : ∀ w, (zeroValue e).run C.P w = .ok z w) (hp : parts.toList.map (fun x => (x.1, ev F x.2)) = pv.map (fun x => (x.1, some x.2))) (hlen : Nat.ble (len * s) (2 ^ 24) = true) (h0 : Nat.beq (len * s) 0 = false)
  (hf : Instr.fill (fun i => some (i * s, s)) ((Array.range (len * s)).map (fun j => z.cells[j % z.cells.size]!)) pv = some vs.toArray) :
  Step C F L (.buildSlice T len parts) ty fun v L' => ∃ nb, C.w0.heap.size ≤ nb ∧ v = Slc nb 0 len len ∧ L' = L ++ [⟨nb, vs, e, (0, 0)⟩] := Step_run fun a w ha hw d pos aft g => by
 have hpv : (parts.map fun (i, x) => (i, a.eval x)).toList = pv := by
  rw [Array.toList_map]
  generalize parts.toList = l at hp
  clear hf
  induction l generalizing pv with
  | nil => cases pv <;> simp_all
  | cons o l ih =>
   cases pv with
   | nil => simp at hp
   | cons v pv =>
    simp only [List.map_cons, List.cons.injEq, Prod.mk.injEq] at hp
    obtain ⟨⟨h1, h2⟩, h3⟩ := hp
    simp only [List.map_cons, ih pv h3, h1, ha.ev h2]
 refine ⟨_, _, w.alloc (.cells vs.toArray e), ⟨w.heap.size, hw.le, rfl, rfl⟩, hw.alloc vs e, .inl ?_⟩
 have hne : ¬ len * s = 0 := Nat.ne_of_beq_eq_false h0
 have hle : ¬ len * s > 2 ^ 24 := by have := Nat.le_of_ble_eq_true hlen; omega
 simp only [execOp, Instr.buildSlice, hpv, Sem.run_bind, run_underlying hu, hS w, hz w, if_neg hne, if_neg hle, hf, Result.andThen, newRow, newObj, Sem.run, Sem.run_pure, pure]
 rfl
theorem FE {T : Nat} {ty : TypeId} (e s : Nat) (hu : C.P.underlying T = some (.slice e)) (hS : ∀ w, (sizeOf e).run C.P w = .ok s w) :
  Step C F L (.buildSlice T 0 #[]) ty fun v L' => ∃ nb, C.w0.heap.size ≤ nb ∧ v = Slc nb 0 0 0 ∧ L' = L ++ [⟨nb, [], e, (0, 0)⟩] := Step_run fun a w ha hw d pos aft g => by
 refine ⟨_, _, w.alloc (.cells #[] e), ⟨w.heap.size, hw.le, rfl, rfl⟩, hw.alloc [] e, .inl ?_⟩
 simp [execOp, Instr.buildSlice, run_underlying hu, hS w, Instr.fill, newRow, newObj, Sem.run]
 rw [show Array.range 0 = #[] from by simp [Array.range]]
 simp
theorem Hp.grown {w0 w w' : World} {M : List Nat} {L : List Ent} (h : Hp w0 M L w) (g' : Option Nat) (hg : w.grownBy w' g') {m : List Bool} (hm : ∀ b, g' = some b → ∃ e ∈ take? m L, e.b = b) {g : Nat} {cs : List Value} {T : Nat}
    (hn : w'.heap[g]? = some (.cells cs.toArray T (0, 0))) (hgn : w.heap.size ≤ g ∨ ∃ e ∈ take? m L, e.b = g) : Hp w0 M (rest? m L ++ [⟨g, cs, T, (0, 0)⟩]) w' := by
  have hp := perm_mask m L
  have hlt : ∀ x ∈ L, x.b < w.heap.size := fun x hx => (Array.getElem?_eq_some_iff.1 (h.ent x hx)).1
  have hnd : ((take? m L ++ rest? m L).map Ent.b).Nodup := (hp.map Ent.b).nodup_iff.1 h.nd
  rw [List.map_append, List.nodup_append] at hnd
  obtain ⟨hn0, hnr, hdis⟩ := hnd
  have hr : ∀ x ∈ rest? m L, x ∈ L := fun x hx => hp.mem_iff.2 (List.mem_append.2 (.inr hx))
  have h0 : ∀ x ∈ take? m L, x ∈ L := fun x hx => hp.mem_iff.2 (List.mem_append.2 (.inl hx))
  have hrg : ∀ x ∈ rest? m L, ∀ y ∈ take? m L, x.b ≠ y.b := fun x hx y hy he => hdis _ (List.mem_map_of_mem hy) _ (List.mem_map_of_mem hx) he.symm
  refine ⟨hg.os.trans h.os, hg.tape.trans h.tape, hg.output.trans h.output, Nat.le_trans h.le hg.size, fun k hk hM => ?_, fun x hx => ?_, ?_, fun x hx => ?_⟩
  · rw [hg.block k (by have := h.le; omega) (fun he => ?_)]; exact h.old k hk hM
    obtain ⟨e, hee, heb⟩ := hm k he.symm
    rcases h.own e (h0 e hee) with h1 | h1
    · exact hM (heb ▸ h1)
    · omega
  · rcases List.mem_append.1 hx with h1 | h1
    · rw [hg.block x.b (hlt x (hr x h1)) (fun he => ?_)]; exact h.ent x (hr x h1)
      obtain ⟨e, hee, heb⟩ := hm x.b he.symm
      exact hrg x h1 e hee heb.symm
    · simp at h1; subst h1; exact hn
  · rw [List.map_append, List.nodup_append]
    refine ⟨hnr, by simp, fun a ha c hc => ?_⟩
    simp at hc; subst hc
    obtain ⟨x, hx, rfl⟩ := List.mem_map.1 ha
    rcases hgn with h1 | ⟨e, hee, heb⟩
    · have := hlt x (hr x hx); omega
    · rw [← heb]; exact hrg x hx e hee
  · rcases List.mem_append.1 hx with h1 | h1
    · exact h.own x (hr x h1)
    · simp at h1; subst h1
      rcases hgn with h1 | ⟨e, hee, heb⟩
      · exact .inr (Nat.le_trans h.le h1)
      · have := h.own e (h0 e hee); rw [heb] at this; exact this
theorem info_of {P : Program} {e : Nat} {z : Value} {s by' : Nat} (h : (P.info? e).map (fun i => (i.zero, i.size, i.bytes)) = some (some z, s, by')) : ∃ i, P.info? e = some i ∧ i.zero = some z ∧ i.size = s ∧ i.bytes = by' := by
 cases hi : P.info? e with
 | none => rw [hi] at h; simp at h
 | some i => rw [hi] at h; simp at h; exact ⟨i, rfl, h.1, h.2.1, h.2.2⟩
def SrcAt (C : Cx) (L : List Ent) (ao : Option Addr) (vs : List Value) : Prop :=
 (ao = none → vs = []) ∧ ∀ a', ao = some a' → ∀ w, Hp C.w0 C.M L w → ∀ j u, vs[j]? = some u → w.cell? (a'.add j) = some u
theorem SrcAt.mem {b off : Nat} {vs : List Value} (h : MemAt C L b off vs) : SrcAt C L (some ⟨b, off, none⟩) vs :=
 ⟨fun h => by simp at h, fun a' ha w hw j u hj => by simp at ha; subst ha; rw [F1]; exact h w hw j u hj⟩
theorem SrcAt.nil {ao : Option Addr} : SrcAt C L ao [] := ⟨fun _ => rfl, fun _ _ _ _ j u hj => by simp at hj⟩
theorem Step_append {x y : Operand} {ty : TypeId} (t e s bytes : Nat) (z : Value) (m : List Bool) (v : Value) (n : Nat) (xs news : List Value) (ao : Option Addr) (k c : Nat)
    (hu : C.P.underlying t = some (.slice e)) (hi : (C.P.info? e).map (fun i => (i.zero, i.size, i.bytes)) = some (some z, s, bytes)) (hzs : z.cells.size = s) (hs0 : 0 < s)
    (hx : ev F x = some v)
    (hv : (v = .slice none 0 0 ∧ n = 0 ∧ xs = [] ∧ take? m L = [] ∧ 0 < k) ∨ (∃ g sp cap, v = Slc g 0 n cap ∧ take? m L = [⟨g, xs ++ sp, e, (0, 0)⟩] ∧ xs.length = n * s ∧ (xs ++ sp).length = cap * s ∧ n ≤ cap ∧ cap ≤ maxLen))
    (hy : ev F y = some (.slice ao k c)) (hk : news.length = k * s) (hm : SrcAt C L ao news) (h1 : ∀ u ∈ news, u.oneCell' = true) (hmax : (n + k) * bytes ≤ 140737488355328) (hmax' : n + k ≤ maxLen) :
    Step C F L (.call { callee := .builtin .append, args := #[x, y], argTypes := #[t, t] }) ty fun v' L' => ∃ g sp cap, (C.w0.heap.size ≤ g ∨ g ∈ C.M) ∧ v' = Slc g 0 (n + k) cap ∧ L' = rest? m L ++ [⟨g, xs ++ news ++ sp, e, (0, 0)⟩] ∧ (xs ++ news).length = (n + k) * s ∧ (xs ++ news ++ sp).length = cap * s ∧ n + k ≤ cap ∧ cap ≤ maxLen :=
  Step_run fun a w ha hw d pos aft g => by
  obtain ⟨i, hi1, hi2, hi3, hi4⟩ := info_of hi
  have hp := perm_mask m L
  have h0 : ∀ x ∈ take? m L, x ∈ L := fun x hx => hp.mem_iff.2 (List.mem_append.2 (.inl hx))
  have he := ha.ev hx
  have he' := ha.ev hy
  -- what every way leaves
  have key : ∀ (v' : Value) (w' : World) (base : Nat) (row : Option Nat), (v' = .slice none 0 0 → False) → (Builtin.append_ #[t, t] ty #[v, .slice ao k c]).run C.P w = .ok v' w' → w'.ownsRow base e s v' (n + k) (xs ++ news) → w.grownBy w' row →
      (∀ b, row = some b → ∃ e ∈ take? m L, e.b = b) → (∀ g cap, v' = Slc g 0 (n + k) cap → w.heap.size ≤ g ∨ ∃ e ∈ take? m L, e.b = g) →
      ∃ v'' L' w'', (∃ g sp cap, (C.w0.heap.size ≤ g ∨ g ∈ C.M) ∧ v'' = Slc g 0 (n + k) cap ∧ L' = rest? m L ++ [⟨g, xs ++ news ++ sp, e, (0, 0)⟩] ∧ (xs ++ news).length = (n + k) * s ∧ (xs ++ news ++ sp).length = cap * s ∧ n + k ≤ cap ∧ cap ≤ maxLen) ∧ Hp C.w0 C.M L' w'' ∧
      ((execOp a.eval ⟨d, .call { callee := .builtin .append, args := #[x, y], argTypes := #[t, t] }, ty, pos, aft, g⟩).run C.P w = .ok (.value v'') w'' ∨ v'' = undef ∧ (execOp a.eval ⟨d, .call { callee := .builtin .append, args := #[x, y], argTypes := #[t, t] }, ty, pos, aft, g⟩).run C.P w = .ok .skip w'') := by
    intro v' w' base row hnn hr hown' hgr hrow hgn
    obtain ⟨hlen, hcase⟩ := hown'
    rcases hcase with ⟨h5, _⟩ | ⟨g', cap', cur, rfl, _, hh, hcap, hmaxl, hsz, htk⟩
    · exact (hnn h5).elim
    · have hcur : cur = (xs ++ news ++ cur.toList.drop ((n + k) * s)).toArray := by
        apply Array.toList_inj.1
        rw [← htk]; simp
      have hgn' := hgn g' cap' rfl
      refine ⟨_, _, w', ⟨g', cur.toList.drop ((n + k) * s), cap', ?_, rfl, rfl, hlen, ?_, hcap, hmaxl⟩, hw.grown row hgr hrow (by rw [← hcur]; exact hh) hgn', .inl ?_⟩
      · rcases hgn' with h5 | ⟨e', he1, rfl⟩
        · exact .inl (Nat.le_trans hw.le h5)
        · rcases hw.own e' (h0 e' he1) with h6 | h6
          · exact .inr h6
          · exact .inl h6
      · have := congrArg Array.size hcur
        rw [hsz] at this
        simpa using this.symm
      · simp [execOp, resolve, invoke, he, he', builtin, hr]
  cases ao with
  | none =>
    -- nothing is appended
    obtain rfl := hm.1 rfl
    have hk0 : k = 0 := by
      cases k with
      | zero => rfl
      | succ k => simp only [List.length_nil, Nat.succ_mul] at hk; omega
    subst hk0
    rcases hv with ⟨rfl, rfl, rfl, htk, hkp⟩ | ⟨g1, sp, cap, rfl, ht, hl, hl2, hc, hcm⟩
    · omega
    · have hE := hw.ent ⟨g1, xs ++ sp, e, (0, 0)⟩ (h0 _ (by rw [ht]; simp))
      have hr : (Builtin.append_ #[t, t] ty #[Slc g1 0 n cap, .slice none 0 c]).run C.P w = .ok (Slc g1 0 n cap) w := by
        simp [Builtin.append_, run_underlying hu, sizeOf, typeInfo, hi1, Builtin.lenOf, hc, Builtin.firstCells, storeCells]
      refine key _ w 0 none (fun h => by simp at h) hr ⟨by simpa using hl, .inr ⟨g1, cap, (xs ++ sp).toArray, rfl, Nat.zero_le _, hE, hc, hcm, by simpa using hl2, by rw [Nat.add_zero, ← hl]; simp⟩⟩ ⟨rfl, rfl, rfl, Nat.le_refl _, fun _ _ _ => rfl⟩ (fun b hb => by simp at hb) fun g cap' hvv => .inr ⟨⟨g1, xs ++ sp, e, (0, 0)⟩, by rw [ht]; simp, ?_⟩
      simp at hvv; exact hvv.1
  | some ad =>
  have hsrc : ∀ j u, news[j]? = some u → w.cell? (ad.add j) = some u := fun j u hj => hm.2 ad rfl w hw j u hj
  rcases hv with ⟨rfl, rfl, rfl, htk, hkp⟩ | ⟨g1, sp, cap, rfl, ht, hl, hl2, hc, hcm⟩
  · obtain ⟨v', w', hr, hown', hgr, hnil⟩ := run_append_own (P := C.P) w w.heap.size t ty e i z s bytes hu hi1 hi2 hi3 hi4 hzs hs0 _ 0 [] (World.ownsRow_nil _ _ _ _) ad k c news hk hsrc h1 hmax' hmax (Nat.le_refl _)
    have hnn : v' = .slice none 0 0 → False := fun h => by have := (hnil.1 h).2; omega
    refine key v' w' _ _ hnn hr hown' hgr (fun b hb => by simp [Value.ownBlock] at hb) fun g cap hvv => ?_
    rcases hown'.2 with ⟨h5, _⟩ | ⟨g', cap', cur, h5, h6, _⟩
    · exact (hnn h5).elim
    · rw [hvv] at h5; simp at h5; exact .inl (by omega)
  · have hE := hw.ent ⟨g1, xs ++ sp, e, (0, 0)⟩ (h0 _ (by rw [ht]; simp))
    have hown : w.ownsRow 0 e s (Slc g1 0 n cap) n xs := ⟨hl, .inr ⟨g1, cap, (xs ++ sp).toArray, rfl, Nat.zero_le _, hE, hc, hcm, by simpa using hl2, by rw [← hl]; simp⟩⟩
    by_cases hroom : n + k ≤ cap
    · obtain ⟨w', hr, hown', hgr⟩ := run_append_fits (P := C.P) w 0 t ty e i s hu hi1 hi3 g1 n cap xs hown ad k c news hk hsrc h1 hroom
      refine key _ w' _ _ (fun h => by simp at h) hr hown' hgr (fun b hb => ⟨⟨g1, xs ++ sp, e, (0, 0)⟩, by rw [ht]; simp, by simpa using hb⟩) fun g cap' hvv => .inr ⟨⟨g1, xs ++ sp, e, (0, 0)⟩, by rw [ht]; simp, ?_⟩
      simp at hvv; exact hvv.1
    · obtain ⟨v', w', hr, hown', hgr⟩ := run_append_arg_grows (P := C.P) w t ty e i z s bytes hu hi1 hi2 hi3 hi4 hzs hs0 ⟨g1, 0, none⟩ n cap xs hl (fun j u hj => by
        rw [F1]
        simp only [World.cell?, hE]
        have hlt := (List.getElem?_eq_some_iff.1 hj).1
        simp [List.getElem?_append_left hlt, hj]) ad k c news hk hsrc (by omega) hmax' hmax
      have hnn : v' = .slice none 0 0 → False := fun h => by
        rcases hown'.2 with ⟨_, h5⟩ | ⟨g', cap'', cur, h5, _⟩
        · omega
        · rw [h] at h5; simp at h5
      refine key v' w' _ _ hnn hr hown' hgr (fun b hb => by simp at hb) fun g cap' hvv => ?_
      rcases hown'.2 with ⟨h5, _⟩ | ⟨g', cap'', cur, h5, h6, _⟩
      · exact (hnn h5).elim
      · rw [hvv] at h5; simp at h5; exact .inl (by omega)
theorem EW {x y : Operand} {ty : TypeId} (t t' e : Nat) (i g o dl dc : Nat) (cs : List Value) (T : Nat) (ao : Option Addr) (k c n : Nat) (news cs' : List Value)
    (hu : C.P.underlying t = some (.slice e)) (hs : (C.P.info? e).map (·.size) = some 1) (hi : L[i]? = some ⟨g, cs, T, (0, 0)⟩)
    (hx : ev F x = some (Slc g o dl dc)) (hy : ev F y = some (.slice ao k c)) (hn : Nat.min k dl = n) (hl : news.length = n) (hm : SrcAt C L ao news) (hfit : o + n ≤ cs.length) (h1 : ∀ u ∈ news, u.oneCell' = true) (hcs : lay cs o news = cs') :
    Step C F L (.call { callee := .builtin .copy, args := #[x, y], argTypes := #[t, t'] }) ty fun v' L' => v' = I64 n ∧ L' = L.set i ⟨g, cs', T, (0, 0)⟩ := Step_run fun a w ha hw d pos aft gg => by
  have hE : w.heap[g]? = some (.cells cs.toArray T (0, 0)) := hw.ent ⟨g, cs, T, (0, 0)⟩ (List.mem_of_getElem? hi)
  have he := ha.ev hx
  have he' := ha.ev hy
  refine ⟨I64 n, _, w.setRow g cs'.toArray, ⟨rfl, rfl⟩, hw.setRow hi cs', .inl ?_⟩
  have hr : (Builtin.copy_ #[t, t'] ty #[Slc g o dl dc, .slice ao k c]).run C.P w = .ok (I64 n) (w.setRow g cs'.toArray) := by
    cases ao with
    | some ad =>
      have := run_copy_row (P := C.P) w t t' ty e g o dl dc ad k c cs.toArray T news hu hs hE (by rw [hl, hn]) (fun j u hj => hm.2 ad rfl w hw j u hj) (by simpa [hl] using hfit) h1
      rw [this, hl]
      have hcs2 : List.take o cs ++ news ++ List.drop (o + n) cs = cs' := by rw [← hcs, lay, hl]
      simp only [hcs2, goInt]
    | none =>
      obtain rfl := hm.1 rfl
      have hn0 : n = 0 := by simpa using hl.symm
      subst hn0
      have hcs2 : cs' = cs := by rw [← hcs]; simp [lay]
      have hset : w.setRow g cs.toArray = w := by
        have hh : (w.setRow g cs.toArray).heap = w.heap := by
          apply Array.ext_getElem?
          intro j
          by_cases hj : j = g
          · subst hj; rw [setRow_heap _ _ _ _ _ _ hE, hE]
          · exact setRow_other w g j _ hj
        have h2 : w.setRow g cs.toArray = { w with heap := (w.setRow g cs.toArray).heap } := rfl
        rw [h2, hh]
      rw [hcs2, hset]
      cases hq : C.P.info? e with
      | none => simp [hq] at hs
      | some inf => simp [Builtin.copy_, run_underlying hu, Builtin.lenOf, Builtin.firstCells, sizeOf, typeInfo, hq, storeCells, hn, goInt]
  simp [execOp, resolve, invoke, he, he', builtin, hr]
theorem made_one (z : Value) (h : z.cells = #[z]) (n : Nat) : madeCells z.cells (n * 1) = (List.replicate n z).toArray := by
  rw [h]
  apply Array.ext
  · simp [madeCells]
  · intro j h1 h2
    simp [madeCells, Nat.mod_one]
theorem Step_make {x y : Operand} {ty T : TypeId} (e bytes : Nat) (z : Value) (ln cp : Nat) (hu : C.P.underlying T = some (.slice e)) (hi : (C.P.info? e).map (fun i => (i.zero, i.size, i.bytes)) = some (some z, 1, bytes)) (hz : z.cells = #[z])
  (hx : ev F x = some (I64 ln)) (hy : ev F y = some (I64 cp)) (h1 : ln ≤ cp) (h2 : bytes * cp ≤ 140737488355328) (h3 : cp ≤ maxLen) :
  Step C F L (.makeSlice T x y) ty fun v' L' => ∃ nb, C.w0.heap.size ≤ nb ∧ v' = Slc nb 0 ln cp ∧ L' = L ++ [⟨nb, List.replicate cp z, e, (0, 0)⟩] := Step_run fun a w ha hw d pos aft gg => by
 obtain ⟨i, hi1, hi2, hi3, hi4⟩ := info_of hi
 have hr := run_make (P := C.P) w T e i z hu hi1 hi2 .i64 .i64 ln cp (by omega) (by omega) (by rw [hi4]; have h5 : ((bytes * cp : Nat) : Int) ≤ 281474976710656 := (by omega); rw [Int.natCast_mul] at h5; exact h5) (by unfold maxLen at h3; omega)
 rw [Int.toNat_natCast, Int.toNat_natCast, hi3, made_one z hz] at hr
 exact ⟨_, _, w.alloc (.cells (List.replicate cp z).toArray e), ⟨w.heap.size, hw.le, rfl, rfl⟩, hw.alloc _ e, .inl (by simp [execOp, ha.ev hx, ha.ev hy, hr])⟩
end Go.Sx
namespace Go.Sx
open Go Go.RowKit
variable {C : Cx} {F : Frm} {L : List Ent}
section
variable {P : Program} {w : World}
theorem run_eqItems_u8 (d : Nat) {e : TypeId} (he : P.underlying e = some (.int .u8)) (hA : ∀ w, (isAgg e).run P w = .ok false w) (a b : List UInt8) : ∀ (is : List Nat), (∀ i ∈ is, i < a.length ∧ i < b.length) →
  (Op.eqItems (d + 1) e 1 (cu8 a).toArray (cu8 b).toArray is).run P w = .ok (is.all fun i => decide (g8 a i = g8 b i)) w
 | [], _ => by simp [Op.eqItems]
 | i :: is, h => by
  have hi := h i (by simp)
  have pa : (part e (cu8 a).toArray (i * 1)).run P w = .ok (U8 (g8 a i)) w := by
   simp [part, hA w, GE hi.1]
  have pb : (part e (cu8 b).toArray (i * 1)).run P w = .ok (U8 (g8 b i)) w := by
   simp [part, hA w, GE hi.2]
  have pe := run_equalIn_int (P := P) w d e .u8 .u8 (g8 a i).toNat (g8 b i).toNat he
  have e1 : (((g8 a i).toNat : Int) == ((g8 b i).toNat : Int)) = decide (g8 a i = g8 b i) := by rw [Bool.eq_iff_iff]; simp [← UInt8.toNat_inj]; omega
  rw [e1] at pe
  simp only [Op.eqItems, Sem.run_bind, pa, pb, pe, Result.andThen_ok, List.all_cons]
  cases hd : decide (g8 a i = g8 b i) with
  | false => simp
  | true => simpa using run_eqItems_u8 d he hA a b is (fun j hj => h j (List.mem_cons_of_mem _ hj))
theorem all_g8 {a b : List UInt8} {n : Nat} (ha : a.length = n) (hb : b.length = n) : ((List.range n).all fun i => decide (g8 a i = g8 b i)) = decide (a = b) := by
  rw [Bool.eq_iff_iff]
  simp only [List.all_eq_true, List.mem_range, decide_eq_true_eq]
  constructor
  · intro h
    apply List.ext_getElem (by omega)
    intro i h1 h2
    have := h i (by omega)
    rw [g8_eq h1, g8_eq h2] at this; exact this
  · rintro rfl i _; rfl
theorem equalIn_arr8 (d : Nat) {T e : TypeId} {n : Nat} (hu : P.underlying T = some (.array n e)) (he : P.underlying e = some (.int .u8)) (hA : ∀ w, (isAgg e).run P w = .ok false w) (hc : P.cellsOf e = 1) (hi : (P.info? e).isSome = true) {a b : List UInt8} (ha : a.length = n) (hb : b.length = n) :
  (Op.equalIn (d + 2) T (.agg (cu8 a).toArray) (.agg (cu8 b).toArray)).run P w = .ok (decide (a = b)) w := by
 obtain ⟨i, hi⟩ := Option.isSome_iff_exists.1 hi
 rw [run_equalIn_array (P := P) w (d + 1) _ _ hu hi, hc, run_eqItems_u8 d he hA a b _ (fun i hi => by have := List.mem_range.1 hi; omega), all_g8 ha hb]
theorem equal_arr8 {T e : TypeId} {n : Nat} (hu : P.underlying T = some (.array n e)) (he : P.underlying e = some (.int .u8)) (hA : ∀ w, (isAgg e).run P w = .ok false w) (hc : P.cellsOf e = 1) (hi : (P.info? e).isSome = true) {a b : List UInt8} (ha : a.length = n) (hb : b.length = n) :
  (Op.equal T (.agg (cu8 a).toArray) (.agg (cu8 b).toArray)).run P w = .ok (decide (a = b)) w := equalIn_arr8 9998 hu he hA hc hi ha hb
theorem eql_arr8 {T e : TypeId} {n : Nat} (hu : P.underlying T = some (.array n e)) (he : P.underlying e = some (.int .u8)) (hA : ∀ w, (isAgg e).run P w = .ok false w) (hc : P.cellsOf e = 1) (hi : (P.info? e).isSome = true) {a b : List UInt8} (ha : a.length = n) (hb : b.length = n) :
  (binOp .eql T (.agg (cu8 a).toArray) (.agg (cu8 b).toArray)).run P w = .ok (.bool (decide (a = b))) w := eql_of (by simp [binOp]) (equal_arr8 hu he hA hc hi ha hb)
end
end Go.Sx
namespace Go.Sx
open Go Go.RowKit
variable {C : Cx} {F : Frm} {L : List Ent}
theorem Seg.get1 {cs : List Value} {off n : Nat} {v : Value} (h : Seg cs off [v]) (hn : n = off) : cs[n]? = some v := by
 subst hn; simpa using h 0 v (by simp)
theorem Seg.cut {cs vs : List Value} {off o n : Nat} (h : Seg cs off vs) (hn : vs.length = n) (ho : o = off) : (cs.drop o).take n = vs := by
  subst ho
  apply List.ext_getElem?
  intro j
  rw [List.getElem?_take, List.getElem?_drop]
  split
  · rename_i hj
    obtain ⟨v, hv⟩ : ∃ v, vs[j]? = some v := ⟨vs[j]'(by omega), by simp [hn, hj]⟩
    rw [hv, h j v hv]
  · rw [List.getElem?_eq_none (by omega)]
theorem C8 {b off o o' : Nat} {cs vs : List Value} (h : MemAt C L b off cs) (hs : Seg cs o vs) (ho : off + o = o') : MemAt C L b o' vs := fun w hw j v hj => by
 have := h w hw (o + j) v (hs j v hj)
 rw [← ho, Nat.add_assoc]; exact this
def spl {α : Type} (l : List α) (o : Nat) (v : List α) : List α := l.take o ++ v ++ l.drop (o + v.length)
theorem spl_len {α : Type} {l v : List α} {o : Nat} (h : o + v.length ≤ l.length) : (spl l o v).length = l.length := by
 simp [spl]; omega
theorem spl_get {α : Type} {l v : List α} {o : Nat} (h : o + v.length ≤ l.length) (j : Nat) : (spl l o v)[j]? = if o ≤ j ∧ j < o + v.length then v[j - o]? else l[j]? := by
  unfold spl
  split
  · rename_i hj
    rw [List.append_assoc, List.getElem?_append_right (by simp; omega), List.getElem?_append_left (by simp; omega)]
    congr 1; simp; omega
  · rename_i hj
    by_cases h1 : j < o
    · rw [List.append_assoc, List.getElem?_append_left (by simp; omega), List.getElem?_take, if_pos h1]
    · rw [List.getElem?_append_right (by simp; omega), List.getElem?_drop]
      congr 1; simp; omega
theorem laySpl8 (l v : List UInt8) (o : Nat) (h : o + v.length ≤ l.length) : lay (cu8 l) o (cu8 v) = cu8 (spl l o v) := by
 simp [lay, spl, cu8]
theorem g8_spl {l v : List UInt8} {o : Nat} (h : o + v.length ≤ l.length) (j : Nat) : g8 (spl l o v) j = if o ≤ j ∧ j < o + v.length then g8 v (j - o) else g8 l j := by
 simp only [g8, List.getD_eq_getElem?_getD, spl_get h]
 split <;> rfl
theorem g8_app (a b : List UInt8) (j : Nat) : g8 (a ++ b) j = if j < a.length then g8 a j else g8 b (j - a.length) := by
 simp only [g8, List.getD_eq_getElem?_getD, List.getElem?_append]
 split <;> rfl
theorem g8_drop (l : List UInt8) (o j : Nat) : g8 (l.drop o) j = g8 l (o + j) := by
 simp [g8, List.getD_eq_getElem?_getD, List.getElem?_drop]
theorem g8_take {l : List UInt8} {n j : Nat} (h : j < n) : g8 (l.take n) j = g8 l j := by
 simp [g8, List.getD_eq_getElem?_getD, List.getElem?_take, h]
theorem g8_map_range {f : Nat → UInt8} {n j : Nat} (h : j < n) : g8 ((List.range n).map f) j = f j := by
 simp [g8, List.getD_eq_getElem?_getD, h]
theorem ext8 {a b : List UInt8} (hl : a.length = b.length) (h : ∀ j, j < a.length → g8 a j = g8 b j) : a = b := by
 apply List.ext_getElem hl
 intro i h1 h2
 have := h i h1
 rwa [g8_eq h1, g8_eq h2] at this
theorem g32_rep {n j : Nat} : g32 (List.replicate n (0:UInt32)) j = 0 := by
 simp only [g32, List.getD_eq_getElem?_getD, List.getElem?_replicate]; split <;> rfl
theorem ext32 {a b : List UInt32} (hl : a.length = b.length) (h : ∀ j, j < a.length → g32 a j = g32 b j) : a = b := by
 apply List.ext_getElem hl
 intro i h1 h2
 have := h i h1
 rwa [g32_eq h1, g32_eq h2] at this
theorem g64_app (a b : List UInt64) (j : Nat) : g64 (a ++ b) j = if j < a.length then g64 a j else g64 b (j - a.length) := by
 simp only [g64, List.getD_eq_getElem?_getD, List.getElem?_append]
 split <;> rfl
end Go.Sx
namespace Go.Sx
open Go Go.RowKit
theorem Post.law {w w' : World} {e : Ending} (h : Post w [] (fun v L => v = .bool true ∧ L = []) e w') : e = .returned (.bool true) ∧ Below w.heap.size w w' := by
 obtain ⟨v, L, he, ⟨rfl, rfl⟩, hp⟩ := h
 exact ⟨he, hp.below⟩
theorem wf_u8 {a : Int} (h : (Lit.int .u8 a).wf = true) : ∃ u : UInt8, a = (u.toNat : Int) := by
 have := bounds_u8 h
 refine ⟨UInt8.ofNat a.toNat, ?_⟩
 rw [show (UInt8.ofNat a.toNat).toNat = a.toNat from by simp; omega]
 omega
theorem wf_u32 {a : Int} (h : (Lit.int .u32 a).wf = true) : ∃ u : UInt32, a = (u.toNat : Int) := by
 have := bounds_u32 h
 refine ⟨UInt32.ofNat a.toNat, ?_⟩
 rw [show (UInt32.ofNat a.toNat).toNat = a.toNat from by simp; omega]
 omega
theorem wf_u64 {a : Int} (h : (Lit.int .u64 a).wf = true) : ∃ u : UInt64, a = (u.toNat : Int) := by
 have := bounds_u64 h
 refine ⟨UInt64.ofNat a.toNat, ?_⟩
 rw [show (UInt64.ofNat a.toNat).toNat = a.toNat from by simp; omega]
 omega
variable {C : Cx} {F : Frm} {L : List Ent}
theorem B8 {T ty : TypeId} {parts : Array (Nat × Operand)} (pv : List (Nat × Value)) (v : Value) (hp : parts.toList.map (fun x => (x.1, ev F x.2)) = pv.map (fun x => (x.1, some x.2)))
  (hr : ∀ w, (Instr.build T pv.toArray).run C.P w = .ok v w) : Ev C F L (.build T parts) ty v := fun a w ha _ d pos aft g => by
 have hpv : (parts.map fun (i, x) => (i, a.eval x)) = pv.toArray := by
  apply Array.toList_inj.1
  rw [Array.toList_map]
  generalize parts.toList = l at hp
  clear hr
  induction l generalizing pv with
  | nil => cases pv <;> simp_all
  | cons o l ih =>
   cases pv with
   | nil => simp at hp
   | cons v pv =>
    simp only [List.map_cons, List.cons.injEq, Prod.mk.injEq] at hp
    obtain ⟨⟨h1, h2⟩, h3⟩ := hp
    simp [ih pv h3, h1, ha.ev h2]
 simp [execOp, hpv, hr w]
theorem Ev_s2ap {T ty e : TypeId} {x : Operand} {b off l c : Nat} (n : Nat) (hu : C.P.underlying T = some (.array n e)) (hx : ev F x = some (Slc b off l c)) (hn : n ≤ l) : Ev C F L (.sliceToArrayPointer T x) ty (Ptr b off) := fun a w ha _ d pos aft g => by
 simp [execOp, ha.ev hx, run_arrayAt (w := w) (arr := T) (e := e) (n := n) (a := some ⟨b, off, none⟩) (len := l) (cap := c) hu hn]
theorem lay_left {p q vs p' : List Value} {o : Nat} (h : o + vs.length ≤ p.length) (hp : lay p o vs = p') : lay (p ++ q) o vs = p' ++ q := by
 subst hp
 simp only [lay]
 rw [List.take_append_of_le_length (by omega), List.drop_append_of_le_length (by omega)]
 simp
theorem GD {p q vs q' : List Value} {o : Nat} (n o' : Nat) (hn : p.length = n) (ho : o = n + o') (hq : lay q o' vs = q') : lay (p ++ q) o vs = p ++ q' := by
 subst hq
 subst hn
 subst ho
 simp only [lay]
 rw [List.take_append, List.take_of_length_le (by omega), Nat.add_assoc, List.drop_append, List.drop_of_length_le (by omega)]
 simp [Nat.add_sub_cancel_left]
def RdB (w : World) (M : List Nat) (ao : Option Addr) (z : List UInt8) : Prop :=
 z = [] ∨ ∃ b off, ao = some ⟨b, off, none⟩ ∧ b < w.heap.size ∧ b ∉ M ∧ ∀ j v, (cu8 z)[j]? = some v → w.cell? ⟨b, off + j, none⟩ = some v
theorem RdB.nil {w : World} {M : List Nat} {ao : Option Addr} : RdB w M ao [] := .inl rfl
theorem RdB.pos {w : World} {M : List Nat} {ao : Option Addr} {z : List UInt8} (h : RdB w M ao z) (hz : 0 < z.length) :
    ∃ b off, ao = some ⟨b, off, none⟩ ∧ b < w.heap.size ∧ b ∉ M ∧ ∀ j v, (cu8 z)[j]? = some v → w.cell? ⟨b, off + j, none⟩ = some v := by
  rcases h with rfl | h
  · simp at hz
  · exact h
theorem RdB.src {ao : Option Addr} {z : List UInt8} (h : RdB C.w0 C.M ao z) : SrcAt C L ao (cu8 z) := by
  rcases h with rfl | ⟨b, off, rfl, hb, hM, hm⟩
  · exact SrcAt.nil
  · exact SrcAt.mem (MemAt.base hb hM hm)
theorem lt_of_cell {w : World} {b o : Nat} {v : Value} (h : w.cell? ⟨b, o, none⟩ = some v) : b < w.heap.size := by
  by_cases hb : b < w.heap.size
  · exact hb
  · have : w.heap[b]? = none := by simp; omega
    simp [World.cell?, this] at h
theorem RdB.of {w : World} {M : List Nat} {b off : Nat} {z : List UInt8} (hw : Hp C.w0 C.M L w) (h : MemAt C L b off (cu8 z)) (hM : z ≠ [] → b ∉ M) : RdB w M (some ⟨b, off, none⟩) z := by
  by_cases hz : z = []
  · exact .inl hz
  · refine .inr ⟨b, off, rfl, ?_, hM hz, fun j v hj => h w hw j v hj⟩
    obtain ⟨x, r, rfl⟩ := List.exists_cons_of_ne_nil hz
    exact lt_of_cell (h w hw 0 _ (by simp [cu8]; rfl))
theorem RdB.at {w : World} {M M' : List Nat} {ao : Option Addr} {z : List UInt8} (hw : Hp C.w0 C.M L w) (h : RdB C.w0 C.M ao z) (hM : ∀ b, b < C.w0.heap.size → b ∉ C.M → b ∉ M) : RdB w M ao z := by
  rcases h with rfl | ⟨b, off, rfl, hb, hm, hc⟩
  · exact .inl rfl
  · exact RdB.of hw (MemAt.base hb hm hc) (fun _ => hM b hb hm)
theorem RdB.slice {w : World} {M : List Nat} {ao : Option Addr} {z : List UInt8} {c : Nat} (h : RdB w M ao z) (i j : Nat) (hj : j ≤ z.length) (hc : z.length ≤ c) : RdB w M (if c = i then ao else ao.map (·.add (i * 1))) ((z.drop i).take (j - i)) := by
  rcases h with rfl | ⟨b, off, rfl, hb, hm, hcell⟩
  · exact .inl (by simp)
  · by_cases hi : i < j
    · rw [if_neg (by omega)]
      refine .inr ⟨b, off + i, by simp [Addr.add], hb, hm, fun k v hk => ?_⟩
      have := hcell (i + k) v (by
        simp only [cu8, List.getElem?_map, List.getElem?_take, List.getElem?_drop] at hk ⊢
        split at hk
        · exact hk
        · simp at hk)
      rw [Nat.add_assoc]; exact this
    · exact .inl (by simp; omega)
theorem FB {op : Op} {ty : TypeId} (f : FuncId) (args : List Value) (i : Nat) (e : Ent) (R : Value → List Ent → Prop) (S : Value → Ent → List Ent → Prop)
    (hc : Cl C F L op ty f args.toArray) (hi : L[i]? = some e) (hR : ∀ v l, R v l → ∃ e' l', l = e' :: l' ∧ e'.b = e.b ∧ S v e' l') (hct : ∀ w, Hp C.w0 C.M L w → Calls C.P f args.toArray w (Post w [e.b] R)) :
    Step C F L op ty fun v L' => ∃ e' l', S v e' l' ∧ L' = L.set i e' ++ l' := by
  have hil : i < L.length := (List.getElem?_eq_some_iff.1 hi).1
  have hie : L[i] = e := (List.getElem?_eq_some_iff.1 hi).2
  have htake : ∀ (l : List Ent) (i : Nat) (e : Ent), l[i]? = some e → take? ((List.replicate i false) ++ [true]) l = [e] ∧ rest? ((List.replicate i false) ++ [true]) l = l.eraseIdx i := by
    intro l
    induction l with
    | nil => intro i e h; simp at h
    | cons x l ih =>
      intro i e h
      cases i with
      | zero => simp at h; subst h; cases l <;> simp [take?, rest?]
      | succ i =>
        simp at h
        have := ih i e h
        simp [List.replicate_succ, take?, rest?, this.1, this.2]
  obtain ⟨ht, hr⟩ := htake L i e hi
  intro a w ha hw d pos aft g Kk Q hk
  refine DN f args.toArray _ [e.b] R hc (by rw [ht]; rfl) hct a w ha hw d pos aft g Kk Q ?_
  rintro v L' w' ⟨L'', hR', rfl⟩ hw'
  obtain ⟨e', l', rfl, hb, hS⟩ := hR v L'' hR'
  refine hk v _ w' ⟨e', l', hS, rfl⟩ (hw'.sub ?_ ?_)
  · intro x hx
    rw [hr]
    rcases List.mem_append.1 hx with h | h
    · obtain ⟨j, hj, rfl⟩ := List.mem_iff_getElem.1 h
      rw [List.getElem_set]
      split
      · simp
      · rename_i hne
        refine List.mem_append_left _ ?_
        rw [List.mem_eraseIdx_iff_getElem]
        exact ⟨j, by simpa using hj, fun h => hne h.symm, rfl⟩
    · simp [h]
  · have hnd := hw'.nd
    rw [hr, List.map_append, List.map_cons] at hnd
    rw [List.map_append]
    have h1 : (L.set i e').map Ent.b = L.map Ent.b := by
      rw [List.map_set, hb, ← hie]
      apply List.ext_getElem (by simp)
      intro j h1 h2
      rw [List.getElem_set]
      split
      · rename_i h; subst h; simp
      · rfl
    rw [h1]
    have hp : (L.map Ent.b).Perm ((L.eraseIdx i).map Ent.b ++ [e.b]) := by
      have h2 : L.Perm (L.eraseIdx i ++ [e]) := by
        have h3 : L = L.take i ++ e :: L.drop (i + 1) := by
          rw [← hie, List.getElem_cons_drop, List.take_append_drop]
        rw [List.eraseIdx_eq_take_drop_succ]
        conv => lhs; rw [h3]
        rw [List.append_assoc]
        exact List.Perm.append_left _ (List.perm_append_comm (l₁ := [e]))
      simpa using h2.map Ent.b
    have hp2 : (L.map Ent.b ++ l'.map Ent.b).Perm ((L.eraseIdx i).map Ent.b ++ e'.b :: l'.map Ent.b) := by
      have := hp.append_right (l'.map Ent.b)
      rw [List.append_assoc] at this
      rw [hb]
      exact this
    exact hp2.nodup_iff.2 hnd
end Go.Sx
namespace Go.Sx
open Go Go.RowKit
variable {C : Cx} {F : Frm} {L : List Ent}
theorem take?_sub : ∀ (m : List Bool) (L : List Ent), (take? m L).Sublist L
 | [], L => by cases L <;> simp [take?]
 | true :: m, [] => by simp [take?]
 | false :: m, [] => by simp [take?]
 | true :: m, e :: l => by simp only [take?]; exact (take?_sub m l).cons_cons e
 | false :: m, e :: l => by simp only [take?]; exact (take?_sub m l).cons e
theorem CH {φ : Act → World → Prop} (m : List Bool) (h : K C F (take? m L) φ) : K C F L φ := fun a w ha hw =>
 h a w ha (hw.sub (fun e he => (take?_sub m L).subset he) (List.Sublist.nodup ((take?_sub m L).map Ent.b) hw.nd))
theorem Step_append8 {x y : Operand} {ty : TypeId} (t e : Nat) (m : List Bool) (v : Value) (n : Nat) (l z : List UInt8) (ao : Option Addr) (k c : Nat)
    (hu : C.P.underlying t = some (.slice e)) (hi : (C.P.info? e).map (fun i => (i.zero, i.size, i.bytes)) = some (some (.int .u8 0), 1, 1))
    (hx : ev F x = some v)
    (hv : (v = .slice none 0 0 ∧ n = 0 ∧ l = [] ∧ take? m L = [] ∧ 0 < k) ∨ (∃ g sp cap, v = Slc g 0 n cap ∧ take? m L = [⟨g, cu8 l ++ sp, e, (0, 0)⟩] ∧ l.length = n ∧ sp.length = cap - n ∧ n ≤ cap ∧ cap ≤ maxLen))
    (hy : ev F y = some (.slice ao k c)) (hk : z.length = k) (hm : SrcAt C L ao (cu8 z)) (hmax : (n + k) * 1 ≤ 140737488355328) (hmax' : n + k ≤ maxLen) :
    Step C F L (.call { callee := .builtin .append, args := #[x, y], argTypes := #[t, t] }) ty fun v' L' => ∃ g sp cap, (C.w0.heap.size ≤ g ∨ g ∈ C.M) ∧ v' = Slc g 0 (n + k) cap ∧ L' = rest? m L ++ [⟨g, cu8 (l ++ z) ++ sp, e, (0, 0)⟩] ∧ (l ++ z).length = n + k ∧ sp.length = cap - (n + k) ∧ n + k ≤ cap ∧ cap ≤ maxLen := by
  have h := Step_append (C := C) (F := F) (L := L) (x := x) (y := y) (ty := ty) t e 1 1 (.int .u8 0) m v n (cu8 l) (cu8 z) ao k c hu hi rfl (by decide) hx
    (by
      rcases hv with ⟨h1, h2, h3, h4, h5⟩ | ⟨g, sp, cap, h1, h2, h3, h4, h5, h6⟩
      · exact .inl ⟨h1, h2, by subst h3; rfl, h4, h5⟩
      · exact .inr ⟨g, sp, cap, h1, h2, by simp [h3], by simp [h3, h4]; omega, h5, h6⟩)
    hy (by simp [hk]) hm CD hmax hmax'
  have hl : l.length = n := by
    rcases hv with ⟨h1, h2, h3, h4, h5⟩ | ⟨g, sp, cap, h1, h2, h3, h4, h5, h6⟩
    · subst h3; simp [h2]
    · exact h3
  intro a w ha hw d pos aft g Kk Q hq
  refine h a w ha hw d pos aft g Kk Q ?_
  rintro v' L' w' ⟨g, sp, cap, h1, h2, h3, h4, h5, h6, h7⟩ hw'
  refine hq v' L' w' ⟨g, sp, cap, h1, h2, by rw [h3, cu8_app], by simp [hl, hk], ?_, h6, h7⟩ hw'
  simp [hl, hk] at h5; omega
theorem Step_append64 {x y : Operand} {ty : TypeId} (t e : Nat) (m : List Bool) (v : Value) (n : Nat) (l z : List UInt64) (ao : Option Addr) (k c : Nat)
    (hu : C.P.underlying t = some (.slice e)) (hi : (C.P.info? e).map (fun i => (i.zero, i.size, i.bytes)) = some (some (.int .u64 0), 1, 8))
    (hx : ev F x = some v)
    (hv : (v = .slice none 0 0 ∧ n = 0 ∧ l = [] ∧ take? m L = [] ∧ 0 < k) ∨ (∃ g sp cap, v = Slc g 0 n cap ∧ take? m L = [⟨g, cu64 l ++ sp, e, (0, 0)⟩] ∧ l.length = n ∧ sp.length = cap - n ∧ n ≤ cap ∧ cap ≤ maxLen))
    (hy : ev F y = some (.slice ao k c)) (hk : z.length = k) (hm : SrcAt C L ao (cu64 z)) (hmax : (n + k) * 8 ≤ 140737488355328) (hmax' : n + k ≤ maxLen) :
    Step C F L (.call { callee := .builtin .append, args := #[x, y], argTypes := #[t, t] }) ty fun v' L' => ∃ g sp cap, (C.w0.heap.size ≤ g ∨ g ∈ C.M) ∧ v' = Slc g 0 (n + k) cap ∧ L' = rest? m L ++ [⟨g, cu64 (l ++ z) ++ sp, e, (0, 0)⟩] ∧ (l ++ z).length = n + k ∧ sp.length = cap - (n + k) ∧ n + k ≤ cap ∧ cap ≤ maxLen := by
  have h := Step_append (C := C) (F := F) (L := L) (x := x) (y := y) (ty := ty) t e 1 8 (.int .u64 0) m v n (cu64 l) (cu64 z) ao k c hu hi rfl (by decide) hx
    (by
      rcases hv with ⟨h1, h2, h3, h4, h5⟩ | ⟨g, sp, cap, h1, h2, h3, h4, h5, h6⟩
      · exact .inl ⟨h1, h2, by subst h3; rfl, h4, h5⟩
      · exact .inr ⟨g, sp, cap, h1, h2, by simp [h3], by simp [h3, h4]; omega, h5, h6⟩)
    hy (by simp [hk]) hm D1 hmax hmax'
  have hl : l.length = n := by
    rcases hv with ⟨h1, h2, h3, h4, h5⟩ | ⟨g, sp, cap, h1, h2, h3, h4, h5, h6⟩
    · subst h3; simp [h2]
    · exact h3
  intro a w ha hw d pos aft g Kk Q hq
  refine h a w ha hw d pos aft g Kk Q ?_
  rintro v' L' w' ⟨g, sp, cap, h1, h2, h3, h4, h5, h6, h7⟩ hw'
  refine hq v' L' w' ⟨g, sp, cap, h1, h2, by rw [h3, cu64_app], by simp [hl, hk], ?_, h6, h7⟩ hw'
  simp [hl, hk] at h5; omega
end Go.Sx
namespace Go.Sx
open Go Go.RowKit
variable {C : Cx} {F : Frm} {L : List Ent}
def mid {α : Type} (l : List α) (o n : Nat) : List α := (l.drop o).take n
theorem E3 {α : Type} {l : List α} {o n : Nat} (h : o + n ≤ l.length) : (mid l o n).length = n := by simp [mid]; omega
theorem CM {l : List UInt8} {n : Nat} (h : l.length = n) : (cu8 l).length = n := by simp [h]
theorem FK {l : List UInt32} {n : Nat} (h : l.length = n) : (cu32 l).length = n := by simp [h]
theorem EQ {a b : Int} (h : a = b) : some (I64 a) = some (I64 b) := by rw [h]
theorem heap_lt {w : World} {b : Nat} {o : Obj} (h : w.heap[b]? = some o) : b < w.heap.size := by
  by_cases hb : b < w.heap.size
  · exact hb
  · have : w.heap[b]? = none := by simp; omega
    rw [this] at h; cases h
theorem Hp.heap {w0 w : World} {M : List Nat} {b : Nat} {o : Obj} (hw : Hp w0 M L w) (h : w0.heap[b]? = some o) (hM : b ∉ M) : w.heap[b]? = some o := by
 rw [hw.old b (heap_lt h) hM]; exact h
theorem MemAt.heap {b T : Nat} {cs : List Value} (h : C.w0.heap[b]? = some (.cells cs.toArray T (0, 0))) (hM : b ∉ C.M) : MemAt C L b 0 cs :=
 MemAt.base (heap_lt h) hM fun j v hj => by
  rw [Nat.zero_add]
  simp only [World.cell?, h]
  simpa using hj
def RdA (w : World) (b off : Nat) (vs : List Value) : Prop := b < w.heap.size ∧ ∀ j v, vs[j]? = some v → w.cell? ⟨b, off + j, none⟩ = some v
theorem RdA.mem {b off : Nat} {vs : List Value} (h : RdA C.w0 b off vs) (hM : b ∉ C.M) : MemAt C L b off vs := MemAt.base h.1 hM h.2
theorem RdA.of {w : World} {b off : Nat} {vs : List Value} (hw : Hp C.w0 C.M L w) (h : MemAt C L b off vs) (hz : 0 < vs.length) : RdA w b off vs :=
 ⟨lt_of_cell (h w hw 0 vs[0] (by simp [hz])), fun j v hj => h w hw j v hj⟩
def zr8 (n : Nat) : List UInt8 := List.replicate n 0
theorem AP (n : Nat) : (zr8 n).length = n := by simp [zr8]
theorem segm_u8 {l : List UInt8} (o n : Nat) (h : o + n ≤ l.length) : Seg (cu8 l) o (cu8 (mid l o n)) := seg_u8_mid o n h
theorem g8_mid {l : List UInt8} {o n j : Nat} (h : j < n) : g8 (mid l o n) j = g8 l (o + j) := by rw [mid, g8_take h, g8_drop]
theorem cu8_zr (n : Nat) : List.replicate n (Value.int .u8 0) = cu8 (zr8 n) := by simp [zr8, cu8]
def zr32 (n : Nat) : List UInt32 := List.replicate n 0
theorem FP (n : Nat) : (zr32 n).length = n := by simp [zr32]
theorem g32_zr {n j : Nat} : g32 (zr32 n) j = 0 := g32_rep
end Go.Sx
namespace Go.Sx
open Go Go.RowKit
variable {C : Cx} {F : Frm} {L : List Ent}
def pick : List Nat → List Ent → List Ent
 | [], _ => []
 | i :: p, L => match L[i]? with
  | some e => e :: pick p L
  | none => pick p L
theorem mem_pick : ∀ (p : List Nat) (L : List Ent) (e : Ent), e ∈ pick p L → ∃ i ∈ p, L[i]? = some e
  | [], L, e, h => by simp [pick] at h
  | i :: p, L, e, h => by
    simp only [pick] at h
    split at h
    · rename_i x hx
      rcases List.mem_cons.1 h with rfl | h
      · exact ⟨i, by simp, hx⟩
      · obtain ⟨j, hj, he⟩ := mem_pick p L e h
        exact ⟨j, List.mem_cons_of_mem _ hj, he⟩
    · obtain ⟨j, hj, he⟩ := mem_pick p L e h
      exact ⟨j, List.mem_cons_of_mem _ hj, he⟩
theorem nd_pick : ∀ (p : List Nat) (L : List Ent), p.Nodup → (L.map Ent.b).Nodup → ((pick p L).map Ent.b).Nodup
  | [], L, _, _ => by simp [pick]
  | i :: p, L, hp, hL => by
    have hp' := List.nodup_cons.1 hp
    simp only [pick]
    split
    · rename_i x hx
      rw [List.map_cons, List.nodup_cons]
      refine ⟨fun hm => ?_, nd_pick p L hp'.2 hL⟩
      obtain ⟨e, he, hb⟩ := List.mem_map.1 hm
      obtain ⟨j, hj, hje⟩ := mem_pick p L e he
      obtain ⟨hi1, hi2⟩ := List.getElem?_eq_some_iff.1 hx
      obtain ⟨hj1, hj2⟩ := List.getElem?_eq_some_iff.1 hje
      have : (L.map Ent.b)[i]'(by simpa using hi1) = (L.map Ent.b)[j]'(by simpa using hj1) := by simp [hi2, hj2, hb]
      have hij := (List.getElem_inj hL).1 this
      subst hij
      exact hp'.1 hj
    · exact nd_pick p L hp'.2 hL
theorem E9 {φ : Act → World → Prop} (p : List Nat) (hp : p.Nodup) (h : K C F (pick p L) φ) : K C F L φ := fun a w ha hw =>
 h a w ha (hw.sub (fun e he => by obtain ⟨i, _, hi⟩ := mem_pick p L e he; exact List.mem_of_getElem? hi) (nd_pick p L hp hw.nd))
theorem Hp.pick {w0 w : World} {M : List Nat} (p : List Nat) (hp : p.Nodup) (hw : Hp w0 M L w) : Hp w0 M (Sx.pick p L) w :=
 hw.sub (fun e he => by obtain ⟨i, _, hi⟩ := mem_pick p L e he; exact List.mem_of_getElem? hi) (nd_pick p L hp hw.nd)
theorem EA {P : Program} {w : World} (op : BinOp) (t : TypeId) (x : Operand) (v : Value) : (eqGuard op t x (.const v) .nilIface .nilIface).run P w = .ok () w := by cases op <;> simp [eqGuard]
theorem FA {b o l l' c : Nat} (h : l = l') : some (Slc b o l c) = some (Slc b o l' c) := by rw [h]
end Go.Sx
namespace Go.Sx
open Go Go.RowKit
open Go.ChangeShapes Go.WideShapes
section
variable {H : Type} {enc : TypeId × Value → H} {P : Program} {w : World} {base : Nat} {spare : Nat → Bool} {held : Bool} {r : Reach} {b0 : Nat}
theorem all_u8 : ∀ (L : List Value), (∀ i, i < L.length → ∃ u : UInt8, L[i]? = some (.int .u8 u.toNat)) → ∃ l : List UInt8, L = cu8 l
 | [], _ => ⟨[], rfl⟩
 | x :: L, h => by
  obtain ⟨u, hu⟩ := h 0 (by simp)
  simp at hu
  obtain ⟨l, hl⟩ := all_u8 L (fun i hi => by have := h (i + 1) (by simp; omega); simpa using this)
  exact ⟨u :: l, by rw [hl, hu]; rfl⟩
theorem open_arr_u8 {t e : TypeId} {n : Nat} {v : Value} {d : DataW H} {ps : List MemPlace} (ht : P.underlying t = some (.array n e)) (he : P.underlying e = some (.int .u8)) (hc : P.cellsOf e = 1) (hT : P.cellsOf t = n)
  (hval : Value.okWide P w r b0 t v) (hd : DataW.Trod enc P w base spare held t v d ps) : ∃ l : List UInt8, v = .agg (cu8 l).toArray ∧ l.length = n := by
 simp only [Value.okWide, ht] at hval
 obtain ⟨cs, rfl, hsz, _⟩ := hval
 obtain ⟨fuel, hf⟩ := hd
 obtain ⟨xs, m, _, _, hlen, hxs, hget⟩ := DataW.trod_array ht hf
 have hcs : (Value.agg cs).cells = cs := rfl
 rw [hcs] at hlen hget
 have hel : ∀ i, i < n → ∃ u : UInt8, cs.toList[i]? = some (.int .u8 u.toNat) := by
  intro i hi
  have hg := hget i hi
  rw [hc, Nat.mul_one] at hg
  have hx : xs[i]? = some (xs[i]'(by omega)) := by simp [hxs, hi]
  rw [hx] at hg
  obtain ⟨z, hz, _, hw⟩ := DataW.trod_int he hg
  obtain ⟨u, rfl⟩ := wf_u8 hw
  refine ⟨u, ?_⟩
  have h0 : ((cs.toList.drop i).take 1)[0]? = some (.int .u8 u.toNat) := by rw [hz]; rfl
  rw [List.getElem?_take, if_pos (by omega), List.getElem?_drop] at h0
  simpa using h0
 have hall : ∃ l : List UInt8, cs.toList = cu8 l := by
  have hl : cs.toList.length = n := by rw [hlen, hT]
  exact all_u8 _ (fun i hi => hel i (by omega))
 obtain ⟨l, hl⟩ := hall
 refine ⟨l, by rw [← hl], ?_⟩
 have := congrArg List.length hl
 simp at this
 rw [← this]
 simpa [hT] using hsz
end
end Go.Sx
namespace Go.Sx
open Go Go.RowKit
variable {C : Cx} {F : Frm} {L L0 : List Ent} {Q : Exit → Act → World → Prop} {ops : Array Oper}
abbrev markOf (D : Nat) : Deferred := { target := .collected D, args := #[] }
theorem Hp.here {w0 w : World} {M : List Nat} (hw : Hp w0 M L w) : Hp w (L.map Ent.b) L w :=
 ⟨rfl, rfl, rfl, Nat.le_refl _, fun _ _ _ => rfl, hw.ent, hw.nd, fun _ he => .inl (List.mem_map_of_mem he)⟩
theorem Hp.perm {w0 w : World} {M : List Nat} {L' : List Ent} (hw : Hp w0 M L w) (hp : L.Perm L') : Hp w0 M L' w :=
 hw.sub (fun _ he => hp.mem_iff.2 he) ((hp.map Ent.b).nodup_iff.1 hw.nd)
theorem putObj_twice (w : World) (l : Nat) (o o' : Obj) : (w.putObj l o).putObj l o' = w.putObj l o' := by
 simp only [World.putObj, World.mk.injEq, and_true]
 apply Array.ext_getElem?
 intro i
 simp only [Array.getElem?_setIfInBounds, Array.size_setIfInBounds]
 split <;> simp_all
theorem putObj_self {w : World} {l : Nat} {o : Obj} (h : w.heap[l]? = some o) : w.putObj l o = w := by
  simp only [World.putObj]
  have : w.heap.setIfInBounds l o = w.heap := by
    apply Array.ext_getElem?
    intro i
    simp only [Array.getElem?_setIfInBounds]
    split
    · rename_i hi; subst hi
      have := (Array.getElem?_eq_some_iff.1 h).1
      rw [if_pos this, h]
    · rfl
  rw [this]
theorem Hp.far {w0 w : World} {M : List Nat} {l : Nat} (hw : Hp w0 M L w) (h0 : l < w0.heap.size) (hM : l ∉ M) : ∀ e ∈ L, e.b ≠ l := fun e he h => by
  rcases hw.own e he with h1 | h1
  · exact hM (h ▸ h1)
  · omega
theorem Hp.both {w0 w : World} {M : List Nat} {l : Nat} (hw : Hp w0 M L w) (o : Obj) (h0 : l < w0.heap.size) (hM : l ∉ M) : Hp (w0.putObj l o) M L (w.putObj l o) :=
  ⟨hw.os, hw.tape, hw.output, by simpa using hw.le, fun b hb hM' => by
    by_cases e : b = l
    · subst e
      rw [World.putObj_heap_same h0, World.putObj_heap_same (Nat.lt_of_lt_of_le h0 hw.le)]
    · rw [World.putObj_heap_other e, World.putObj_heap_other e]; exact hw.old b (by simpa using hb) hM',
   fun e he => by rw [World.putObj_heap_other (hw.far h0 hM e he)]; exact hw.ent e he, hw.nd, fun e he => by simpa using hw.own e he⟩
theorem Hp.putObj {w0 w : World} {M : List Nat} {D : Nat} (hw : Hp w0 M L w) (o : Obj) (hD : w0.heap.size ≤ D) (hL : ∀ e ∈ L, e.b ≠ D) : Hp w0 M L (w.putObj D o) :=
  ⟨hw.os, hw.tape, hw.output, by simpa using hw.le, fun b hb hM => by
    rw [World.putObj_heap_other (by omega)]; exact hw.old b hb hM,
   fun e he => by rw [World.putObj_heap_other (hL e he)]; exact hw.ent e he, hw.nd, hw.own⟩
theorem Hp.allocObj {w0 w : World} {M : List Nat} (hw : Hp w0 M L w) (o : Obj) : Hp w0 M L (w.alloc o) :=
  ⟨hw.os, hw.tape, hw.output, by have := hw.le; simp; omega, fun b hb hM => by
    rw [Below.heap_alloc _ _ _ (by have := hw.le; omega)]; exact hw.old b hb hM,
   fun e he => by rw [Below.heap_alloc _ _ _ (Array.getElem?_eq_some_iff.1 (hw.ent e he)).1]; exact hw.ent e he, hw.nd, hw.own⟩
theorem Hp.lt {w0 w : World} {M : List Nat} (hw : Hp w0 M L w) : ∀ e ∈ L, e.b < w.heap.size := fun e he => (Array.getElem?_eq_some_iff.1 (hw.ent e he)).1
theorem Hp.notCells {w0 w : World} {M : List Nat} {D : Nat} {o : Obj} (hw : Hp w0 M L w) (hD : w.heap[D]? = some o) (ho : o.isCells = false) : ∀ e ∈ L, e.b ≠ D := fun e he h => by
 have := hw.ent e he
 rw [h, hD] at this
 cases this
 cases ho
theorem Hp.next {w0 w w' : World} {M : List Nat} {A S S' : List Ent} (h : Hp w0 M (A ++ S) w) (h' : Hp w (S.map Ent.b) S' w') : Hp w0 M (A ++ S') w' :=
 h.call h' List.perm_append_comm rfl
theorem Hp.then {w0 w w' : World} {M : List Nat} {L' : List Ent} (h : Hp w0 M L w) (h' : Hp w (L.map Ent.b) L' w') : Hp w0 M L' w' := by
 simpa using Hp.next (A := []) h h'
def RoundEnd (l : Nat) (W : World) (M : List Nat) (N : List Ent → Prop) (X : List Ent → Obj → Prop) (e : Ending) (W' : World) : Prop :=
 (e = .returned (.bool true) ∧ ∃ L', N L' ∧ Hp W M L' W') ∨ (e = .returned (.bool false) ∧ ∃ L' o, X L' o ∧ Hp (W.putObj l o) M L' W')
def Iter (P : Program) (gf : FuncId) (lb : Array Value) (E0 : List Ent) (Rb : List Nat) (w0 : World) (go fin : Nat → Prop) (enc : Nat → Value) : Prop :=
 ∀ (l B : Nat) (W : World) (S : Nat → List Ent → Prop) (X : Nat → List Ent → Obj → Prop) (S0 : List Ent), S 0 S0 → Hp W ((E0 ++ S0).map Ent.b) (E0 ++ S0) W → l < W.heap.size → l ∉ (E0 ++ S0).map Ent.b →
  (∀ b ∈ Rb, b ∉ (E0 ++ S0).map Ent.b ∧ W.heap[b]? = w0.heap[b]? ∧ b ≠ l) →
  (∀ k Sk W1, go k → k ≤ B → S k Sk → Hp W ((E0 ++ S0).map Ent.b) Sk W1 →
   YieldAt (Fc none) 0 P l #[enc k] W1 (RoundEnd l W1 (Sk.map Ent.b) (fun L' => k + 1 ≤ B ∧ S (k + 1) L') (X k))) →
  CallsIn (Fc none) 0 P gf (#[.func (.yield l) #[] #[]] ++ lb) W fun e W' => (∃ v, e = .returned v) ∧
   ((∃ k L', fin k ∧ S k L' ∧ Hp W ((E0 ++ S0).map Ent.b) L' W') ∨ (∃ k L' o, go k ∧ X k L' o ∧ Hp (W.putObj l o) ((E0 ++ S0).map Ent.b) L' W'))
theorem JL_yield {l0 : List Oper} {x : Operand} {args : Array Operand} {ats : Array TypeId} {ty : TypeId} (l : Nat) (vs : List Value) (A S : List Ent) (N : List Ent → Prop) (X : List Ent → Obj → Prop)
    {d : Nat} {pos : String} {aft : Array Edge} (hx : ev F x = some (.func (.yield l) #[] #[])) (ha : args.toList.map (ev F) = vs.map some) (hL : L = A ++ S) (hl : l < C.w0.heap.size) (hlM : l ∉ C.M) (hd : Nat.blt d C.n = true)
    (hY : ∀ w, Hp C.w0 C.M L w → YieldAt (Fc C.rd) 0 C.P l vs.toArray w (RoundEnd l w (S.map Ent.b) N X))
    (hT : ∀ L', N L' → JL C Q ops l0 ((d, .bool true) :: F) (A ++ L'))
    (hF : ∀ L' o, X L' o → JL ⟨C.P, C.w0.putObj l o, C.M, C.n, C.rd, C.df⟩ Q ops l0 ((d, .bool false) :: F) (A ++ L')) :
    JL C Q ops (⟨some d, .call { callee := .value x, args := args, argTypes := ats }, ty, pos, aft, none⟩ :: l0) F L := by
  subst hL
  intro a w ha' hw
  refine wpListIn_plain rfl fun K hK => ?_
  have hargs : args.map a.eval = vs.toArray := by
    apply Array.toList_inj.1
    rw [Array.toList_map]
    generalize args.toList = l at ha
    clear hY
    induction l generalizing vs with
    | nil => cases vs <;> simp_all
    | cons o l ih =>
      cases vs with
      | nil => simp at ha
      | cons v vs =>
        simp only [List.map_cons, List.cons.injEq] at ha
        simp [ha'.ev ha.1, ih vs ha.2]
  obtain ⟨fn, tmps, assign, body, hy, hR⟩ := hY w hw
  have hrun : (execOp a.eval ⟨some d, .call { callee := .value x, args := args, argTypes := ats }, ty, pos, aft, none⟩).run C.P w = .ok (.round l fn tmps assign body) w := by
    have h2 := ha'.ev hx
    simp [execOp, resolve, hargs, h2, Deferred.ofValue, invoke, hy]
  unfold Oper.wpIn
  refine ⟨fun _ _ => trivial, ?_⟩
  rw [Oper.semAt_plain _ _ _ (nd_of_run hrun (by simp)), hrun]
  refine ⟨fun h => by simp [Fc] at h, hR.mono ?_⟩
  have hd' : d < C.n := by simpa [Nat.blt_eq] using hd
  rintro e W' (⟨rfl, L', hN, hp⟩ | ⟨rfl, L', o, hX, hp⟩)
  · exact hK _ _ (hT L' hN _ _ (ha'.put _ hd') (hw.next hp))
  · exact hK _ _ (hF L' o hX _ _ (ha'.put _ hd') ((hw.both o hl hlM).next hp))
def BeginPost (C : Cx) (Qb : Exit → Act → World → Prop) (body : Code) (l : Nat) (rb : Obj) : Exit → Act → World → Prop
 | .normal, a, w => w.heap[l]? = C.w0.heap[l]? ∧ body.wpIn (Fc C.rd) 0 C.P Qb a (w.putObj l rb)
 | _, _, _ => False
theorem JQ_begin {Qb : Exit → Act → World → Prop} {body : Code} {l : Nat} {rb : Obj} (h0 : l < C.w0.heap.size) (hM : l ∉ C.M)
  (h : JC ⟨C.P, C.w0.putObj l rb, C.M, C.n, C.rd, C.df⟩ Qb body F L) : JQ C (BeginPost C Qb body l rb) .normal F L :=
 fun a w ha hw => ⟨hw.old l h0 hM, h a _ ha (hw.both rb h0 hM)⟩
def BodyEnd (W : World) (M : List Nat) (N : List Ent → Prop) (X : Code → List Ent → Prop) : Exit → Act → World → Prop
 | .normal, _, w => ∃ L', N L' ∧ Hp W M L' w
 | .exit id, _, w => ∃ L', X (.exit id) L' ∧ Hp W M L' w
 | .ret, _, w => ∃ L', X .ret L' ∧ Hp W M L' w
 | _, _, _ => False
theorem JQ_bodyN {N : List Ent → Prop} {X : Code → List Ent → Prop} (h : N L) : JQ C (BodyEnd C.w0 C.M N X) .normal F L := fun _ _ _ hw => ⟨L, h, hw⟩
theorem JC_range {gop : Operand} {p gf : Nat} {assign body : Code} {lb : Array Value} (A E0 S0 : List Ent) (Rb : List Nat) (go fin : Nat → Prop) (enc : Nat → Value)
    (B : Nat) (S : Nat → List Ent → Prop) (X : Nat → Code → List Ent → Prop) (hro : C.rd = none) (hdf : C.df = [])
    (hg : ev F gop = some (.func (.func gf) #[] lb)) (hcf : ∀ (args : Array Value) (w : World), (callFunc gf args).run C.P w = .ok (.enter gf args) w)
    (hL : L.Perm (A ++ (E0 ++ S0))) (hp : Nat.blt p C.n = true) (hS0 : S 0 S0) (hRb : ∀ b ∈ Rb, b < C.w0.heap.size ∧ b ∉ C.M ∨ b ∈ A.map Ent.b)
    (hit : ∀ w, Hp C.w0 C.M L w → Iter C.P gf lb E0 Rb w go fin enc)
    (hround : ∀ l rb k Sk W1, go k → k ≤ B → S k Sk → l < W1.heap.size → l ∉ Sk.map Ent.b →
      (∀ e ∈ A, W1.heap[e.b]? = some (.cells e.cs.toArray e.T e.fz) ∧ e.b ∉ Sk.map Ent.b ∧ e.b ≠ l) →
      (∀ b, b < C.w0.heap.size → b ∉ C.M → W1.heap[b]? = C.w0.heap[b]? ∧ b ∉ Sk.map Ent.b ∧ b ≠ l) → C.w0.heap.size ≤ W1.heap.size →
      JC ⟨C.P, W1, Sk.map Ent.b, C.n, some l, []⟩ (BeginPost ⟨C.P, W1, Sk.map Ent.b, C.n, some l, []⟩ (BodyEnd (W1.putObj l rb) (Sk.map Ent.b) (fun L' => k + 1 ≤ B ∧ S (k + 1) L') (X k)) body l rb) assign ((p, enc k) :: F) Sk)
    (hdone : ∀ D k L' W', fin k → S k L' → Hp C.w0 C.M (A ++ L') W' → W'.heap[D]? = some (.deferred (some [])) → C.w0.heap.size ≤ D →
      JQ ⟨C.P, W', (A ++ L').map Ent.b, C.n, none, [markOf D]⟩ Q .normal F (A ++ L'))
    (hstop : ∀ D k c L' W', go k → X k c L' → Hp C.w0 C.M (A ++ L') W' → W'.heap[D]? = some (.deferred (some [])) → C.w0.heap.size ≤ D →
      JC ⟨C.P, W', (A ++ L').map Ent.b, C.n, none, [markOf D]⟩ Q c F (A ++ L')) : JC C Q (.rangeFunc gop #[p] assign body) F L := by
  intro a w ha hw
  have hp' : p < C.n := by simpa [Nat.blt_eq] using hp
  have hwp := hw.perm hL
  refine wpIn_rangeFunc ?_
  intro fn hfn
  rw [hro]
  show ∃ (l : Nat) (mark : List Deferred) (w₁ : World) (d : Deferred) (w₁' : World) (f : FuncId) (args : Array Value) (w₂ : World),
    (Instr.enterLoop fn a.tmps #[p] assign body none).run C.P w = _ ∧ _
  obtain ⟨rec, hrec⟩ : ∃ rec : LoopState → Option Code → Loop, rec = fun st pe => { state := st, pending := pe, fn, tmps := a.tmps, params := #[p], assign, body, defers := w.heap.size } := ⟨_, rfl⟩
  obtain ⟨W1, hW1⟩ : ∃ W1, (w.alloc (.deferred (some []))).alloc (.loop (rec .ready none)) = W1 := ⟨_, rfl⟩
  have hsz : W1.heap.size = w.heap.size + 2 := by rw [← hW1]; simp
  have hL1 : W1.heap[w.heap.size + 1]? = some (.loop (rec .ready none)) := by
    rw [← hW1]; have := World.alloc_heap_new (w.alloc (.deferred (some []))) (.loop (rec .ready none)); rwa [World.size_alloc] at this
  have hK1 : W1.heap[w.heap.size]? = some (.deferred (some [])) := by
    rw [← hW1]; exact (Below.heap_alloc _ _ _ (by simp)).trans (World.alloc_heap_new w _)
  have hq1 : Hp C.w0 C.M (A ++ (E0 ++ S0)) W1 := by rw [← hW1]; exact (hwp.allocObj _).allocObj _
  have hlt : ∀ e ∈ A ++ (E0 ++ S0), e.b < w.heap.size := hwp.lt
  have hlM : ∀ m, w.heap.size ≤ m → m ∉ (E0 ++ S0).map Ent.b := fun m hm h => by
    obtain ⟨e, he, rfl⟩ := List.mem_map.1 h
    have := hlt e (List.mem_append.2 (.inr he)); omega
  have hnd : ((A ++ (E0 ++ S0)).map Ent.b).Nodup := hwp.nd
  have hAn : ∀ e ∈ A, e.b ∉ (E0 ++ S0).map Ent.b := fun e he h => by
    rw [List.map_append, List.nodup_append] at hnd
    exact hnd.2.2 _ (List.mem_map_of_mem he) _ h rfl
  refine ⟨w.heap.size + 1, [markOf w.heap.size], W1, { target := .fn (.func gf) lb, args := #[.func (.yield (w.heap.size + 1)) #[] #[]] }, W1, gf,
    #[.func (.yield (w.heap.size + 1)) #[] #[]] ++ lb, W1, ?_, ?_, fun _ _ => trivial, ?_, fun h => by simp [Fc] at h, ?_⟩
  · rw [← hW1, hrec]; exact run_enterLoop_outer _ _ _ _ _
  · simp only [resolve, ha.ev hg]
    simp [go_sem]
  · simp [invoke, go_sem, hcf]
  · have hwq : Hp W1 ((E0 ++ S0).map Ent.b) (E0 ++ S0) W1 :=
      ⟨rfl, rfl, rfl, Nat.le_refl _, fun _ _ _ => rfl, fun e he => hq1.ent e (List.mem_append.2 (.inr he)), (by rw [List.map_append, List.nodup_append] at hnd; exact hnd.2.1), fun e he => .inl (List.mem_map_of_mem he)⟩
    refine (hit w hw (w.heap.size + 1) B W1 S (fun k L' o => ∃ c, X k c L' ∧ o = .loop (rec .done (some c))) S0 hS0 hwq (by omega) (hlM _ (by omega)) ?_ ?_).mono ?_
    · intro b hb
      rcases hRb b hb with ⟨h1, h2⟩ | h1
      · have hbw : b < w.heap.size := Nat.lt_of_lt_of_le h1 hw.le
        refine ⟨fun h => ?_, ?_, by omega⟩
        · obtain ⟨e, he, rfl⟩ := List.mem_map.1 h
          rcases hwp.own e (List.mem_append.2 (.inr he)) with h3 | h3
          · exact h2 h3
          · omega
        · rw [hq1.old b h1 h2, hw.old b h1 h2]
      · obtain ⟨e, he, rfl⟩ := List.mem_map.1 h1
        have hbw := hlt e (List.mem_append.2 (.inl he))
        exact ⟨hAn e he, by rw [hq1.ent e (List.mem_append.2 (.inl he)), hwp.ent e (List.mem_append.2 (.inl he))], by omega⟩
    · -- one round
      intro k Sk W2 hgo hkB hSk hp2
      have hl2 : W2.heap[w.heap.size + 1]? = some (.loop (rec .ready none)) := (hp2.old _ (by omega) (hlM _ (by omega))).trans hL1
      have hlS : w.heap.size + 1 ∉ Sk.map Ent.b := fun h => by
        obtain ⟨e, he, h⟩ := List.mem_map.1 h
        exact hp2.far (by omega) (hlM _ (by omega)) e he h
      have hl2' : w.heap.size + 1 < W2.heap.size := (Array.getElem?_eq_some_iff.1 hl2).1
      have hy := run_yield (P := C.P) (args := #[enc k]) hl2 (by rw [hrec]; rfl)
      rw [hrec] at hy
      replace hy : (Instr.yield (w.heap.size + 1) #[enc k]).run C.P W2 = .ok (.round (w.heap.size + 1) fn (a.tmps.setIfInBounds p (enc k)) assign body) W2 := by rw [hy]; simp
      refine ⟨fn, _, assign, body, hy, roundIn_of_wpIn hfn ?_⟩
      have hfr : Fr ((p, enc k) :: F) ⟨C.P, W2, Sk.map Ent.b, C.n, some (w.heap.size + 1), []⟩ { tmps := a.tmps.setIfInBounds p (enc k), defers := [] } := by
        have := ha.put (enc k) hp'
        exact ⟨rfl, this.2.1, this.2.2⟩
      refine wpIn_mono (hround (w.heap.size + 1) (.loop { rec .ready none with state := .busy }) k Sk W2 hgo hkB hSk hl2' hlS ?_ ?_ ?_ _ W2 hfr hp2.here) ?_
      · intro e he
        have heM := hAn e he
        have heW := hlt e (List.mem_append.2 (.inl he))
        refine ⟨?_, fun h => ?_, by omega⟩
        · rw [hp2.old e.b (by omega) heM]; exact hq1.ent e (List.mem_append.2 (.inl he))
        · obtain ⟨x, hx, h⟩ := List.mem_map.1 h
          exact hp2.far (by omega) heM x hx h
      · intro b hb hbM
        have hbw : b < w.heap.size := Nat.lt_of_lt_of_le hb hw.le
        have hbS : b ∉ (E0 ++ S0).map Ent.b := fun h => by
          obtain ⟨e, he, rfl⟩ := List.mem_map.1 h
          rcases hwp.own e (List.mem_append.2 (.inr he)) with h3 | h3
          · exact hbM h3
          · omega
        refine ⟨?_, fun h => ?_, by omega⟩
        · rw [hp2.old b (by omega) hbS, hq1.old b hb hbM]
        · obtain ⟨x, hx, h⟩ := List.mem_map.1 h
          exact hp2.far (by omega) hbS x hx h
      · have := hw.le; have := hp2.le; omega
      · intro e a1 w1 hq
        cases e with
        | normal =>
          obtain ⟨hl3, hbody⟩ := hq
          refine ⟨_, run_beginRound (hl3.trans hl2) (by rw [hrec]), wpIn_mono hbody ?_⟩
          intro e a3 w3 hend
          have fin : ∀ (jump : Option Code) (L' : List Ent), Hp (W2.putObj (w.heap.size + 1) (.loop { rec .ready none with state := .busy })) (Sk.map Ent.b) L' w3 →
              (Instr.endRound (w.heap.size + 1) jump).run C.P w3 = .ok (.bool jump.isNone) (w3.putObj (w.heap.size + 1) (.loop (rec (if jump.isNone then .ready else .done) jump))) ∧
              Hp (W2.putObj (w.heap.size + 1) (.loop (rec (if jump.isNone then .ready else .done) jump))) (Sk.map Ent.b) L' (w3.putObj (w.heap.size + 1) (.loop (rec (if jump.isNone then .ready else .done) jump))) := fun jump L' h3 => by
            have hl4 : w3.heap[w.heap.size + 1]? = some (.loop { rec .ready none with state := .busy }) := (h3.old _ (by simpa using hl2') hlS).trans (World.putObj_heap_same hl2')
            have := run_endRound (P := C.P) jump hl4
            rw [hrec] at this ⊢
            refine ⟨this, ?_⟩
            have h5 := h3.both (.loop (rec (if jump.isNone then .ready else .done) jump)) (by simpa using hl2') hlS
            rw [putObj_twice] at h5
            rw [hrec] at h5
            exact h5
          cases e with
          | normal =>
            obtain ⟨L', hN, h3⟩ := hend
            obtain ⟨hr, h5⟩ := fin none L' h3
            refine ⟨_, _, hr, .inl ⟨rfl, L', hN, ?_⟩⟩
            rw [show W2.putObj (w.heap.size + 1) (.loop (rec (if (none : Option Code).isNone then .ready else .done) none)) = W2 from putObj_self hl2] at h5
            exact h5
          | ret =>
            obtain ⟨L', hX, h3⟩ := hend
            obtain ⟨hr, h5⟩ := fin (some .ret) L' h3
            exact ⟨_, _, hr, .inr ⟨rfl, L', _, ⟨_, hX, rfl⟩, h5⟩⟩
          | exit id =>
            obtain ⟨L', hX, h3⟩ := hend
            obtain ⟨hr, h5⟩ := fin (some (.exit id)) L' h3
            exact ⟨_, _, hr, .inr ⟨rfl, L', _, ⟨_, hX, rfl⟩, h5⟩⟩
          | goto t => exact hend.elim
          | panic ch => exact hend.elim
          | outgrown => exact hend.elim
        | ret => exact hq.elim
        | exit id => exact hq.elim
        | goto t => exact hq.elim
        | panic ch => exact hq.elim
        | outgrown => exact hq.elim
    · rintro e W2 ⟨⟨v, rfl⟩, (⟨k, L', hfin, hS, h2⟩ | ⟨k, L', o, hgo, ⟨c, hX, rfl⟩, h2⟩)⟩
      · have hl2 : W2.heap[w.heap.size + 1]? = some (.loop (rec .ready none)) := (h2.old _ (by omega) (hlM _ (by omega))).trans hL1
        have hk2 : W2.heap[w.heap.size]? = some (.deferred (some [])) := (h2.old _ (by omega) (hlM _ (by omega))).trans hK1
        have hA : Hp C.w0 C.M (A ++ L') W2 := hq1.next h2
        have := run_endLoop (P := C.P) hl2 (by rw [hrec]; simp)
        rw [hrec] at this
        refine ⟨none, _, this, ?_⟩
        have h4 := hA.putObj (.loop { rec .ready none with state := .exhausted }) (D := w.heap.size + 1) (by have := hw.le; omega) (hA.notCells hl2 rfl)
        rw [hrec] at h4
        exact hdone _ k L' _ hfin hS h4 ((World.putObj_heap_other (by omega)).trans hk2) hw.le _ _ ⟨by simp [ha.1, hdf], ha.2.1, ha.2.2⟩ h4.here
      · have hl2 : W2.heap[w.heap.size + 1]? = some (.loop (rec .done (some c))) := (h2.old _ (by simp; omega) (hlM _ (by omega))).trans (World.putObj_heap_same (by omega))
        have hk2 : W2.heap[w.heap.size]? = some (.deferred (some [])) := (h2.old _ (by simp; omega) (hlM _ (by omega))).trans ((World.putObj_heap_other (by omega)).trans hK1)
        have hq2 : Hp C.w0 C.M (A ++ (E0 ++ S0)) (W1.putObj (w.heap.size + 1) (.loop (rec .done (some c)))) := hq1.putObj _ (by have := hw.le; omega) (hq1.notCells hL1 rfl)
        have hA : Hp C.w0 C.M (A ++ L') W2 := hq2.next h2
        have := run_endLoop (P := C.P) hl2 (by rw [hrec]; simp)
        rw [hrec] at this
        refine ⟨some c, _, this, ?_⟩
        have h4 := hA.putObj (.loop { rec .done (some c) with state := .exhausted }) (D := w.heap.size + 1) (by have := hw.le; omega) (hA.notCells hl2 rfl)
        rw [hrec] at h4
        exact hstop _ k c L' _ hgo hX h4 ((World.putObj_heap_other (by omega)).trans hk2) hw.le _ _ ⟨by simp [ha.1, hdf], ha.2.1, ha.2.2⟩ h4.here
theorem enterM {P : Program} {f : FuncId} {fn : Func} {c : Code} {R : Ending → World → Prop} (w0 : World) (M : List Nat) (n : Nat) (L : List Ent) (args : List Value)
    (hf : P.funcs[f]? = some fn) (hb : fn.body = some c) (hn : fn.ntmps = n) (hlen : args.length ≤ n) (hw : Hp w0 M L w0)
    (h : JC ⟨P, w0, M, n, none, []⟩ (bodyPostM (Fc none) 0 P fn R) c (argF 0 args) L) : Calls P f args.toArray w0 R := by
  refine callsIn_wide.1 (callsIn_of_wp_marks (n := 0) hf hb trivial (h _ _ ⟨rfl, ?_, fun i v hi => ?_⟩ hw))
  · simp [hn]; omega
  · obtain ⟨_, h2⟩ := argF_lk args 0 i v hi
    have hi' : i < args.length := by
      have := (List.getElem?_eq_some_iff.1 h2).1
      simpa using this
    simp only [Array.getElem?_append, List.size_toArray]
    rw [if_pos hi']
    simpa using h2
theorem JQ_retM0 {fn : Func} {R : Ending → World → Prop} (v : Value) (hr : ∀ a w, Fr F C a → Hp C.w0 C.M L w → (results fn a.tmps).run C.P w = .ok v w)
  (h : ∀ w, Hp C.w0 C.M L w → R (.returned v) w) (hdf : C.df = [] := by rfl) : JQ C (bodyPostM (Fc none) 0 C.P fn R) .ret F L := fun a w ha hw => by
 show LeavesInM _ _ _ _ _ _ a.defers _ _
 rw [ha.1, hdf]
 exact ⟨v, hr a w ha hw, h w hw⟩
theorem JQ_retM {fn : Func} {R : Ending → World → Prop} (D : Nat) (v : Value) (hdf : C.df = [markOf D]) (hD : C.w0.heap[D]? = some (.deferred (some []))) (hM : C.M = L0.map Ent.b) (h0 : Hp C.w0 C.M L0 C.w0)
  (hr : ∀ w0 a w, Fr F ⟨C.P, w0, C.M, C.n, C.rd, C.df⟩ a → Hp w0 C.M L w → (results fn a.tmps).run C.P w = .ok v w)
  (h : ∀ w, Hp C.w0 C.M L w → R (.returned v) (w.putObj D (.deferred none))) : JQ C (bodyPostM (Fc none) 0 C.P fn R) .ret F L := fun a w ha hw => by
 show LeavesInM _ _ _ _ _ _ a.defers _ _
 rw [ha.1, hdf]
 have hDM : D ∉ C.M := fun hm => by
  rw [hM] at hm
  obtain ⟨e, he, h1⟩ := List.mem_map.1 hm
  exact h0.notCells hD rfl e he h1
 have hlt := (Array.getElem?_eq_some_iff.1 hD).1
 have hDw : w.heap[D]? = some (.deferred (some [])) := (hw.old D hlt hDM).trans hD
 refine ⟨by simp, .inl ⟨D, _, rfl, run_takeDeferred hDw, v, hr (C.w0.putObj D (.deferred none)) a _ ha (hw.both _ hlt hDM), h w hw⟩⟩
end Go.Sx
namespace Go.Sx
open Go Go.RowKit
variable {C : Cx} {F : Frm} {L : List Ent} {ty T T' : TypeId} {x y : Operand}
theorem Ev_slice3G {lo hi mx : Operand} {ao : Option Addr} {l c : Nat} (e s i j m : Nat) (hu : C.P.underlying T = some (.slice e)) (hS : ∀ w, (sizeOf e).run C.P w = .ok s w) (hx : ev F x = some (.slice ao l c))
  (hl : ev F lo = some (I64 i)) (hh : ev F hi = some (I64 j)) (hm : ev F mx = some (I64 m))
  (h1 : i ≤ j) (h2 : j ≤ m) (h3 : m ≤ c) : Ev C F L (.slice T x (some lo) (some hi) (some mx)) ty (.slice (if m = i then ao else ao.map (·.add (i * s))) (j - i) (m - i)) := fun a w ha _ d pos aft g => by
 have g0 : (Instr.sliceBound (I64 m) c .slice3Acap).run C.P w = .ok m w := by
  simp only [Instr.sliceBound, asIntOf]
  simp [h3]
 have g1 : (Instr.sliceBound (I64 j) m .slice3B).run C.P w = .ok j w := by
  simp only [Instr.sliceBound, asIntOf]
  simp [h2]
 have g2 : (Instr.sliceBound (I64 i) j .slice3C).run C.P w = .ok i w := by
  simp only [Instr.sliceBound, asIntOf]
  simp [h1]
 simp [execOp, ha.ev hx, ha.ev hl, ha.ev hh, ha.ev hm, Instr.sliceAt, run_underlying hu, Instr.slice, Instr.sliceBounds, hS w, g0, g1, g2]
theorem Ev_slice3 {lo hi mx : Operand} {b off l c : Nat} (e s i j m o c' j' : Nat) (hu : C.P.underlying T = some (.slice e)) (hS : ∀ w, (sizeOf e).run C.P w = .ok s w) (hx : ev F x = some (Slc b off l c))
  (hl : ev F lo = some (I64 i)) (hh : ev F hi = some (I64 j)) (hm : ev F mx = some (I64 m))
  (h1 : i ≤ j) (h2 : j ≤ m) (h3 : m ≤ c) (hne : i < m) (ho : off + i * s = o) (hc : m - i = c') (hj : j - i = j') : Ev C F L (.slice T x (some lo) (some hi) (some mx)) ty (Slc b o j' c') := by
 have := Ev_slice3G (ty := ty) (L := L) e s i j m hu hS hx hl hh hm h1 h2 h3
 rw [if_neg (by omega), Option.map_some, F1, ho, hc, hj] at this
 exact this
theorem Ev_makeFunc {f : Nat} {cap : Array Operand} {vs : List Value} (hc : cap.toList.map (ev F) = vs.map some) (hr : ∀ (w : World) (ps : Array Value), (Instr.makeFunc (.func f) #[] ps).run C.P w = .ok (.func (.func f) #[] ps) w) :
  Ev C F L (.makeFunc (.func f) #[] cap) ty (.func (.func f) #[] vs.toArray) := fun a w ha _ d pos aft g => by
 have hargs : cap.map a.eval = vs.toArray := by
  apply Array.toList_inj.1
  rw [Array.toList_map]
  generalize cap.toList = l at hc
  clear hr
  induction l generalizing vs with
  | nil => cases vs <;> simp_all
  | cons o l ih =>
   cases vs with
   | nil => simp at hc
   | cons v vs =>
    simp only [List.map_cons, List.cons.injEq] at hc
    simp [ha.ev hc.1, ih hc.2]
 simp [execOp, hargs, hr]
theorem Ev_min {t1 t2 : TypeId} {a b r : Int} (hx : ev F x = some (I64 a)) (hy : ev F y = some (I64 b)) (hr : min a b = r) :
  Ev C F L (.call { callee := .builtin .min, args := #[x, y], argTypes := #[t1, t2] }) ty (I64 r) := fun a' w ha _ d pos aft g => by
 have e1 := ha.ev hx
 have e2 := ha.ev hy
 subst hr
 simp [execOp, resolve, invoke, e1, e2, builtin, Builtin.min_, Builtin.min2]
 split <;> omega
theorem D9 {ao : Option Addr} {b off l c : Nat} {i : Int} {k : IntKind} (e s : Nat) (o : Nat) (hu : C.P.underlying T = some (.slice e)) (hS : ∀ w, (sizeOf e).run C.P w = .ok s w) (hx : ev F x = some (.slice ao l c)) (hao : ao = some ⟨b, off, none⟩) (hy : ev F y = some (.int k i))
  (h0 : 0 ≤ i) (h1 : i < l) (ho : off + i.toNat * s = o) : Ev C F L (.indexAddr T x y) ty (Ptr b o) := by
 subst hao; exact FC e s o hu hS hx hy h0 h1 ho
theorem Step_make8 {x y : Operand} {ty T : TypeId} (e bytes : Nat) (ln cp : Nat) (hu : C.P.underlying T = some (.slice e)) (hi : (C.P.info? e).map (fun i => (i.zero, i.size, i.bytes)) = some (some (.int .u8 0), 1, bytes))
  (hx : ev F x = some (I64 ln)) (hy : ev F y = some (I64 cp)) (h1 : ln ≤ cp) (h2 : bytes * cp ≤ 140737488355328) (h3 : cp ≤ maxLen) :
  Step C F L (.makeSlice T x y) ty fun v' L' => ∃ nb, C.w0.heap.size ≤ nb ∧ v' = Slc nb 0 ln cp ∧ L' = L ++ [⟨nb, cu8 (zr8 cp), e, (0, 0)⟩] := by
 have := Step_make (L := L) (ty := ty) e bytes (.int .u8 0) ln cp hu hi rfl hx hy h1 h2 h3
 rw [cu8_zr] at this
 exact this
theorem C5 {x y : Operand} {ty : TypeId} (t e : Nat) (m : List Bool) (v : Value) (n : Nat) (l z : List UInt8) (ao : Option Addr) (k c tot : Nat)
  (hu : C.P.underlying t = some (.slice e)) (hi : (C.P.info? e).map (fun i => (i.zero, i.size, i.bytes)) = some (some (.int .u8 0), 1, 1))
  (hx : ev F x = some v)
  (hv : (v = .slice none 0 0 ∧ n = 0 ∧ l = [] ∧ take? m L = [] ∧ 0 < k) ∨ (∃ g sp cap, v = Slc g 0 n cap ∧ take? m L = [⟨g, cu8 l ++ sp, e, (0, 0)⟩] ∧ l.length = n ∧ sp.length = cap - n ∧ n ≤ cap ∧ cap ≤ maxLen))
  (hy : ev F y = some (.slice ao k c)) (hk : z.length = k) (hm : SrcAt C L ao (cu8 z)) (hmax : (n + k) * 1 ≤ 140737488355328) (hmax' : n + k ≤ maxLen) (htot : n + k = tot) :
  Step C F L (.call { callee := .builtin .append, args := #[x, y], argTypes := #[t, t] }) ty fun v' L' => ∃ g sp cap, (C.w0.heap.size ≤ g ∨ g ∈ C.M) ∧ v' = Slc g 0 tot cap ∧ L' = rest? m L ++ [⟨g, cu8 (l ++ z) ++ sp, e, (0, 0)⟩] ∧ (l ++ z).length = tot ∧ sp.length = cap - tot ∧ tot ≤ cap ∧ cap ≤ maxLen := by
 subst htot
 exact Step_append8 t e m v n l z ao k c hu hi hx hv hy hk hm hmax hmax'
theorem Step_appM64 {x y : Operand} {ty : TypeId} (t e : Nat) (m : List Bool) (v : Value) (n : Nat) (l z : List UInt64) (ao : Option Addr) (k c tot : Nat)
  (hu : C.P.underlying t = some (.slice e)) (hi : (C.P.info? e).map (fun i => (i.zero, i.size, i.bytes)) = some (some (.int .u64 0), 1, 8))
  (hx : ev F x = some v)
  (hv : (v = .slice none 0 0 ∧ n = 0 ∧ l = [] ∧ take? m L = [] ∧ 0 < k) ∨ (∃ g sp cap, v = Slc g 0 n cap ∧ take? m L = [⟨g, cu64 l ++ sp, e, (0, 0)⟩] ∧ l.length = n ∧ sp.length = cap - n ∧ n ≤ cap ∧ cap ≤ maxLen))
  (hy : ev F y = some (.slice ao k c)) (hk : z.length = k) (hm : SrcAt C L ao (cu64 z)) (hmax : (n + k) * 8 ≤ 140737488355328) (hmax' : n + k ≤ maxLen) (htot : n + k = tot) :
  Step C F L (.call { callee := .builtin .append, args := #[x, y], argTypes := #[t, t] }) ty fun v' L' => ∃ g sp cap, (C.w0.heap.size ≤ g ∨ g ∈ C.M) ∧ v' = Slc g 0 tot cap ∧ L' = rest? m L ++ [⟨g, cu64 (l ++ z) ++ sp, e, (0, 0)⟩] ∧ (l ++ z).length = tot ∧ sp.length = cap - tot ∧ tot ≤ cap ∧ cap ≤ maxLen := by
 subst htot
 exact Step_append64 t e m v n l z ao k c hu hi hx hv hy hk hm hmax hmax'
def u64i (x : Int) : UInt64 := UInt64.ofNat (x % 18446744073709551616).toNat
theorem conv_i64_u64i {P : Program} {w : World} {src dst : TypeId} (hs : (P.underlying src).isSome = true) (hd : P.underlying dst = some (.int .u64)) (x : Int) : (convert src dst (I64 x)).run P w = .ok (U64 (u64i x)) w :=
 conv_int _ _ hs hd _ (by
  rw [wrap_u64', u64i, UInt64.toNat_ofNat']
  have h1 : 0 ≤ x % 18446744073709551616 := Int.emod_nonneg _ (by omega)
  have h2 : x % 18446744073709551616 < 18446744073709551616 := Int.emod_lt_of_pos _ (by omega)
  rw [Nat.mod_eq_of_lt (by omega)]; omega)
theorem un_neg_i {P : Program} {w : World} (x r : Int) (h : -9223372036854775808 ≤ r ∧ r ≤ 9223372036854775807) (hr : -x = r) : (Op.unary .neg (I64 x)).run P w = .ok (I64 r) w := by
 subst hr; simp [Op.unary, Op.intArith, wrap_i64_in _ h.1 h.2]
theorem ofN_i {X : Nat} (h : X < 18446744073709551616) : ((UInt64.ofNat X).toNat : Int) = X := by rw [UInt64.toNat_ofNat', Nat.mod_eq_of_lt (by omega)]
theorem FX {ao : Option Addr} {l c t e : Nat} {r : Int} (hu : C.P.underlying t = some (.slice e)) (hx : ev F x = some (.slice ao l c)) (hr : (l : Int) = r) : Ev C F L (.call { callee := .builtin .len, args := #[x], argTypes := #[t] }) ty (I64 r) := by
 subst hr; exact EL hu hx
theorem Hp.right {w0 w : World} {M : List Nat} {A S : List Ent} (h : Hp w0 M (A ++ S) w) : Hp w0 M S w :=
 h.sub (fun _ he => List.mem_append.2 (.inr he)) (List.Sublist.nodup ((List.sublist_append_right A S).map Ent.b) h.nd)
theorem enterI {P : Program} {f : FuncId} {fn : Func} {c : Code} {R : Ending → World → Prop} (w0 : World) (M : List Nat) (n : Nat) (L : List Ent) (args : List Value)
    (hf : P.funcs[f]? = some fn) (hb : fn.body = some c) (hn : fn.ntmps = n) (hlen : args.length ≤ n) (hw : Hp w0 M L w0)
    (h : JC ⟨P, w0, M, n, none, []⟩ (bodyPostM (Fc none) 0 P fn R) c (argF 0 args) L) : CallsIn (Fc none) 0 P f args.toArray w0 R := by
  refine callsIn_of_wp_marks (n := 0) hf hb trivial (h _ _ ⟨rfl, ?_, fun i v hi => ?_⟩ hw)
  · simp [hn]; omega
  · obtain ⟨_, h2⟩ := argF_lk args 0 i v hi
    have hi' : i < args.length := by
      have := (List.getElem?_eq_some_iff.1 h2).1
      simpa using this
    simp only [Array.getElem?_append, List.size_toArray]
    rw [if_pos hi']
    simpa using h2
theorem JQ_endM0 {fn : Func} {R : Ending → World → Prop} (v : Value) (hr : ∀ a w, Fr F C a → Hp C.w0 C.M L w → (results fn a.tmps).run C.P w = .ok v w)
  (h : ∀ w, Hp C.w0 C.M L w → R (.returned v) w) (hdf : C.df = [] := by rfl) : JQ C (bodyPostM (Fc none) 0 C.P fn R) .normal F L := fun a w ha hw => by
 show LeavesInM _ _ _ _ _ _ a.defers _ _
 rw [ha.1, hdf]
 exact ⟨v, hr a w ha hw, h w hw⟩
theorem Hp.fin {w0 W w : World} {M : List Nat} {L0 : List Ent} {D : Nat} (h0 : Hp w0 M L0 W) (hD : W.heap[D]? = some (.deferred (some []))) (hle : w0.heap.size ≤ D) (h1 : Hp W (L0.map Ent.b) L w) (o : Obj) : Hp w0 M L (w.putObj D o) :=
 (h0.then h1).putObj o hle (h1.far (Array.getElem?_eq_some_iff.1 hD).1 fun hm => by
  obtain ⟨e, he, h⟩ := List.mem_map.1 hm
  exact h0.notCells hD rfl e he h)
end Go.Sx
namespace Go.Sx
open Go Go.RowKit
open Go.ChangeShapes Go.WideShapes
section
variable {H : Type} {enc : TypeId × Value → H} {P : Program} {w : World} {base : Nat} {spare : Nat → Bool} {held : Bool}
theorem spot_none {a : Addr} {v : Value} (h : w.cell? a = some v) : a.spot = none := by
  unfold World.cell? at h
  split at h
  · split at h
    · simp at h
    · rename_i hs; simpa using hs
  · simp at h
theorem addr_of_cell {a : Addr} {v : Value} (h : w.cell? a = some v) : a = ⟨a.block, a.off, none⟩ := by
 have := spot_none h
 cases a; simp_all
theorem cell_off {a : Addr} {v : Value} {i : Nat} (h0 : a = ⟨a.block, a.off, none⟩) (h : w.cell? (a.add i) = some v) : w.cell? ⟨a.block, a.off + i, none⟩ = some v := by
 rw [h0, F1] at h; exact h
end
end Go.Sx
namespace Go.Sx
open Go Go.RowKit
variable {C : Cx} {Q : Exit → Act → World → Prop} {F F0 : Frm} {L : List Ent}
def CutQ {ι : Type} (C : Cx) (Q : Exit → Act → World → Prop) (FI : ι → Frm) (LI : ι → List Ent) (Pre : ι → Prop) : Exit → Act → World → Prop := fun e a w =>
 (e = .normal ∧ ∃ x, Pre x ∧ Fr (FI x) C a ∧ Hp C.w0 C.M (LI x) w) ∨ (e ≠ .normal ∧ Q e a w)
theorem JC_cut {ι : Type} {c : Code} (FI : ι → Frm) (LI : ι → List Ent) (Pre : ι → Prop) (h1 : JC C (CutQ C Q FI LI Pre) c F L) (h2 : ∀ x, Pre x → JQ C Q .normal (FI x) (LI x)) : JC C Q c F L := fun a w ha hw => wpIn_mono (h1 a w ha hw) (by
  rintro e a w (⟨rfl, x, hp, ha, hw⟩ | ⟨_, h⟩)
  · exact h2 x hp a w ha hw
  · exact h)
theorem E6 {ι : Type} {FI : ι → Frm} {LI : ι → List Ent} {Pre : ι → Prop} (x : ι) (hp : Pre x) (hF : Sub (FI x) F) (hL : LI x = L) : JQ C (CutQ C Q FI LI Pre) .normal F L := fun a w ha hw => .inl ⟨rfl, x, hp, ha.weaken hF, hL ▸ hw⟩
variable {ops : Array Oper} {Vl : Vals}
end Go.Sx
namespace Go.Sx
open Go Go.RowKit
def errV (T e : Nat) : Value := if e = 0 then .nilIface else .iface T (I64 e)
theorem errV_pos {T e : Nat} (h : e ≠ 0) : errV T e = .iface T (I64 e) := if_neg h
theorem errV_one {T e : Nat} : ∀ u ∈ [errV T e], u.oneCell' = true := by
 intro u hu
 obtain rfl : u = errV T e := by simpa using hu
 unfold errV
 split <;> simp [Value.oneCell']
theorem errV_cells {T e : Nat} : (errV T e).cells.toList = [errV T e] := by
 unfold errV
 split <;> rfl
section
variable {P : Program} {w : World}
theorem CJ (op : BinOp) (t : TypeId) (x : Operand) (v : Value) (T e : Nat) : (eqGuard op t x (.const v) (errV T e) .nilIface).run P w = .ok () w := by
  unfold errV
  split
  · exact eqGuard_nilc op t x v
  · exact eqGuard_if op t x _ _ _
theorem eql_errV {t : TypeId} {ms : Array (String × TypeId)} (hu : P.underlying t = some (.interface ms)) (T e : Nat) : (binOp .eql t (errV T e) .nilIface).run P w = .ok (.bool (decide (e = 0))) w := by
  by_cases h : e = 0
  · subst h; exact eql_if_nil_nil hu
  · rw [errV_pos h, decide_eq_false h]; exact eql_if_nil hu
theorem EF {t : TypeId} {ms : Array (String × TypeId)} (hu : P.underlying t = some (.interface ms)) (T e : Nat) : (binOp .neq t (errV T e) .nilIface).run P w = .ok (.bool (!(decide (e = 0)))) w := by
  by_cases h : e = 0
  · subst h; exact DC hu
  · rw [errV_pos h, decide_eq_false h]; exact neq_if_nil hu
end
end Go.Sx
namespace Go.Proofs.YtkdpdgpphpngeaaDoor
open Go Go.Sx
abbrev AF := @Tryd.underlying26
abbrev AM := @Tryd.underlying43
abbrev AO := @Tryd.underlying29
abbrev AT := @Tryd.sizeOf29
abbrev AU := @Tryd.sizeOf22
abbrev AW := @Tryd.sizeOf5
abbrev AX := @Tryd.isAgg22
abbrev A6 := @Tryd.underlying45
abbrev A8 := @Tryd.sizeOf26
abbrev A9 := @Tryd.isAgg29
abbrev BA := @Tryd.sizeOf3
abbrev BD := @Tryd.sizeOf267
abbrev BE := @Tryd.sizeOf27
abbrev BF := @Tryd.isAgg3
abbrev BJ := @Tryd.underlying27
abbrev BK := @Tryd.zeroValue29
abbrev BL := @Tryd.sizeOf24
abbrev BM := @Tryd.isAgg267
abbrev BS := @Tryd.underlying282
abbrev BW := @Tryd.isAgg24
abbrev BX := @Tryd.underlying268
abbrev B1 := @Tryd.sizeOf54
abbrev B6 := @Tryd.underlying5
abbrev B7 := @Tryd.sizeOf43
abbrev B9 := @Tryd.underlying54
abbrev CA := @Tryd.underlying23
abbrev CB := @Tryd.sizeOf23
abbrev CC := @Tryd.underlying24
abbrev CE := @Tryd.sizeOf161
abbrev CF := @Tryd.underlying22
abbrev CG := @Tryd.underlying3
abbrev CP := @Tryd.isAgg23
abbrev CT := @Tryd.underlying161
abbrev CU := @Tryd.underlying149
abbrev CX := @Tryd.zeroValue5
abbrev DA := @Tryd.underlying50
abbrev DB := @Tryd.underlying36
abbrev DE := @Tryd.isAgg54
abbrev DG := @Tryd.isAgg26
abbrev DL := @Tryd.underlying38
abbrev DO := @Tryd.isAgg27
abbrev DQ := @Tryd.zeroValue54
abbrev DR := @Tryd.underlying267
abbrev DS := @Tryd.underlying117
abbrev D0 := @Tryd.isAgg43
abbrev D2 := @Tryd.underlying204
abbrev D4 := @Tryd.isAgg5
abbrev D5 := @Tryd.call113
abbrev D6 := @Tryd.sizeOf268
abbrev EC := @Tryd.sizeOf36
abbrev ED := @Tryd.isAgg161
abbrev EM := @Tryd.results49
abbrev ER := @Tryd.underlying230
abbrev ES := @Tryd.underlying147
abbrev ET := @Tryd.sizeOf262
abbrev EU := @Tryd.results60
abbrev EV := @Tryd.results12
abbrev EY := @Tryd.call112
abbrev EZ := @Tryd.results69
abbrev E1 := @Tryd.underlying159
abbrev E2 := @Tryd.sizeOf34
theorem ext8n {a b : List UInt8} (hl : a.length = b.length) (h : ∀ i, i < a.length → g8 a i = g8 b i) : a = b :=
 List.ext_getElem hl fun i h1 h2 => by
  have := h i h1
  rwa [g8_eq h1, g8_eq h2] at this
theorem g8_mr {f : Nat → UInt8} {n i : Nat} (h : i < n) : g8 ((List.range n).map f) i = f i := by
 rw [g8_eq (by simpa using h)]; simp
def numK (k : Nat) (x : UInt64) (j : Nat) : List UInt8 := (List.range j).map fun i => (x >>> UInt64.ofNat (8*k - 8*i - 8)).toUInt8
theorem C3 (k : Nat) (x : UInt64) (j : Nat) : (numK k x j).length = j := by simp [numK]
theorem numK_zero (k : Nat) (x : UInt64) : numK k x 0 = [] := rfl
theorem numK_succ (k : Nat) (x : UInt64) (j : Nat) : numK k x (j + 1) = numK k x j ++ [(x >>> UInt64.ofNat (8*k - 8*j - 8)).toUInt8] := by
 simp [numK, List.range_succ]
def rnK (k : Nat) (x : UInt64) : Nat → List UInt8 × UInt64
 | 0 => (zr8 k, x)
 | j + 1 => ((rnK k x j).1.set (k - j - 1) ((rnK k x j).2 % 256).toUInt8, (rnK k x j).2 / 256)
theorem rnK_len (k : Nat) (x : UInt64) : ∀ j, (rnK k x j).1.length = k
 | 0 => AP k
 | j + 1 => by rw [rnK]; simp [rnK_len k x j]
theorem rnK_snd (k : Nat) (x : UInt64) : ∀ j, (rnK k x j).2.toNat = x.toNat / 256 ^ j
 | 0 => by simp [rnK]
 | j + 1 => by
  rw [rnK]
  show ((rnK k x j).2 / 256).toNat = _
  rw [UInt64.toNat_div, rnK_snd k x j, Nat.pow_succ, ← Nat.div_div_eq_div_mul]
  rfl
theorem u8_modK (y : UInt64) : (y % 256).toUInt8 = y.toUInt8 := by
 apply UInt8.toNat_inj.1
 rw [UInt64.toNat_toUInt8, UInt64.toNat_toUInt8, UInt64.toNat_mod]
 show y.toNat % 256 % 2 ^ 8 = _
 omega
theorem shr_divK (x : UInt64) (j : Nat) (h : j ≤ 7) : (x >>> UInt64.ofNat (8*j)).toNat = x.toNat / 256 ^ j := by
 have : (UInt64.ofNat (8*j)).toNat = 8*j := by rw [UInt64.toNat_ofNat']; exact Nat.mod_eq_of_lt (by omega)
 rw [UInt64.toNat_shiftRight, this, Nat.mod_eq_of_lt (by omega), Nat.shiftRight_eq_div_pow, Nat.pow_mul]
theorem rnK_get (k : Nat) (x : UInt64) (hk : k ≤ 8) : ∀ j, j ≤ k → ∀ i, k - j ≤ i → i < k → g8 (rnK k x j).1 i = (x >>> UInt64.ofNat (8*k - 8*i - 8)).toUInt8
  | 0, _, i, h1, h2 => by omega
  | j + 1, h, i, h1, h2 => by
    rw [rnK]
    show g8 ((rnK k x j).1.set (k - j - 1) ((rnK k x j).2 % 256).toUInt8) i = _
    rw [g8_set _ _ _ _ (by rw [rnK_len]; omega)]
    by_cases hi : k - j - 1 = i
    · rw [if_pos hi, u8_modK]
      have : (rnK k x j).2 = x >>> UInt64.ofNat (8*j) := UInt64.toNat_inj.1 (by rw [rnK_snd k x j, shr_divK x j (by omega)])
      rw [this]
      have e : 8*k - 8*i - 8 = 8*j := by omega
      rw [e]
    · rw [if_neg hi]
      exact rnK_get k x hk j (by omega) i (by omega) h2
theorem rnK_num (k : Nat) (x : UInt64) (hk : k ≤ 8) : (rnK k x k).1 = numK k x k :=
 ext8n (by rw [rnK_len, C3]) fun i hi => by
  rw [rnK_len] at hi
  rw [rnK_get k x hk k (Nat.le_refl _) i (by omega) hi, numK, g8_mr hi]
def valK (l : List UInt8) : Nat → UInt64
 | 0 => 0
 | j + 1 => (valK l j <<< 8) ||| (g8 l j).toUInt64
theorem or_nat (a b : Nat) (hb : b < 256) : ((a * 256) ||| b) = a * 256 + b := by
 have h := Nat.shiftLeft_add_eq_or_of_lt (i := 8) (b := b) (by simpa using hb) a
 rw [Nat.shiftLeft_eq] at h
 exact h.symm
theorem shl_or (x : UInt64) (b : UInt8) : (x <<< 8) ||| b.toUInt64 = x * 256 + b.toUInt64 := by
 apply UInt64.toNat_inj.1
 have hx := UInt64.toNat_lt x
 have hb := UInt8.toNat_lt b
 rw [UInt64.toNat_or, UInt64.toNat_shiftLeft, UInt64.toNat_add, UInt64.toNat_mul, UInt8.toNat_toUInt64]
 show (x.toNat <<< (8 % 64)) % 2 ^ 64 ||| b.toNat = (x.toNat * 256 % 2 ^ 64 + b.toNat) % 2 ^ 64
 rw [Nat.shiftLeft_eq]
 have e : x.toNat * 2 ^ (8 % 64) % 2 ^ 64 = (x.toNat % 2 ^ 56) * 256 := by
  show x.toNat * 256 % 2 ^ 64 = _
  omega
 rw [e, or_nat _ _ (by omega)]
 omega
theorem valK_num (k : Nat) (x : UInt64) (hk : k ≤ 8) (hx : x.toNat / 256 ^ k = 0) : ∀ j, j ≤ k → (valK (numK k x k) j).toNat = x.toNat / 256 ^ (k - j)
 | 0, _ => by simp only [valK, Nat.sub_zero, hx]; rfl
 | j + 1, h => by
  have ih := valK_num k x hk hx j (by omega)
  have hl := UInt64.toNat_lt x
  rw [valK, shl_or, UInt64.toNat_add, UInt64.toNat_mul, ih, UInt8.toNat_toUInt64, numK, g8_mr (by omega), UInt64.toNat_toUInt8]
  have e : 8*k - 8*j - 8 = 8*(k - 1 - j) := by omega
  rw [e, shr_divK x _ (by omega)]
  have e2 : 256 ^ (k - j) = 256 ^ (k - 1 - j) * 256 := by rw [← Nat.pow_succ]; congr 1; omega
  have e3 : k - (j + 1) = k - 1 - j := by omega
  rw [e2, e3, ← Nat.div_div_eq_div_mul]
  have h4 : x.toNat / 256 ^ (k - 1 - j) ≤ x.toNat := Nat.div_le_self _ _
  generalize x.toNat / 256 ^ (k - 1 - j) = y at *
  show ((y / 256) * 256 % 2 ^ 64 + y % 2 ^ 8) % 2 ^ 64 = y
  omega
theorem valK_back (k : Nat) (x : UInt64) (hk : k ≤ 8) (hx : x.toNat / 256 ^ k = 0) : valK (numK k x k) k = x :=
 UInt64.toNat_inj.1 (by rw [valK_num k x hk hx k (Nat.le_refl _)]; simp)
theorem valK_congr {a b : List UInt8} : ∀ j, (∀ i, i < j → g8 a i = g8 b i) → valK a j = valK b j
 | 0, _ => rfl
 | j + 1, h => by rw [valK, valK, valK_congr j (fun i hi => h i (by omega)), h j (by omega)]
def erN (e k : Nat) : Nat := if e = 0 then k else e
def hashL (z : List UInt8) : List UInt8 := (z ++ zr8 32).take 32
theorem hashL_len (z : List UInt8) : (hashL z).length = 32 := by simp [hashL, zr8]
def Szd (s : Int) : Prop := s = 1 ∨ s = 2 ∨ s = 4 ∨ s = 8
end Go.Proofs.YtkdpdgpphpngeaaDoor
namespace Go.Sx
open Go Go.RowKit
variable {C : Cx} {F : Frm} {L : List Ent}
theorem Hp.apart {w0 w : World} {M : List Nat} {L : List Ent} (h : Hp w0 M L w) (is M' : List Nat) (hM : M' = is.filterMap (fun i => (L[i]?).map Ent.b)) : ∀ b, b < w0.heap.size → b ∉ M → b ∉ M' := fun b h1 h2 h3 => by
  subst hM
  obtain ⟨i, _, hi⟩ := List.mem_filterMap.1 h3
  obtain ⟨e, he, rfl⟩ := Option.map_eq_some_iff.1 hi
  rcases h.own e (List.mem_of_getElem? he) with h4 | h4
  · exact h2 h4
  · omega
theorem Ev_sliceHi {T : Nat} {x hi : Operand} {ty : TypeId} {ao : Option Addr} {l c : Nat} (e s j : Nat) (hu : C.P.underlying T = some (.slice e)) (hS : ∀ w, (sizeOf e).run C.P w = .ok s w) (hx : ev F x = some (.slice ao l c))
  (hh : ev F hi = some (I64 j)) (h2 : j ≤ c) : Ev C F L (.slice T x none (some hi) none) ty (.slice ao j c) := by
 have h := Ev_sliceG (ty := ty) (L := L) (lo := none) (hi := some hi) e s 0 j hu hS hx rfl hh (Nat.zero_le _) h2
 rw [Nat.zero_mul, addr_map, ite_self, Nat.sub_zero, Nat.sub_zero] at h
 exact h
theorem Ev_sliceLo {T : Nat} {x lo : Operand} {ty : TypeId} {ao : Option Addr} {l c : Nat} (e i n' c' : Nat) (hu : C.P.underlying T = some (.slice e)) (hS : ∀ w, (sizeOf e).run C.P w = .ok 1 w) (hx : ev F x = some (.slice ao l c))
  (hl : ev F lo = some (I64 i)) (h1 : i ≤ l) (h2 : l ≤ c) (hn : l - i = n') (hc : c - i = c') : Ev C F L (.slice T x (some lo) none none) ty (.slice (if c = i then ao else ao.map (·.add (i * 1))) n' c') := by
 subst hn; subst hc
 exact Ev_sliceG (ty := ty) (L := L) (lo := some lo) (hi := none) e 1 i l hu hS hx hl rfl h1 h2
theorem lay_nil (cs : List Value) (o : Nat) : lay cs o [] = cs := by simp [lay]
theorem one_nil : ∀ u ∈ ([] : List Value), u.oneCell' = true := fun u hu => by cases hu
end Go.Sx
namespace Go.Proofs.YtkdpdgpphpngeaaDoor
open Go Go.Sx
theorem BV : Tryd.prog.follows .mixedOrders = true := by kernel_rfl
theorem C0 : (Tryd.prog.info? 5).map (fun i => (i.zero, i.size, i.bytes)) = some (some (.int .u8 0), 1, 1) := by kernel_rfl
theorem DZ : (Tryd.prog.info? 5).map (·.size) = some 1 := by kernel_rfl
theorem F5 : Tryd.prog.cellsOf 5 = 1 := by kernel_rfl
theorem Tryd.has5 : (Tryd.prog.info? 5).isSome = true := by kernel_rfl
theorem Tryd.info22 : (Tryd.prog.info? 22).map (fun i => (i.zero, i.size, i.bytes)) = some (some (.int .u64 0), 1, 8) := by kernel_rfl
attribute [local irreducible] mid zr8 zr32 numK rnK valK
theorem sizedT_c (s : Int) (w : World) (hs : Szd s) : Calls Tryd.prog 143 #[I64 (s)] w (Post w [] (fun v L => v = .bool true ∧ L = [])) := by
 refine enter w [] 17 [] [I64 (s)] Tryd.func143 rfl rfl (by simp) (BZ (by simp) (by simp) (by simp)) ?_
 show JC _ _ _ [(0, I64 (s))] _
 refine AI (AD (AA _ (AG rfl) rfl ?_))
 refine AN (AE (AI (AD (AA _ (AH rfl) rfl ?_))))
 refine AA (.bool (decide ((s) = (1:Int)))) (AR rfl rfl fun _ => C9 _ _) rfl ?_
 refine AA _ (AH rfl) rfl ?_
 rcases Bool.eq_false_or_eq_true (decide ((s) = (1:Int))) with hb1 | hb1
 ·
  have hp1 : (s) = (1:Int) := of_decide_eq_true hb1
  refine AQ 2 5 false _ rfl rfl hb1 rfl ?_
  refine AQ 2 5 false _ rfl rfl hb1 rfl ?_
  refine AA _ (CN _ rfl hb1 rfl) rfl ?_
  refine AA _ (AH rfl) rfl ?_
  refine AQ 6 9 false _ rfl rfl rfl rfl ?_
  refine AQ 6 9 false _ rfl rfl rfl rfl ?_
  refine AA _ (CN _ rfl rfl rfl) rfl ?_
  refine AA _ (AH rfl) rfl ?_
  refine AQ 10 13 false _ rfl rfl rfl rfl ?_
  refine AQ 10 13 false _ rfl rfl rfl rfl ?_
  refine AA _ (CN _ rfl rfl rfl) rfl ?_
  refine AA _ (AG rfl) rfl ?_
  refine AN (AE (BP (BQ (.bool true) (res1 Tryd.results143 (B2 rfl)) fun w1 hw1 => ?_)))
  exact ⟨_, [], rfl, ⟨by rw [show (true) = true from rfl], rfl⟩, hw1.sub (by simp) (by simp)⟩
 ·
  have hp1 : ¬ ((s) = (1:Int)) := of_decide_eq_false hb1
  refine A0 2 5 false _ _ rfl rfl hb1 (AH rfl) rfl ?_
  refine A0 2 5 false _ (.bool (decide ((s) = (2:Int)))) rfl rfl hb1 (AR rfl rfl fun _ => C9 _ _) rfl ?_
  refine AA _ (BU _ rfl hb1 rfl) rfl ?_
  refine AA _ (AH rfl) rfl ?_
  rcases Bool.eq_false_or_eq_true (decide ((s) = (2:Int))) with hb2 | hb2
  ·
   have hp2 : (s) = (2:Int) := of_decide_eq_true hb2
   refine AQ 6 9 false _ rfl rfl hb2 rfl ?_
   refine AQ 6 9 false _ rfl rfl hb2 rfl ?_
   refine AA _ (CN _ rfl hb2 rfl) rfl ?_
   refine AA _ (AH rfl) rfl ?_
   refine AQ 10 13 false _ rfl rfl rfl rfl ?_
   refine AQ 10 13 false _ rfl rfl rfl rfl ?_
   refine AA _ (CN _ rfl rfl rfl) rfl ?_
   refine AA _ (AG rfl) rfl ?_
   refine AN (AE (BP (BQ (.bool true) (res1 Tryd.results143 (B2 rfl)) fun w1 hw1 => ?_)))
   exact ⟨_, [], rfl, ⟨by rw [show (true) = true from rfl], rfl⟩, hw1.sub (by simp) (by simp)⟩
  ·
   have hp2 : ¬ ((s) = (2:Int)) := of_decide_eq_false hb2
   refine A0 6 9 false _ _ rfl rfl hb2 (AH rfl) rfl ?_
   refine A0 6 9 false _ (.bool (decide ((s) = (4:Int)))) rfl rfl hb2 (AR rfl rfl fun _ => C9 _ _) rfl ?_
   refine AA _ (BU _ rfl hb2 rfl) rfl ?_
   refine AA _ (AH rfl) rfl ?_
   rcases Bool.eq_false_or_eq_true (decide ((s) = (4:Int))) with hb3 | hb3
   ·
    have hp3 : (s) = (4:Int) := of_decide_eq_true hb3
    refine AQ 10 13 false _ rfl rfl hb3 rfl ?_
    refine AQ 10 13 false _ rfl rfl hb3 rfl ?_
    refine AA _ (CN _ rfl hb3 rfl) rfl ?_
    refine AA _ (AG rfl) rfl ?_
    refine AN (AE (BP (BQ (.bool true) (res1 Tryd.results143 (B2 rfl)) fun w1 hw1 => ?_)))
    exact ⟨_, [], rfl, ⟨by rw [show (true) = true from rfl], rfl⟩, hw1.sub (by simp) (by simp)⟩
   ·
    have hp3 : ¬ ((s) = (4:Int)) := of_decide_eq_false hb3
    refine A0 10 13 false _ _ rfl rfl hb3 (AH rfl) rfl ?_
    refine A0 10 13 false _ (.bool (decide ((s) = (8:Int)))) rfl rfl hb3 (AR rfl rfl fun _ => C9 _ _) rfl ?_
    refine AA _ (BU _ rfl hb3 rfl) rfl ?_
    refine AA _ (AG rfl) rfl ?_
    refine AN (AE (BP (BQ (.bool (decide ((s) = (8:Int)))) (res1 Tryd.results143 (B2 rfl)) fun w1 hw1 => ?_)))
    exact ⟨_, [], rfl, ⟨congrArg Value.bool (decide_eq_true (by unfold Szd at hs; omega)), rfl⟩, hw1.sub (by simp) (by simp)⟩
theorem sizedF_c (s : Int) (w : World) (hs : ¬ Szd s) : Calls Tryd.prog 143 #[I64 (s)] w (Post w [] (fun v L => v = .bool false ∧ L = [])) := by
 refine enter w [] 17 [] [I64 (s)] Tryd.func143 rfl rfl (by simp) (BZ (by simp) (by simp) (by simp)) ?_
 show JC _ _ _ [(0, I64 (s))] _
 refine AI (AD (AA _ (AG rfl) rfl ?_))
 refine AN (AE (AI (AD (AA _ (AH rfl) rfl ?_))))
 refine AA (.bool (decide ((s) = (1:Int)))) (AR rfl rfl fun _ => C9 _ _) rfl ?_
 refine AA _ (AH rfl) rfl ?_
 rcases Bool.eq_false_or_eq_true (decide ((s) = (1:Int))) with hb1 | hb1
 ·
  have hp1 : (s) = (1:Int) := of_decide_eq_true hb1
  refine AQ 2 5 false _ rfl rfl hb1 rfl ?_
  refine AQ 2 5 false _ rfl rfl hb1 rfl ?_
  refine AA _ (CN _ rfl hb1 rfl) rfl ?_
  refine AA _ (AH rfl) rfl ?_
  refine AQ 6 9 false _ rfl rfl rfl rfl ?_
  refine AQ 6 9 false _ rfl rfl rfl rfl ?_
  refine AA _ (CN _ rfl rfl rfl) rfl ?_
  refine AA _ (AH rfl) rfl ?_
  refine AQ 10 13 false _ rfl rfl rfl rfl ?_
  refine AQ 10 13 false _ rfl rfl rfl rfl ?_
  refine AA _ (CN _ rfl rfl rfl) rfl ?_
  refine AA _ (AG rfl) rfl ?_
  refine AN (AE (BP (BQ (.bool true) (res1 Tryd.results143 (B2 rfl)) fun w1 hw1 => ?_)))
  refine ⟨_, [], rfl, ⟨?_, rfl⟩, hw1.sub (by simp) (by simp)⟩
  first | (exfalso; apply hs; unfold Szd; omega; done) | exact congrArg Value.bool (decide_eq_false (fun h => hs (by unfold Szd; omega)))
 ·
  have hp1 : ¬ ((s) = (1:Int)) := of_decide_eq_false hb1
  refine A0 2 5 false _ _ rfl rfl hb1 (AH rfl) rfl ?_
  refine A0 2 5 false _ (.bool (decide ((s) = (2:Int)))) rfl rfl hb1 (AR rfl rfl fun _ => C9 _ _) rfl ?_
  refine AA _ (BU _ rfl hb1 rfl) rfl ?_
  refine AA _ (AH rfl) rfl ?_
  rcases Bool.eq_false_or_eq_true (decide ((s) = (2:Int))) with hb2 | hb2
  ·
   have hp2 : (s) = (2:Int) := of_decide_eq_true hb2
   refine AQ 6 9 false _ rfl rfl hb2 rfl ?_
   refine AQ 6 9 false _ rfl rfl hb2 rfl ?_
   refine AA _ (CN _ rfl hb2 rfl) rfl ?_
   refine AA _ (AH rfl) rfl ?_
   refine AQ 10 13 false _ rfl rfl rfl rfl ?_
   refine AQ 10 13 false _ rfl rfl rfl rfl ?_
   refine AA _ (CN _ rfl rfl rfl) rfl ?_
   refine AA _ (AG rfl) rfl ?_
   refine AN (AE (BP (BQ (.bool true) (res1 Tryd.results143 (B2 rfl)) fun w1 hw1 => ?_)))
   refine ⟨_, [], rfl, ⟨?_, rfl⟩, hw1.sub (by simp) (by simp)⟩
   first | (exfalso; apply hs; unfold Szd; omega; done) | exact congrArg Value.bool (decide_eq_false (fun h => hs (by unfold Szd; omega)))
  ·
   have hp2 : ¬ ((s) = (2:Int)) := of_decide_eq_false hb2
   refine A0 6 9 false _ _ rfl rfl hb2 (AH rfl) rfl ?_
   refine A0 6 9 false _ (.bool (decide ((s) = (4:Int)))) rfl rfl hb2 (AR rfl rfl fun _ => C9 _ _) rfl ?_
   refine AA _ (BU _ rfl hb2 rfl) rfl ?_
   refine AA _ (AH rfl) rfl ?_
   rcases Bool.eq_false_or_eq_true (decide ((s) = (4:Int))) with hb3 | hb3
   ·
    have hp3 : (s) = (4:Int) := of_decide_eq_true hb3
    refine AQ 10 13 false _ rfl rfl hb3 rfl ?_
    refine AQ 10 13 false _ rfl rfl hb3 rfl ?_
    refine AA _ (CN _ rfl hb3 rfl) rfl ?_
    refine AA _ (AG rfl) rfl ?_
    refine AN (AE (BP (BQ (.bool true) (res1 Tryd.results143 (B2 rfl)) fun w1 hw1 => ?_)))
    refine ⟨_, [], rfl, ⟨?_, rfl⟩, hw1.sub (by simp) (by simp)⟩
    first | (exfalso; apply hs; unfold Szd; omega; done) | exact congrArg Value.bool (decide_eq_false (fun h => hs (by unfold Szd; omega)))
   ·
    have hp3 : ¬ ((s) = (4:Int)) := of_decide_eq_false hb3
    refine A0 10 13 false _ _ rfl rfl hb3 (AH rfl) rfl ?_
    refine A0 10 13 false _ (.bool (decide ((s) = (8:Int)))) rfl rfl hb3 (AR rfl rfl fun _ => C9 _ _) rfl ?_
    refine AA _ (BU _ rfl hb3 rfl) rfl ?_
    refine AA _ (AG rfl) rfl ?_
    refine AN (AE (BP (BQ (.bool (decide ((s) = (8:Int)))) (res1 Tryd.results143 (B2 rfl)) fun w1 hw1 => ?_)))
    refine ⟨_, [], rfl, ⟨?_, rfl⟩, hw1.sub (by simp) (by simp)⟩
    first | (exfalso; apply hs; unfold Szd; omega; done) | exact congrArg Value.bool (decide_eq_false (fun h => hs (by unfold Szd; omega)))
theorem failR_c (wb e k : Nat) (sv : Value) (w : World) (h0 : w.heap[wb]? = some (.cells [errV 50 e, sv].toArray 204 (0, 0))) : Calls Tryd.prog 144 #[Ptr wb 0, errV 50 k] w (Post w [wb] (fun v L => v = .tuple #[] ∧ L = [⟨wb, [errV 50 (erN e k), sv], 204, (0, 0)⟩])) := by
 refine enter w [wb] 13 [⟨wb, [errV 50 e, sv], 204, (0, 0)⟩] [Ptr wb 0, errV 50 k] Tryd.func144 rfl rfl (by simp) (BZ (by simpa using h0) (by simp) (by simp)) ?_
 show JC _ _ _ [(0, Ptr wb 0), (1, errV 50 k)] _
 refine AI (AD (AA _ (AH rfl) rfl ?_))
 refine AA _ (CZ rfl) rfl ?_
 refine AA (Ptr wb 0) (AB 0 45 1 ES rfl Tryd.sizeOf45 rfl rfl) rfl ?_
 refine AA (errV 50 e) (AK rfl (AV Tryd.isAgg45 (AS 0 rfl (Seg.head)))) rfl ?_
 refine AA (.bool (decide (e = 0))) (C2 _ _ _ rfl rfl (fun _ => CJ ..) fun _ => eql_errV A6 _ _) rfl ?_
 refine AN (AE (CY (decide (e = 0)) rfl (fun hb1 => ?_) (fun hb1 => ?_)))
 ·
  have hp1 : e = 0 := of_decide_eq_true hb1
  refine AD (AA _ (AH rfl) rfl ?_)
  refine AA _ (AH rfl) rfl ?_
  refine AA _ (CZ rfl) rfl ?_
  refine AA (Ptr wb 0) (AB 0 45 1 ES rfl Tryd.sizeOf45 rfl rfl) rfl ?_
  refine A7 (DT 0 wb 0 1 ([errV 50 e, sv]) 204 (errV 50 k) ([errV 50 k]) ([errV 50 k, sv]) rfl rfl rfl errV_cells Tryd.sizeOf45 rfl errV_one (Nat.le_of_ble_eq_true rfl) (rfl)) rfl ?_
  show JL _ _ _ _ _ [⟨wb, [errV 50 k, sv], 204, (0, 0)⟩]
  refine AN (JQ_end (.tuple #[]) (res0 Tryd.results144 ) fun w1 hw1 => ?_)
  refine ⟨_, [_], rfl, ⟨rfl, ?_⟩, hw1⟩
  rw [erN]
  first | rw [if_pos hp1] | rw [if_neg hp1]
 ·
  have hp1 : ¬ (e = 0) := of_decide_eq_false hb1
  refine BT (JQ_end (.tuple #[]) (res0 Tryd.results144 ) fun w1 hw1 => ?_)
  refine ⟨_, [_], rfl, ⟨rfl, ?_⟩, hw1⟩
  rw [erN]
  first | rw [if_pos hp1] | rw [if_neg hp1]
theorem numN_c (wb tot : Nat) (ev : Value) (nv : UInt64) (k : Nat)  (w : World) (h0 : w.heap[wb]? = some (.cells [ev, .slice none 0 0].toArray 149 (0, 0))) (hs : Szd (k:Int)) (hx : k < 8 → nv >>> UInt64.ofNat (8*k) = 0) (ht : k = tot) : Calls Tryd.prog 81 #[Ptr wb 0, U64 nv, I64 k] w (Post w [wb] (fun v L => v = Ptr wb 0 ∧ ∃ g sp cap, L = [⟨wb, [ev, Slc g 0 tot cap], 149, (0, 0)⟩, ⟨g, cu8 (numK k nv k) ++ sp, 5, (0, 0)⟩] ∧ sp.length = cap - tot ∧ tot ≤ cap ∧ cap ≤ maxLen)) := by
 have hmx : maxLen = 9223372036854775807 := rfl
 have hs4 : k = 1 ∨ k = 2 ∨ k = 4 ∨ k = 8 := by unfold Szd at hs; omega
 refine enter w [wb] 51 [⟨wb, [ev, .slice none 0 0], 149, (0, 0)⟩] [Ptr wb 0, U64 nv, I64 k] Tryd.func81 rfl rfl (by simp) (BZ (by simpa using h0) (by simp) (by simp)) ?_
 show JC _ _ _ [(0, Ptr wb 0), (1, U64 nv), (2, I64 k)] _
 refine AI (AD (AA _ (AG rfl) rfl ?_))
 refine AN (AE (AI (AI (AD (AA _ (AH rfl) rfl ?_)))))
 refine AA (.bool false) (C2 _ _ _ rfl rfl (fun _ => FM ..) fun _ => FQ Tryd.underlying145) rfl ?_
 refine AN (AE (CK _ rfl rfl ?_))
 refine BT (AE (AI (AI (AD (AA _ (AH rfl) rfl ?_)))))
 refine A7 (A3 143 [I64 k] (.bool true) (AY _ Tryd.call143 rfl) (fun w1 _ => sizedT_c ((k:Int)) w1 hs)) rfl ?_
 show JL _ _ _ _ ((11, .bool true) :: _) [_]
 refine AA (.bool (!true)) (FH rfl) rfl ?_
 refine AA _ (AH rfl) rfl ?_
 refine A0 3 13 false _ _ rfl rfl rfl (AH rfl) rfl ?_
 refine A0 3 13 false _ (.bool (decide (((k:Int)) < (8:Int)))) rfl rfl rfl (AR rfl rfl fun _ => CS _ _) rfl ?_
 refine A0 3 13 false _ _ rfl rfl rfl (AH rfl) rfl ?_
 rcases Bool.eq_false_or_eq_true (decide (((k:Int)) < (8:Int))) with hb1 | hb1
 ·
  have hp1 : ((k:Int)) < (8:Int) := of_decide_eq_true hb1
  refine A0 6 16 true _ _ rfl rfl hb1 (AH rfl) rfl ?_
  refine A0 6 16 true _ _ rfl rfl hb1 (AH rfl) rfl ?_
  refine A0 6 16 true _ (I64 (8*(k:Int))) rfl rfl hb1 (AR rfl rfl fun _ => E8 _ _ (8*(k:Int)) (by omega) (by omega)) rfl ?_
  refine A0 6 16 true _ (U64 (nv >>> UInt64.ofNat (8*k))) rfl rfl hb1 (AR rfl rfl fun _ => FD nv _ _ (8*k) (by omega) (by omega)) rfl ?_
  refine A0 6 16 true _ (.bool (decide ((nv >>> UInt64.ofNat (8*k)) ≠ (0:UInt64)))) rfl rfl hb1 (AR rfl rfl fun _ => bin_neq_u64 (nv >>> UInt64.ofNat (8*k)) (0:UInt64)) rfl ?_
  refine A0 3 13 false _ _ rfl rfl rfl (CN _ rfl hb1 rfl) rfl ?_
  refine AA _ (BU _ rfl rfl rfl) rfl ?_
  refine AN (AE (CK _ rfl (decide_eq_false (fun h => h (hx (by omega)))) ?_))
  refine BT (AE (AI (AI (AD (AA _ (AH rfl) rfl ?_)))))
  refine AA (I64 ((k:Int) - 1)) (AR rfl rfl fun _ => DD _ _ ((k:Int) - 1) (by omega) (by omega)) rfl ?_
  refine AA _ (AG rfl) rfl ?_
  refine AN (AE (BY (EE (ι := (Unit) ⊕ (Nat × List UInt8 × Nat × List Value × Nat)) (fun x => match x with | .inl _ => [(0, Ptr wb 0), (1, U64 nv), (6, .pointer none), (7, I64 ((k:Int) - 1))] | .inr ⟨q, oq, gq, spq, cpq⟩ => [(0, Ptr wb 0), (1, U64 nv), (6, .pointer none), (7, I64 ((k:Int) - (q:Int) - 1))]) (fun x => match x with | .inl _ => [⟨wb, [ev, .slice none 0 0], 149, (0, 0)⟩] | .inr ⟨q, oq, gq, spq, cpq⟩ => [⟨wb, [ev, Slc gq 0 q cpq], 149, (0, 0)⟩, ⟨gq, cu8 oq ++ spq, 5, (0, 0)⟩]) (fun x => match x with | .inl _ => True | .inr ⟨q, oq, gq, spq, cpq⟩ => 1 ≤ q ∧ q ≤ k ∧ oq = numK k nv q ∧ oq.length = q ∧ spq.length = cpq - (q) ∧ q ≤ cpq ∧ cpq ≤ maxLen) (fun x => match x with | .inl _ => k + 1 | .inr ⟨q, oq, gq, spq, cpq⟩ => k - q) (.inl ()) trivial (Sub.all rfl) rfl ?_)))
  rintro (_ | ⟨q, oq, gq, spq, cpq⟩) hx
  ·
   obtain _ := hx
   show JC _ _ _ [(0, Ptr wb 0), (1, U64 nv), (6, .pointer none), (7, I64 ((k:Int) - 1))] [⟨wb, [ev, .slice none 0 0], 149, (0, 0)⟩]
   refine AI (AI (AD (AA _ (AH rfl) rfl ?_)))
   refine AA (.bool (decide ((0:Int) ≤ ((k:Int) - 1)))) (AR rfl rfl fun _ => FV _ _) rfl ?_
   refine AN (AE (DJ _ rfl (decide_eq_true (by omega)) ?_))
   refine BT (AE (AI (BY (C1 51 4 [(0, Ptr wb 0), (1, Ptr wb 0), (2, Ptr wb 0), (3, Ptr wb 1), (4, .slice none 0 0), (5, U64 nv), (6, I64 ((k:Int) - 1)), (7, I64 (8*(k:Int) - 8)), (8, U64 (nv >>> UInt64.ofNat (8*k - 8))), (9, U8 ((nv >>> UInt64.ofNat (8*k - 8)).toUInt8))] BV rfl (by decide +kernel) ?_))))
   refine CR ⟨[], [0, 1, 2, 3, 4, 5, 6, 7, 8, 9], [], [0, 1, 2, 3, 4, 5, 6, 7, 8, 9], [10]⟩ 10 _ rfl rfl (by decide +kernel) rfl ⟨A2 rfl rfl rfl, A2 rfl rfl rfl, ⟨_, rfl, AC rfl (CZ rfl)⟩, ⟨_, rfl, AC rfl (AB 1 43 1 CU rfl B7 rfl rfl)⟩, ⟨_, rfl, AC rfl (AK rfl (AV D0 (AS 0 rfl (AJ (Seg.head)))))⟩, A2 rfl rfl rfl, A2 rfl rfl rfl, ⟨_, rfl, AC rfl (AR rfl rfl fun _ => E8 _ _ (8*(k:Int) - 8) (by omega) (by omega))⟩, ⟨_, rfl, AC rfl (AR rfl rfl fun _ => FD nv _ _ (8*k - 8) (by omega) (by omega))⟩, ⟨_, rfl, AC rfl (DW _ _ rfl fun _ => FN (by rw [CF]; rfl) B6 _)⟩, trivial⟩ rfl (AZ rfl (B0 5 1 _ [(0, U8 ((nv >>> UInt64.ofNat (8*k - 8)).toUInt8))] (cu8 ([(nv >>> UInt64.ofNat (8*k - 8)).toUInt8])) AM AW CX rfl rfl rfl (by kernel_rfl))) ?_
   rintro v1 L1 ⟨nb1, hnb1, rfl, rfl⟩
   refine ⟨[], ?_⟩
   show DP _ _ _ _ _ _ _ _ [_, ⟨nb1, cu8 ([(nv >>> UInt64.ofNat (8*k - 8)).toUInt8]), 5, (0, 0)⟩]
   refine CR ⟨[10], [0, 1, 2, 3, 4, 5, 6, 7, 8, 9], [5, 6, 7, 8, 9], [0, 1, 2, 3, 4], [11]⟩ 11 _ rfl rfl (by decide +kernel) rfl ⟨A2 rfl rfl rfl, A2 rfl rfl rfl, ⟨_, rfl, AC rfl (CZ rfl)⟩, ⟨_, rfl, AC rfl (AB 1 43 1 CU rfl B7 rfl rfl)⟩, ⟨_, rfl, AC rfl (AK rfl (AV D0 (AS 0 rfl (AJ (Seg.head)))))⟩, trivial⟩ rfl (AZ rfl (C5 43 5 [false, false] (.slice none 0 0) 0 ([] : List UInt8) ([(nv >>> UInt64.ofNat (8*k - 8)).toUInt8]) (some ⟨nb1, 0, none⟩) 1 1 1 AM C0 rfl (.inl ⟨rfl, rfl, rfl, rfl, by omega⟩) rfl (by simp) (SrcAt.mem (AS 1 rfl (AL _))) (by omega) (by unfold maxLen; omega) (by omega))) ?_
   rintro v1 L1 ⟨nb2, sp1, cp1, hg1, rfl, rfl, ha1, ha2, ha3, ha4⟩
   refine ⟨[(12, Ptr wb 0), (13, Ptr wb 1)], ?_⟩
   show DP _ _ _ _ _ _ _ _ [_, _, ⟨nb2, cu8 (([] : List UInt8) ++ ([(nv >>> UInt64.ofNat (8*k - 8)).toUInt8])) ++ sp1, 5, (0, 0)⟩]
   refine CQ ⟨[10, 11], [0, 1, 2, 3, 4, 5, 6, 7, 8, 9, 12, 13], [1, 2, 3, 4, 5, 6, 7, 8, 9], [0, 12, 13], [14]⟩ 14 rfl rfl (by decide +kernel) rfl ⟨A2 rfl rfl rfl, ⟨_, rfl, AC rfl (CZ rfl)⟩, ⟨_, rfl, AC rfl (AB 1 43 1 CU rfl B7 rfl rfl)⟩, trivial⟩ rfl (AZ rfl (DT 0 wb 1 1 ([ev, .slice none 0 0]) 149 (Slc nb2 0 1 cp1) ([Slc nb2 0 1 cp1]) ([ev, Slc nb2 0 1 cp1]) rfl rfl rfl rfl B7 rfl (by simp [Value.oneCell']) (Nat.le_of_ble_eq_true rfl) (rfl))) ?_
   show DP _ _ _ _ _ _ _ _ [⟨wb, [ev, Slc nb2 0 1 cp1], 149, (0, 0)⟩, _, _]
   refine C4 ⟨[10, 11, 14], [0, 1, 2, 3, 4, 5, 6, 7, 8, 9, 12, 13], [0, 1, 2, 3, 4, 5, 6, 7, 8, 9, 12, 13], [], []⟩ rfl rfl (by decide +kernel) rfl trivial ?_
   refine CI (F' := [(36, Ptr wb 0), (37, Ptr wb 0), (38, Ptr wb 0), (39, Ptr wb 1), (40, .slice none 0 0), (41, U64 nv), (42, I64 ((k:Int) - 1)), (43, I64 (8*(k:Int) - 8)), (44, U64 (nv >>> UInt64.ofNat (8*k - 8))), (45, U8 ((nv >>> UInt64.ofNat (8*k - 8)).toUInt8)), (46, Slc nb1 0 1 1), (47, Slc nb2 0 1 cp1), (48, Ptr wb 0), (49, Ptr wb 1), (0, Ptr wb 0), (1, U64 nv), (6, .pointer none), (7, I64 ((k:Int) - 1)), (32, I64 ((k:Int) - 1)), (33, .bool (decide ((0:Int) ≤ ((k:Int) - 1))))]) (by kernel_rfl) ?_
   refine BO (AE (AD (AA _ (AH rfl) rfl ?_)))
   refine AA (I64 ((k:Int) - 2)) (AR rfl rfl fun _ => DD _ _ ((k:Int) - 2) (by omega) (by omega)) rfl ?_
   refine AA _ (AG rfl) rfl ?_
   refine AN (DH (CH [true, false, true] ?_))
   show K _ _ [_, _] _
   refine EP (.inr (1, ([] : List UInt8) ++ ([(nv >>> UInt64.ofNat (8*k - 8)).toUInt8]), nb2, sp1, cp1)) ⟨by omega, by omega, by rw [numK_succ, numK_zero]; rfl, (ha1).trans (by first | rfl | simp +arith), (ha2).trans (by first | rfl | simp +arith), by omega, ha4⟩ (by first | (simp; omega) | simp | (dsimp only; omega) | omega) (Sub.cons rfl (Sub.cons rfl (Sub.cons rfl (Sub.cons (EQ (by omega)) (Sub.nil))))) rfl
  ·
   obtain ⟨hx0, hx1, hx2, hoq, hx4, hx5, hx6⟩ := hx
   show JC _ _ _ [(0, Ptr wb 0), (1, U64 nv), (6, .pointer none), (7, I64 ((k:Int) - (q:Int) - 1))] [⟨wb, [ev, Slc gq 0 q cpq], 149, (0, 0)⟩, ⟨gq, cu8 oq ++ spq, 5, (0, 0)⟩]
   refine AI (AI (AD (AA _ (AH rfl) rfl ?_)))
   refine AA (.bool (decide ((0:Int) ≤ ((k:Int) - (q:Int) - 1)))) (AR rfl rfl fun _ => FV _ _) rfl ?_
   refine AN (AE (CY (decide ((0:Int) ≤ ((k:Int) - (q:Int) - 1))) rfl (fun hb2 => ?_) (fun hb2 => ?_)))
   ·
    have hp2 : (0:Int) ≤ ((k:Int) - (q:Int) - 1) := of_decide_eq_true hb2
    refine BT (AE (AI (BY (C1 51 4 [(0, Ptr wb 0), (1, Ptr wb 0), (2, Ptr wb 0), (3, Ptr wb 1), (4, Slc gq 0 q cpq), (5, U64 nv), (6, I64 ((k:Int) - (q:Int) - 1)), (7, I64 (8*(k:Int) - 8*(q:Int) - 8)), (8, U64 (nv >>> UInt64.ofNat (8*k - 8*q - 8))), (9, U8 ((nv >>> UInt64.ofNat (8*k - 8*q - 8)).toUInt8))] BV rfl (by decide +kernel) ?_))))
    refine CR ⟨[], [0, 1, 2, 3, 4, 5, 6, 7, 8, 9], [], [0, 1, 2, 3, 4, 5, 6, 7, 8, 9], [10]⟩ 10 _ rfl rfl (by decide +kernel) rfl ⟨A2 rfl rfl rfl, A2 rfl rfl rfl, ⟨_, rfl, AC rfl (CZ rfl)⟩, ⟨_, rfl, AC rfl (AB 1 43 1 CU rfl B7 rfl rfl)⟩, ⟨_, rfl, AC rfl (AK rfl (AV D0 (AS 0 rfl (AJ (Seg.head)))))⟩, A2 rfl rfl rfl, A2 rfl rfl rfl, ⟨_, rfl, AC rfl (AR rfl rfl fun _ => E8 _ _ (8*(k:Int) - 8*(q:Int) - 8) (by omega) (by omega))⟩, ⟨_, rfl, AC rfl (AR rfl rfl fun _ => FD nv _ _ (8*k - 8*q - 8) (by omega) (by omega))⟩, ⟨_, rfl, AC rfl (DW _ _ rfl fun _ => FN (by rw [CF]; rfl) B6 _)⟩, trivial⟩ rfl (AZ rfl (B0 5 1 _ [(0, U8 ((nv >>> UInt64.ofNat (8*k - 8*q - 8)).toUInt8))] (cu8 ([(nv >>> UInt64.ofNat (8*k - 8*q - 8)).toUInt8])) AM AW CX rfl rfl rfl (by kernel_rfl))) ?_
    rintro v1 L1 ⟨nb3, hnb3, rfl, rfl⟩
    refine ⟨[], ?_⟩
    show DP _ _ _ _ _ _ _ _ [_, _, ⟨nb3, cu8 ([(nv >>> UInt64.ofNat (8*k - 8*q - 8)).toUInt8]), 5, (0, 0)⟩]
    refine CR ⟨[10], [0, 1, 2, 3, 4, 5, 6, 7, 8, 9], [5, 6, 7, 8, 9], [0, 1, 2, 3, 4], [11]⟩ 11 _ rfl rfl (by decide +kernel) rfl ⟨A2 rfl rfl rfl, A2 rfl rfl rfl, ⟨_, rfl, AC rfl (CZ rfl)⟩, ⟨_, rfl, AC rfl (AB 1 43 1 CU rfl B7 rfl rfl)⟩, ⟨_, rfl, AC rfl (AK rfl (AV D0 (AS 0 rfl (AJ (Seg.head)))))⟩, trivial⟩ rfl (AZ rfl (C5 43 5 [false, true, false] (Slc gq 0 q cpq) q oq ([(nv >>> UInt64.ofNat (8*k - 8*q - 8)).toUInt8]) (some ⟨nb3, 0, none⟩) 1 1 (q + 1) AM C0 rfl (.inr ⟨gq, spq, cpq, rfl, rfl, (by first | exact hoq | simp [hoq]), hx4, (by omega), (by omega)⟩) rfl (by simp) (SrcAt.mem (AS 2 rfl (AL _))) (by omega) (by unfold maxLen; omega) (by omega))) ?_
    rintro v1 L1 ⟨nb4, sp2, cp2, hg2, rfl, rfl, ha5, ha6, ha7, ha8⟩
    refine ⟨[(12, Ptr wb 0), (13, Ptr wb 1)], ?_⟩
    show DP _ _ _ _ _ _ _ _ [_, _, ⟨nb4, cu8 (oq ++ ([(nv >>> UInt64.ofNat (8*k - 8*q - 8)).toUInt8])) ++ sp2, 5, (0, 0)⟩]
    refine CQ ⟨[10, 11], [0, 1, 2, 3, 4, 5, 6, 7, 8, 9, 12, 13], [1, 2, 3, 4, 5, 6, 7, 8, 9], [0, 12, 13], [14]⟩ 14 rfl rfl (by decide +kernel) rfl ⟨A2 rfl rfl rfl, ⟨_, rfl, AC rfl (CZ rfl)⟩, ⟨_, rfl, AC rfl (AB 1 43 1 CU rfl B7 rfl rfl)⟩, trivial⟩ rfl (AZ rfl (DT 0 wb 1 1 ([ev, Slc gq 0 q cpq]) 149 (Slc nb4 0 (q + 1) cp2) ([Slc nb4 0 (q + 1) cp2]) ([ev, Slc nb4 0 (q + 1) cp2]) rfl rfl rfl rfl B7 rfl (by simp [Value.oneCell']) (Nat.le_of_ble_eq_true rfl) (rfl))) ?_
    show DP _ _ _ _ _ _ _ _ [⟨wb, [ev, Slc nb4 0 (q + 1) cp2], 149, (0, 0)⟩, _, _]
    refine C4 ⟨[10, 11, 14], [0, 1, 2, 3, 4, 5, 6, 7, 8, 9, 12, 13], [0, 1, 2, 3, 4, 5, 6, 7, 8, 9, 12, 13], [], []⟩ rfl rfl (by decide +kernel) rfl trivial ?_
    refine CI (F' := [(36, Ptr wb 0), (37, Ptr wb 0), (38, Ptr wb 0), (39, Ptr wb 1), (40, Slc gq 0 q cpq), (41, U64 nv), (42, I64 ((k:Int) - (q:Int) - 1)), (43, I64 (8*(k:Int) - 8*(q:Int) - 8)), (44, U64 (nv >>> UInt64.ofNat (8*k - 8*q - 8))), (45, U8 ((nv >>> UInt64.ofNat (8*k - 8*q - 8)).toUInt8)), (46, Slc nb3 0 1 1), (47, Slc nb4 0 (q + 1) cp2), (48, Ptr wb 0), (49, Ptr wb 1), (0, Ptr wb 0), (1, U64 nv), (6, .pointer none), (7, I64 ((k:Int) - (q:Int) - 1)), (32, I64 ((k:Int) - (q:Int) - 1)), (33, .bool (decide ((0:Int) ≤ ((k:Int) - (q:Int) - 1))))]) (by kernel_rfl) ?_
    refine BO (AE (AD (AA _ (AH rfl) rfl ?_)))
    refine AA (I64 ((k:Int) - (q:Int) - 2)) (AR rfl rfl fun _ => DD _ _ ((k:Int) - (q:Int) - 2) (by omega) (by omega)) rfl ?_
    refine AA _ (AG rfl) rfl ?_
    refine AN (DH (CH [true, false, true] ?_))
    show K _ _ [_, _] _
    refine EP (.inr (q + 1, oq ++ ([(nv >>> UInt64.ofNat (8*k - 8*q - 8)).toUInt8]), nb4, sp2, cp2)) ⟨by omega, by omega, by rw [numK_succ, ← hx2], (ha5).trans (by first | rfl | simp +arith), (ha6).trans (by first | rfl | simp +arith), by omega, ha8⟩ (by first | (simp; omega) | simp | (dsimp only; omega) | omega) (Sub.cons rfl (Sub.cons rfl (Sub.cons rfl (Sub.cons (EQ (by omega)) (Sub.nil))))) rfl
   ·
    have hp2 : ¬ ((0:Int) ≤ ((k:Int) - (q:Int) - 1)) := of_decide_eq_false hb2
    refine D8 (BB (BB (CV (AE (AI (AD (AA _ (AH rfl) rfl ?_)))))))
    refine AA _ (AG rfl) rfl ?_
    refine AN (AE (BP (BQ (Ptr wb 0) (res1 Tryd.results81 (B2 rfl)) fun w1 hw1 => ?_)))
    have e1 : q = k := by omega
    rw [hx2, e1] at hw1
    obtain rfl : tot = k := by omega
    exact ⟨_, _, rfl, ⟨rfl, gq, spq, cpq, rfl, by omega, by omega, hx6⟩, hw1⟩
 ·
  have hp1 : ¬ (((k:Int)) < (8:Int)) := of_decide_eq_false hb1
  refine AQ 6 16 true _ rfl rfl hb1 rfl ?_
  refine AQ 6 16 true _ rfl rfl hb1 rfl ?_
  refine AQ 6 16 true _ rfl rfl hb1 rfl ?_
  refine AQ 6 16 true _ rfl rfl hb1 rfl ?_
  refine AQ 6 16 true _ rfl rfl hb1 rfl ?_
  refine A0 3 13 false _ _ rfl rfl rfl (BU _ rfl hb1 rfl) rfl ?_
  refine AA _ (BU _ rfl rfl rfl) rfl ?_
  refine AN (AE (CK _ rfl rfl ?_))
  refine BT (AE (AI (AI (AD (AA _ (AH rfl) rfl ?_)))))
  refine AA (I64 ((k:Int) - 1)) (AR rfl rfl fun _ => DD _ _ ((k:Int) - 1) (by omega) (by omega)) rfl ?_
  refine AA _ (AG rfl) rfl ?_
  refine AN (AE (BY (EE (ι := (Unit) ⊕ (Nat × List UInt8 × Nat × List Value × Nat)) (fun x => match x with | .inl _ => [(0, Ptr wb 0), (1, U64 nv), (6, .pointer none), (7, I64 ((k:Int) - 1))] | .inr ⟨q, oq, gq, spq, cpq⟩ => [(0, Ptr wb 0), (1, U64 nv), (6, .pointer none), (7, I64 ((k:Int) - (q:Int) - 1))]) (fun x => match x with | .inl _ => [⟨wb, [ev, .slice none 0 0], 149, (0, 0)⟩] | .inr ⟨q, oq, gq, spq, cpq⟩ => [⟨wb, [ev, Slc gq 0 q cpq], 149, (0, 0)⟩, ⟨gq, cu8 oq ++ spq, 5, (0, 0)⟩]) (fun x => match x with | .inl _ => True | .inr ⟨q, oq, gq, spq, cpq⟩ => 1 ≤ q ∧ q ≤ k ∧ oq = numK k nv q ∧ oq.length = q ∧ spq.length = cpq - (q) ∧ q ≤ cpq ∧ cpq ≤ maxLen) (fun x => match x with | .inl _ => k + 1 | .inr ⟨q, oq, gq, spq, cpq⟩ => k - q) (.inl ()) trivial (Sub.all rfl) rfl ?_)))
  rintro (_ | ⟨q, oq, gq, spq, cpq⟩) hx
  ·
   obtain _ := hx
   show JC _ _ _ [(0, Ptr wb 0), (1, U64 nv), (6, .pointer none), (7, I64 ((k:Int) - 1))] [⟨wb, [ev, .slice none 0 0], 149, (0, 0)⟩]
   refine AI (AI (AD (AA _ (AH rfl) rfl ?_)))
   refine AA (.bool (decide ((0:Int) ≤ ((k:Int) - 1)))) (AR rfl rfl fun _ => FV _ _) rfl ?_
   refine AN (AE (DJ _ rfl (decide_eq_true (by omega)) ?_))
   refine BT (AE (AI (BY (C1 51 4 [(0, Ptr wb 0), (1, Ptr wb 0), (2, Ptr wb 0), (3, Ptr wb 1), (4, .slice none 0 0), (5, U64 nv), (6, I64 ((k:Int) - 1)), (7, I64 (8*(k:Int) - 8)), (8, U64 (nv >>> UInt64.ofNat (8*k - 8))), (9, U8 ((nv >>> UInt64.ofNat (8*k - 8)).toUInt8))] BV rfl (by decide +kernel) ?_))))
   refine CR ⟨[], [0, 1, 2, 3, 4, 5, 6, 7, 8, 9], [], [0, 1, 2, 3, 4, 5, 6, 7, 8, 9], [10]⟩ 10 _ rfl rfl (by decide +kernel) rfl ⟨A2 rfl rfl rfl, A2 rfl rfl rfl, ⟨_, rfl, AC rfl (CZ rfl)⟩, ⟨_, rfl, AC rfl (AB 1 43 1 CU rfl B7 rfl rfl)⟩, ⟨_, rfl, AC rfl (AK rfl (AV D0 (AS 0 rfl (AJ (Seg.head)))))⟩, A2 rfl rfl rfl, A2 rfl rfl rfl, ⟨_, rfl, AC rfl (AR rfl rfl fun _ => E8 _ _ (8*(k:Int) - 8) (by omega) (by omega))⟩, ⟨_, rfl, AC rfl (AR rfl rfl fun _ => FD nv _ _ (8*k - 8) (by omega) (by omega))⟩, ⟨_, rfl, AC rfl (DW _ _ rfl fun _ => FN (by rw [CF]; rfl) B6 _)⟩, trivial⟩ rfl (AZ rfl (B0 5 1 _ [(0, U8 ((nv >>> UInt64.ofNat (8*k - 8)).toUInt8))] (cu8 ([(nv >>> UInt64.ofNat (8*k - 8)).toUInt8])) AM AW CX rfl rfl rfl (by kernel_rfl))) ?_
   rintro v1 L1 ⟨nb5, hnb5, rfl, rfl⟩
   refine ⟨[], ?_⟩
   show DP _ _ _ _ _ _ _ _ [_, ⟨nb5, cu8 ([(nv >>> UInt64.ofNat (8*k - 8)).toUInt8]), 5, (0, 0)⟩]
   refine CR ⟨[10], [0, 1, 2, 3, 4, 5, 6, 7, 8, 9], [5, 6, 7, 8, 9], [0, 1, 2, 3, 4], [11]⟩ 11 _ rfl rfl (by decide +kernel) rfl ⟨A2 rfl rfl rfl, A2 rfl rfl rfl, ⟨_, rfl, AC rfl (CZ rfl)⟩, ⟨_, rfl, AC rfl (AB 1 43 1 CU rfl B7 rfl rfl)⟩, ⟨_, rfl, AC rfl (AK rfl (AV D0 (AS 0 rfl (AJ (Seg.head)))))⟩, trivial⟩ rfl (AZ rfl (C5 43 5 [false, false] (.slice none 0 0) 0 ([] : List UInt8) ([(nv >>> UInt64.ofNat (8*k - 8)).toUInt8]) (some ⟨nb5, 0, none⟩) 1 1 1 AM C0 rfl (.inl ⟨rfl, rfl, rfl, rfl, by omega⟩) rfl (by simp) (SrcAt.mem (AS 1 rfl (AL _))) (by omega) (by unfold maxLen; omega) (by omega))) ?_
   rintro v1 L1 ⟨nb6, sp3, cp3, hg3, rfl, rfl, ha9, ha10, ha11, ha12⟩
   refine ⟨[(12, Ptr wb 0), (13, Ptr wb 1)], ?_⟩
   show DP _ _ _ _ _ _ _ _ [_, _, ⟨nb6, cu8 (([] : List UInt8) ++ ([(nv >>> UInt64.ofNat (8*k - 8)).toUInt8])) ++ sp3, 5, (0, 0)⟩]
   refine CQ ⟨[10, 11], [0, 1, 2, 3, 4, 5, 6, 7, 8, 9, 12, 13], [1, 2, 3, 4, 5, 6, 7, 8, 9], [0, 12, 13], [14]⟩ 14 rfl rfl (by decide +kernel) rfl ⟨A2 rfl rfl rfl, ⟨_, rfl, AC rfl (CZ rfl)⟩, ⟨_, rfl, AC rfl (AB 1 43 1 CU rfl B7 rfl rfl)⟩, trivial⟩ rfl (AZ rfl (DT 0 wb 1 1 ([ev, .slice none 0 0]) 149 (Slc nb6 0 1 cp3) ([Slc nb6 0 1 cp3]) ([ev, Slc nb6 0 1 cp3]) rfl rfl rfl rfl B7 rfl (by simp [Value.oneCell']) (Nat.le_of_ble_eq_true rfl) (rfl))) ?_
   show DP _ _ _ _ _ _ _ _ [⟨wb, [ev, Slc nb6 0 1 cp3], 149, (0, 0)⟩, _, _]
   refine C4 ⟨[10, 11, 14], [0, 1, 2, 3, 4, 5, 6, 7, 8, 9, 12, 13], [0, 1, 2, 3, 4, 5, 6, 7, 8, 9, 12, 13], [], []⟩ rfl rfl (by decide +kernel) rfl trivial ?_
   refine CI (F' := [(36, Ptr wb 0), (37, Ptr wb 0), (38, Ptr wb 0), (39, Ptr wb 1), (40, .slice none 0 0), (41, U64 nv), (42, I64 ((k:Int) - 1)), (43, I64 (8*(k:Int) - 8)), (44, U64 (nv >>> UInt64.ofNat (8*k - 8))), (45, U8 ((nv >>> UInt64.ofNat (8*k - 8)).toUInt8)), (46, Slc nb5 0 1 1), (47, Slc nb6 0 1 cp3), (48, Ptr wb 0), (49, Ptr wb 1), (0, Ptr wb 0), (1, U64 nv), (6, .pointer none), (7, I64 ((k:Int) - 1)), (32, I64 ((k:Int) - 1)), (33, .bool (decide ((0:Int) ≤ ((k:Int) - 1))))]) (by kernel_rfl) ?_
   refine BO (AE (AD (AA _ (AH rfl) rfl ?_)))
   refine AA (I64 ((k:Int) - 2)) (AR rfl rfl fun _ => DD _ _ ((k:Int) - 2) (by omega) (by omega)) rfl ?_
   refine AA _ (AG rfl) rfl ?_
   refine AN (DH (CH [true, false, true] ?_))
   show K _ _ [_, _] _
   refine EP (.inr (1, ([] : List UInt8) ++ ([(nv >>> UInt64.ofNat (8*k - 8)).toUInt8]), nb6, sp3, cp3)) ⟨by omega, by omega, by rw [numK_succ, numK_zero]; rfl, (ha9).trans (by first | rfl | simp +arith), (ha10).trans (by first | rfl | simp +arith), by omega, ha12⟩ (by first | (simp; omega) | simp | (dsimp only; omega) | omega) (Sub.cons rfl (Sub.cons rfl (Sub.cons rfl (Sub.cons (EQ (by omega)) (Sub.nil))))) rfl
  ·
   obtain ⟨hx0, hx1, hx2, hoq, hx4, hx5, hx6⟩ := hx
   show JC _ _ _ [(0, Ptr wb 0), (1, U64 nv), (6, .pointer none), (7, I64 ((k:Int) - (q:Int) - 1))] [⟨wb, [ev, Slc gq 0 q cpq], 149, (0, 0)⟩, ⟨gq, cu8 oq ++ spq, 5, (0, 0)⟩]
   refine AI (AI (AD (AA _ (AH rfl) rfl ?_)))
   refine AA (.bool (decide ((0:Int) ≤ ((k:Int) - (q:Int) - 1)))) (AR rfl rfl fun _ => FV _ _) rfl ?_
   refine AN (AE (CY (decide ((0:Int) ≤ ((k:Int) - (q:Int) - 1))) rfl (fun hb3 => ?_) (fun hb3 => ?_)))
   ·
    have hp3 : (0:Int) ≤ ((k:Int) - (q:Int) - 1) := of_decide_eq_true hb3
    refine BT (AE (AI (BY (C1 51 4 [(0, Ptr wb 0), (1, Ptr wb 0), (2, Ptr wb 0), (3, Ptr wb 1), (4, Slc gq 0 q cpq), (5, U64 nv), (6, I64 ((k:Int) - (q:Int) - 1)), (7, I64 (8*(k:Int) - 8*(q:Int) - 8)), (8, U64 (nv >>> UInt64.ofNat (8*k - 8*q - 8))), (9, U8 ((nv >>> UInt64.ofNat (8*k - 8*q - 8)).toUInt8))] BV rfl (by decide +kernel) ?_))))
    refine CR ⟨[], [0, 1, 2, 3, 4, 5, 6, 7, 8, 9], [], [0, 1, 2, 3, 4, 5, 6, 7, 8, 9], [10]⟩ 10 _ rfl rfl (by decide +kernel) rfl ⟨A2 rfl rfl rfl, A2 rfl rfl rfl, ⟨_, rfl, AC rfl (CZ rfl)⟩, ⟨_, rfl, AC rfl (AB 1 43 1 CU rfl B7 rfl rfl)⟩, ⟨_, rfl, AC rfl (AK rfl (AV D0 (AS 0 rfl (AJ (Seg.head)))))⟩, A2 rfl rfl rfl, A2 rfl rfl rfl, ⟨_, rfl, AC rfl (AR rfl rfl fun _ => E8 _ _ (8*(k:Int) - 8*(q:Int) - 8) (by omega) (by omega))⟩, ⟨_, rfl, AC rfl (AR rfl rfl fun _ => FD nv _ _ (8*k - 8*q - 8) (by omega) (by omega))⟩, ⟨_, rfl, AC rfl (DW _ _ rfl fun _ => FN (by rw [CF]; rfl) B6 _)⟩, trivial⟩ rfl (AZ rfl (B0 5 1 _ [(0, U8 ((nv >>> UInt64.ofNat (8*k - 8*q - 8)).toUInt8))] (cu8 ([(nv >>> UInt64.ofNat (8*k - 8*q - 8)).toUInt8])) AM AW CX rfl rfl rfl (by kernel_rfl))) ?_
    rintro v1 L1 ⟨nb7, hnb7, rfl, rfl⟩
    refine ⟨[], ?_⟩
    show DP _ _ _ _ _ _ _ _ [_, _, ⟨nb7, cu8 ([(nv >>> UInt64.ofNat (8*k - 8*q - 8)).toUInt8]), 5, (0, 0)⟩]
    refine CR ⟨[10], [0, 1, 2, 3, 4, 5, 6, 7, 8, 9], [5, 6, 7, 8, 9], [0, 1, 2, 3, 4], [11]⟩ 11 _ rfl rfl (by decide +kernel) rfl ⟨A2 rfl rfl rfl, A2 rfl rfl rfl, ⟨_, rfl, AC rfl (CZ rfl)⟩, ⟨_, rfl, AC rfl (AB 1 43 1 CU rfl B7 rfl rfl)⟩, ⟨_, rfl, AC rfl (AK rfl (AV D0 (AS 0 rfl (AJ (Seg.head)))))⟩, trivial⟩ rfl (AZ rfl (C5 43 5 [false, true, false] (Slc gq 0 q cpq) q oq ([(nv >>> UInt64.ofNat (8*k - 8*q - 8)).toUInt8]) (some ⟨nb7, 0, none⟩) 1 1 (q + 1) AM C0 rfl (.inr ⟨gq, spq, cpq, rfl, rfl, (by first | exact hoq | simp [hoq]), hx4, (by omega), (by omega)⟩) rfl (by simp) (SrcAt.mem (AS 2 rfl (AL _))) (by omega) (by unfold maxLen; omega) (by omega))) ?_
    rintro v1 L1 ⟨nb8, sp4, cp4, hg4, rfl, rfl, ha13, ha14, ha15, ha16⟩
    refine ⟨[(12, Ptr wb 0), (13, Ptr wb 1)], ?_⟩
    show DP _ _ _ _ _ _ _ _ [_, _, ⟨nb8, cu8 (oq ++ ([(nv >>> UInt64.ofNat (8*k - 8*q - 8)).toUInt8])) ++ sp4, 5, (0, 0)⟩]
    refine CQ ⟨[10, 11], [0, 1, 2, 3, 4, 5, 6, 7, 8, 9, 12, 13], [1, 2, 3, 4, 5, 6, 7, 8, 9], [0, 12, 13], [14]⟩ 14 rfl rfl (by decide +kernel) rfl ⟨A2 rfl rfl rfl, ⟨_, rfl, AC rfl (CZ rfl)⟩, ⟨_, rfl, AC rfl (AB 1 43 1 CU rfl B7 rfl rfl)⟩, trivial⟩ rfl (AZ rfl (DT 0 wb 1 1 ([ev, Slc gq 0 q cpq]) 149 (Slc nb8 0 (q + 1) cp4) ([Slc nb8 0 (q + 1) cp4]) ([ev, Slc nb8 0 (q + 1) cp4]) rfl rfl rfl rfl B7 rfl (by simp [Value.oneCell']) (Nat.le_of_ble_eq_true rfl) (rfl))) ?_
    show DP _ _ _ _ _ _ _ _ [⟨wb, [ev, Slc nb8 0 (q + 1) cp4], 149, (0, 0)⟩, _, _]
    refine C4 ⟨[10, 11, 14], [0, 1, 2, 3, 4, 5, 6, 7, 8, 9, 12, 13], [0, 1, 2, 3, 4, 5, 6, 7, 8, 9, 12, 13], [], []⟩ rfl rfl (by decide +kernel) rfl trivial ?_
    refine CI (F' := [(36, Ptr wb 0), (37, Ptr wb 0), (38, Ptr wb 0), (39, Ptr wb 1), (40, Slc gq 0 q cpq), (41, U64 nv), (42, I64 ((k:Int) - (q:Int) - 1)), (43, I64 (8*(k:Int) - 8*(q:Int) - 8)), (44, U64 (nv >>> UInt64.ofNat (8*k - 8*q - 8))), (45, U8 ((nv >>> UInt64.ofNat (8*k - 8*q - 8)).toUInt8)), (46, Slc nb7 0 1 1), (47, Slc nb8 0 (q + 1) cp4), (48, Ptr wb 0), (49, Ptr wb 1), (0, Ptr wb 0), (1, U64 nv), (6, .pointer none), (7, I64 ((k:Int) - (q:Int) - 1)), (32, I64 ((k:Int) - (q:Int) - 1)), (33, .bool (decide ((0:Int) ≤ ((k:Int) - (q:Int) - 1))))]) (by kernel_rfl) ?_
    refine BO (AE (AD (AA _ (AH rfl) rfl ?_)))
    refine AA (I64 ((k:Int) - (q:Int) - 2)) (AR rfl rfl fun _ => DD _ _ ((k:Int) - (q:Int) - 2) (by omega) (by omega)) rfl ?_
    refine AA _ (AG rfl) rfl ?_
    refine AN (DH (CH [true, false, true] ?_))
    show K _ _ [_, _] _
    refine EP (.inr (q + 1, oq ++ ([(nv >>> UInt64.ofNat (8*k - 8*q - 8)).toUInt8]), nb8, sp4, cp4)) ⟨by omega, by omega, by rw [numK_succ, ← hx2], (ha13).trans (by first | rfl | simp +arith), (ha14).trans (by first | rfl | simp +arith), by omega, ha16⟩ (by first | (simp; omega) | simp | (dsimp only; omega) | omega) (Sub.cons rfl (Sub.cons rfl (Sub.cons rfl (Sub.cons (EQ (by omega)) (Sub.nil))))) rfl
   ·
    have hp3 : ¬ ((0:Int) ≤ ((k:Int) - (q:Int) - 1)) := of_decide_eq_false hb3
    refine D8 (BB (BB (CV (AE (AI (AD (AA _ (AH rfl) rfl ?_)))))))
    refine AA _ (AG rfl) rfl ?_
    refine AN (AE (BP (BQ (Ptr wb 0) (res1 Tryd.results81 (B2 rfl)) fun w1 hw1 => ?_)))
    have e1 : q = k := by omega
    rw [hx2, e1] at hw1
    obtain rfl : tot = k := by omega
    exact ⟨_, _, rfl, ⟨rfl, gq, spq, cpq, rfl, by omega, by omega, hx6⟩, hw1⟩
theorem numO_c (wb gb n cap0 tot : Nat) (ev : Value) (o : List UInt8) (sp0 : List Value) (nv : UInt64) (k : Nat)  (w : World) (h0 : w.heap[wb]? = some (.cells [ev, Slc gb 0 n cap0].toArray 149 (0, 0))) (h1 : w.heap[gb]? = some (.cells (cu8 o ++ sp0).toArray 5 (0, 0))) (hne : wb ≠ gb) (ho : o.length = n) (hsp : sp0.length = cap0 - n) (hca : n ≤ cap0) (hcm : cap0 ≤ maxLen) (hn : n ≤ 1000000000) (hs : Szd (k:Int)) (hx : k < 8 → nv >>> UInt64.ofNat (8*k) = 0) (ht : n + k = tot) : Calls Tryd.prog 81 #[Ptr wb 0, U64 nv, I64 k] w (Post w [wb, gb] (fun v L => v = Ptr wb 0 ∧ ∃ g sp cap, L = [⟨wb, [ev, Slc g 0 tot cap], 149, (0, 0)⟩, ⟨g, cu8 (o ++ numK k nv k) ++ sp, 5, (0, 0)⟩] ∧ sp.length = cap - tot ∧ tot ≤ cap ∧ cap ≤ maxLen)) := by
 have hmx : maxLen = 9223372036854775807 := rfl
 have hs4 : k = 1 ∨ k = 2 ∨ k = 4 ∨ k = 8 := by unfold Szd at hs; omega
 refine enter w [wb, gb] 51 [⟨wb, [ev, Slc gb 0 n cap0], 149, (0, 0)⟩, ⟨gb, cu8 o ++ sp0, 5, (0, 0)⟩] [Ptr wb 0, U64 nv, I64 k] Tryd.func81 rfl rfl (by simp) (BZ (by simp; exact ⟨h0, h1⟩) (by simp; exact hne) (by simp)) ?_
 show JC _ _ _ [(0, Ptr wb 0), (1, U64 nv), (2, I64 k)] _
 refine AI (AD (AA _ (AG rfl) rfl ?_))
 refine AN (AE (AI (AI (AD (AA _ (AH rfl) rfl ?_)))))
 refine AA (.bool false) (C2 _ _ _ rfl rfl (fun _ => FM ..) fun _ => FQ Tryd.underlying145) rfl ?_
 refine AN (AE (CK _ rfl rfl ?_))
 refine BT (AE (AI (AI (AD (AA _ (AH rfl) rfl ?_)))))
 refine A7 (A3 143 [I64 k] (.bool true) (AY _ Tryd.call143 rfl) (fun w1 _ => sizedT_c ((k:Int)) w1 hs)) rfl ?_
 show JL _ _ _ _ ((11, .bool true) :: _) [_, _]
 refine AA (.bool (!true)) (FH rfl) rfl ?_
 refine AA _ (AH rfl) rfl ?_
 refine A0 3 13 false _ _ rfl rfl rfl (AH rfl) rfl ?_
 refine A0 3 13 false _ (.bool (decide (((k:Int)) < (8:Int)))) rfl rfl rfl (AR rfl rfl fun _ => CS _ _) rfl ?_
 refine A0 3 13 false _ _ rfl rfl rfl (AH rfl) rfl ?_
 rcases Bool.eq_false_or_eq_true (decide (((k:Int)) < (8:Int))) with hb1 | hb1
 ·
  have hp1 : ((k:Int)) < (8:Int) := of_decide_eq_true hb1
  refine A0 6 16 true _ _ rfl rfl hb1 (AH rfl) rfl ?_
  refine A0 6 16 true _ _ rfl rfl hb1 (AH rfl) rfl ?_
  refine A0 6 16 true _ (I64 (8*(k:Int))) rfl rfl hb1 (AR rfl rfl fun _ => E8 _ _ (8*(k:Int)) (by omega) (by omega)) rfl ?_
  refine A0 6 16 true _ (U64 (nv >>> UInt64.ofNat (8*k))) rfl rfl hb1 (AR rfl rfl fun _ => FD nv _ _ (8*k) (by omega) (by omega)) rfl ?_
  refine A0 6 16 true _ (.bool (decide ((nv >>> UInt64.ofNat (8*k)) ≠ (0:UInt64)))) rfl rfl hb1 (AR rfl rfl fun _ => bin_neq_u64 (nv >>> UInt64.ofNat (8*k)) (0:UInt64)) rfl ?_
  refine A0 3 13 false _ _ rfl rfl rfl (CN _ rfl hb1 rfl) rfl ?_
  refine AA _ (BU _ rfl rfl rfl) rfl ?_
  refine AN (AE (CK _ rfl (decide_eq_false (fun h => h (hx (by omega)))) ?_))
  refine BT (AE (AI (AI (AD (AA _ (AH rfl) rfl ?_)))))
  refine AA (I64 ((k:Int) - 1)) (AR rfl rfl fun _ => DD _ _ ((k:Int) - 1) (by omega) (by omega)) rfl ?_
  refine AA _ (AG rfl) rfl ?_
  refine AN (AE (BY (EE (ι := Nat × List UInt8 × Nat × List Value × Nat) (fun ⟨q, oq, gq, spq, cpq⟩ => [(0, Ptr wb 0), (1, U64 nv), (6, .pointer none), (7, I64 ((k:Int) - (q:Int) - 1))]) (fun ⟨q, oq, gq, spq, cpq⟩ => [⟨wb, [ev, Slc gq 0 (n + q) cpq], 149, (0, 0)⟩, ⟨gq, cu8 oq ++ spq, 5, (0, 0)⟩]) (fun ⟨q, oq, gq, spq, cpq⟩ => q ≤ k ∧ oq = o ++ numK k nv q ∧ oq.length = (n + q) ∧ spq.length = cpq - ((n + q)) ∧ (n + q) ≤ cpq ∧ cpq ≤ maxLen) (fun ⟨q, oq, gq, spq, cpq⟩ => k - q) (0, o, gb, sp0, cap0) ⟨by omega, by rw [numK_zero, List.append_nil], by omega, by omega, by omega, hcm⟩ (Sub.cons rfl (Sub.cons rfl (Sub.cons rfl (Sub.cons (EQ (by omega)) (Sub.nil))))) rfl ?_)))
  rintro ⟨q, oq, gq, spq, cpq⟩ ⟨hx1, hx2, hoq, hx4, hx5, hx6⟩
  show JC _ _ _ [(0, Ptr wb 0), (1, U64 nv), (6, .pointer none), (7, I64 ((k:Int) - (q:Int) - 1))] [⟨wb, [ev, Slc gq 0 (n + q) cpq], 149, (0, 0)⟩, ⟨gq, cu8 oq ++ spq, 5, (0, 0)⟩]
  refine AI (AI (AD (AA _ (AH rfl) rfl ?_)))
  refine AA (.bool (decide ((0:Int) ≤ ((k:Int) - (q:Int) - 1)))) (AR rfl rfl fun _ => FV _ _) rfl ?_
  refine AN (AE (CY (decide ((0:Int) ≤ ((k:Int) - (q:Int) - 1))) rfl (fun hb2 => ?_) (fun hb2 => ?_)))
  ·
   have hp2 : (0:Int) ≤ ((k:Int) - (q:Int) - 1) := of_decide_eq_true hb2
   refine BT (AE (AI (BY (C1 51 4 [(0, Ptr wb 0), (1, Ptr wb 0), (2, Ptr wb 0), (3, Ptr wb 1), (4, Slc gq 0 (n + q) cpq), (5, U64 nv), (6, I64 ((k:Int) - (q:Int) - 1)), (7, I64 (8*(k:Int) - 8*(q:Int) - 8)), (8, U64 (nv >>> UInt64.ofNat (8*k - 8*q - 8))), (9, U8 ((nv >>> UInt64.ofNat (8*k - 8*q - 8)).toUInt8))] BV rfl (by decide +kernel) ?_))))
   refine CR ⟨[], [0, 1, 2, 3, 4, 5, 6, 7, 8, 9], [], [0, 1, 2, 3, 4, 5, 6, 7, 8, 9], [10]⟩ 10 _ rfl rfl (by decide +kernel) rfl ⟨A2 rfl rfl rfl, A2 rfl rfl rfl, ⟨_, rfl, AC rfl (CZ rfl)⟩, ⟨_, rfl, AC rfl (AB 1 43 1 CU rfl B7 rfl rfl)⟩, ⟨_, rfl, AC rfl (AK rfl (AV D0 (AS 0 rfl (AJ (Seg.head)))))⟩, A2 rfl rfl rfl, A2 rfl rfl rfl, ⟨_, rfl, AC rfl (AR rfl rfl fun _ => E8 _ _ (8*(k:Int) - 8*(q:Int) - 8) (by omega) (by omega))⟩, ⟨_, rfl, AC rfl (AR rfl rfl fun _ => FD nv _ _ (8*k - 8*q - 8) (by omega) (by omega))⟩, ⟨_, rfl, AC rfl (DW _ _ rfl fun _ => FN (by rw [CF]; rfl) B6 _)⟩, trivial⟩ rfl (AZ rfl (B0 5 1 _ [(0, U8 ((nv >>> UInt64.ofNat (8*k - 8*q - 8)).toUInt8))] (cu8 ([(nv >>> UInt64.ofNat (8*k - 8*q - 8)).toUInt8])) AM AW CX rfl rfl rfl (by kernel_rfl))) ?_
   rintro v1 L1 ⟨nb1, hnb1, rfl, rfl⟩
   refine ⟨[], ?_⟩
   show DP _ _ _ _ _ _ _ _ [_, _, ⟨nb1, cu8 ([(nv >>> UInt64.ofNat (8*k - 8*q - 8)).toUInt8]), 5, (0, 0)⟩]
   refine CR ⟨[10], [0, 1, 2, 3, 4, 5, 6, 7, 8, 9], [5, 6, 7, 8, 9], [0, 1, 2, 3, 4], [11]⟩ 11 _ rfl rfl (by decide +kernel) rfl ⟨A2 rfl rfl rfl, A2 rfl rfl rfl, ⟨_, rfl, AC rfl (CZ rfl)⟩, ⟨_, rfl, AC rfl (AB 1 43 1 CU rfl B7 rfl rfl)⟩, ⟨_, rfl, AC rfl (AK rfl (AV D0 (AS 0 rfl (AJ (Seg.head)))))⟩, trivial⟩ rfl (AZ rfl (C5 43 5 [false, true, false] (Slc gq 0 (n + q) cpq) (n + q) oq ([(nv >>> UInt64.ofNat (8*k - 8*q - 8)).toUInt8]) (some ⟨nb1, 0, none⟩) 1 1 (n + q + 1) AM C0 rfl (.inr ⟨gq, spq, cpq, rfl, rfl, (by first | exact hoq | simp [hoq]), hx4, (by omega), (by omega)⟩) rfl (by simp) (SrcAt.mem (AS 2 rfl (AL _))) (by omega) (by unfold maxLen; omega) (by omega))) ?_
   rintro v1 L1 ⟨nb2, sp1, cp1, hg1, rfl, rfl, ha1, ha2, ha3, ha4⟩
   refine ⟨[(12, Ptr wb 0), (13, Ptr wb 1)], ?_⟩
   show DP _ _ _ _ _ _ _ _ [_, _, ⟨nb2, cu8 (oq ++ ([(nv >>> UInt64.ofNat (8*k - 8*q - 8)).toUInt8])) ++ sp1, 5, (0, 0)⟩]
   refine CQ ⟨[10, 11], [0, 1, 2, 3, 4, 5, 6, 7, 8, 9, 12, 13], [1, 2, 3, 4, 5, 6, 7, 8, 9], [0, 12, 13], [14]⟩ 14 rfl rfl (by decide +kernel) rfl ⟨A2 rfl rfl rfl, ⟨_, rfl, AC rfl (CZ rfl)⟩, ⟨_, rfl, AC rfl (AB 1 43 1 CU rfl B7 rfl rfl)⟩, trivial⟩ rfl (AZ rfl (DT 0 wb 1 1 ([ev, Slc gq 0 (n + q) cpq]) 149 (Slc nb2 0 (n + q + 1) cp1) ([Slc nb2 0 (n + q + 1) cp1]) ([ev, Slc nb2 0 (n + q + 1) cp1]) rfl rfl rfl rfl B7 rfl (by simp [Value.oneCell']) (Nat.le_of_ble_eq_true rfl) (rfl))) ?_
   show DP _ _ _ _ _ _ _ _ [⟨wb, [ev, Slc nb2 0 (n + q + 1) cp1], 149, (0, 0)⟩, _, _]
   refine C4 ⟨[10, 11, 14], [0, 1, 2, 3, 4, 5, 6, 7, 8, 9, 12, 13], [0, 1, 2, 3, 4, 5, 6, 7, 8, 9, 12, 13], [], []⟩ rfl rfl (by decide +kernel) rfl trivial ?_
   refine CI (F' := [(36, Ptr wb 0), (37, Ptr wb 0), (38, Ptr wb 0), (39, Ptr wb 1), (40, Slc gq 0 (n + q) cpq), (41, U64 nv), (42, I64 ((k:Int) - (q:Int) - 1)), (43, I64 (8*(k:Int) - 8*(q:Int) - 8)), (44, U64 (nv >>> UInt64.ofNat (8*k - 8*q - 8))), (45, U8 ((nv >>> UInt64.ofNat (8*k - 8*q - 8)).toUInt8)), (46, Slc nb1 0 1 1), (47, Slc nb2 0 (n + q + 1) cp1), (48, Ptr wb 0), (49, Ptr wb 1), (0, Ptr wb 0), (1, U64 nv), (6, .pointer none), (7, I64 ((k:Int) - (q:Int) - 1)), (32, I64 ((k:Int) - (q:Int) - 1)), (33, .bool (decide ((0:Int) ≤ ((k:Int) - (q:Int) - 1))))]) (by kernel_rfl) ?_
   refine BO (AE (AD (AA _ (AH rfl) rfl ?_)))
   refine AA (I64 ((k:Int) - (q:Int) - 2)) (AR rfl rfl fun _ => DD _ _ ((k:Int) - (q:Int) - 2) (by omega) (by omega)) rfl ?_
   refine AA _ (AG rfl) rfl ?_
   refine AN (DH (CH [true, false, true] ?_))
   show K _ _ [_, _] _
   refine EP (q + 1, oq ++ ([(nv >>> UInt64.ofNat (8*k - 8*q - 8)).toUInt8]), nb2, sp1, cp1) ⟨by omega, by rw [numK_succ, ← List.append_assoc, ← hx2], (ha1).trans (by first | rfl | simp +arith), (ha2).trans (by first | rfl | simp +arith), by omega, ha4⟩ (by first | (simp; omega) | simp | (dsimp only; omega) | omega) (Sub.cons rfl (Sub.cons rfl (Sub.cons rfl (Sub.cons (EQ (by omega)) (Sub.nil))))) rfl
  ·
   have hp2 : ¬ ((0:Int) ≤ ((k:Int) - (q:Int) - 1)) := of_decide_eq_false hb2
   refine D8 (BB (BB (CV (AE (AI (AD (AA _ (AH rfl) rfl ?_)))))))
   refine AA _ (AG rfl) rfl ?_
   refine AN (AE (BP (BQ (Ptr wb 0) (res1 Tryd.results81 (B2 rfl)) fun w1 hw1 => ?_)))
   have e1 : q = k := by omega
   rw [hx2, e1] at hw1
   obtain rfl : tot = n + k := by omega
   exact ⟨_, _, rfl, ⟨rfl, gq, spq, cpq, rfl, by omega, by omega, hx6⟩, hw1⟩
 ·
  have hp1 : ¬ (((k:Int)) < (8:Int)) := of_decide_eq_false hb1
  refine AQ 6 16 true _ rfl rfl hb1 rfl ?_
  refine AQ 6 16 true _ rfl rfl hb1 rfl ?_
  refine AQ 6 16 true _ rfl rfl hb1 rfl ?_
  refine AQ 6 16 true _ rfl rfl hb1 rfl ?_
  refine AQ 6 16 true _ rfl rfl hb1 rfl ?_
  refine A0 3 13 false _ _ rfl rfl rfl (BU _ rfl hb1 rfl) rfl ?_
  refine AA _ (BU _ rfl rfl rfl) rfl ?_
  refine AN (AE (CK _ rfl rfl ?_))
  refine BT (AE (AI (AI (AD (AA _ (AH rfl) rfl ?_)))))
  refine AA (I64 ((k:Int) - 1)) (AR rfl rfl fun _ => DD _ _ ((k:Int) - 1) (by omega) (by omega)) rfl ?_
  refine AA _ (AG rfl) rfl ?_
  refine AN (AE (BY (EE (ι := Nat × List UInt8 × Nat × List Value × Nat) (fun ⟨q, oq, gq, spq, cpq⟩ => [(0, Ptr wb 0), (1, U64 nv), (6, .pointer none), (7, I64 ((k:Int) - (q:Int) - 1))]) (fun ⟨q, oq, gq, spq, cpq⟩ => [⟨wb, [ev, Slc gq 0 (n + q) cpq], 149, (0, 0)⟩, ⟨gq, cu8 oq ++ spq, 5, (0, 0)⟩]) (fun ⟨q, oq, gq, spq, cpq⟩ => q ≤ k ∧ oq = o ++ numK k nv q ∧ oq.length = (n + q) ∧ spq.length = cpq - ((n + q)) ∧ (n + q) ≤ cpq ∧ cpq ≤ maxLen) (fun ⟨q, oq, gq, spq, cpq⟩ => k - q) (0, o, gb, sp0, cap0) ⟨by omega, by rw [numK_zero, List.append_nil], by omega, by omega, by omega, hcm⟩ (Sub.cons rfl (Sub.cons rfl (Sub.cons rfl (Sub.cons (EQ (by omega)) (Sub.nil))))) rfl ?_)))
  rintro ⟨q, oq, gq, spq, cpq⟩ ⟨hx1, hx2, hoq, hx4, hx5, hx6⟩
  show JC _ _ _ [(0, Ptr wb 0), (1, U64 nv), (6, .pointer none), (7, I64 ((k:Int) - (q:Int) - 1))] [⟨wb, [ev, Slc gq 0 (n + q) cpq], 149, (0, 0)⟩, ⟨gq, cu8 oq ++ spq, 5, (0, 0)⟩]
  refine AI (AI (AD (AA _ (AH rfl) rfl ?_)))
  refine AA (.bool (decide ((0:Int) ≤ ((k:Int) - (q:Int) - 1)))) (AR rfl rfl fun _ => FV _ _) rfl ?_
  refine AN (AE (CY (decide ((0:Int) ≤ ((k:Int) - (q:Int) - 1))) rfl (fun hb3 => ?_) (fun hb3 => ?_)))
  ·
   have hp3 : (0:Int) ≤ ((k:Int) - (q:Int) - 1) := of_decide_eq_true hb3
   refine BT (AE (AI (BY (C1 51 4 [(0, Ptr wb 0), (1, Ptr wb 0), (2, Ptr wb 0), (3, Ptr wb 1), (4, Slc gq 0 (n + q) cpq), (5, U64 nv), (6, I64 ((k:Int) - (q:Int) - 1)), (7, I64 (8*(k:Int) - 8*(q:Int) - 8)), (8, U64 (nv >>> UInt64.ofNat (8*k - 8*q - 8))), (9, U8 ((nv >>> UInt64.ofNat (8*k - 8*q - 8)).toUInt8))] BV rfl (by decide +kernel) ?_))))
   refine CR ⟨[], [0, 1, 2, 3, 4, 5, 6, 7, 8, 9], [], [0, 1, 2, 3, 4, 5, 6, 7, 8, 9], [10]⟩ 10 _ rfl rfl (by decide +kernel) rfl ⟨A2 rfl rfl rfl, A2 rfl rfl rfl, ⟨_, rfl, AC rfl (CZ rfl)⟩, ⟨_, rfl, AC rfl (AB 1 43 1 CU rfl B7 rfl rfl)⟩, ⟨_, rfl, AC rfl (AK rfl (AV D0 (AS 0 rfl (AJ (Seg.head)))))⟩, A2 rfl rfl rfl, A2 rfl rfl rfl, ⟨_, rfl, AC rfl (AR rfl rfl fun _ => E8 _ _ (8*(k:Int) - 8*(q:Int) - 8) (by omega) (by omega))⟩, ⟨_, rfl, AC rfl (AR rfl rfl fun _ => FD nv _ _ (8*k - 8*q - 8) (by omega) (by omega))⟩, ⟨_, rfl, AC rfl (DW _ _ rfl fun _ => FN (by rw [CF]; rfl) B6 _)⟩, trivial⟩ rfl (AZ rfl (B0 5 1 _ [(0, U8 ((nv >>> UInt64.ofNat (8*k - 8*q - 8)).toUInt8))] (cu8 ([(nv >>> UInt64.ofNat (8*k - 8*q - 8)).toUInt8])) AM AW CX rfl rfl rfl (by kernel_rfl))) ?_
   rintro v1 L1 ⟨nb3, hnb3, rfl, rfl⟩
   refine ⟨[], ?_⟩
   show DP _ _ _ _ _ _ _ _ [_, _, ⟨nb3, cu8 ([(nv >>> UInt64.ofNat (8*k - 8*q - 8)).toUInt8]), 5, (0, 0)⟩]
   refine CR ⟨[10], [0, 1, 2, 3, 4, 5, 6, 7, 8, 9], [5, 6, 7, 8, 9], [0, 1, 2, 3, 4], [11]⟩ 11 _ rfl rfl (by decide +kernel) rfl ⟨A2 rfl rfl rfl, A2 rfl rfl rfl, ⟨_, rfl, AC rfl (CZ rfl)⟩, ⟨_, rfl, AC rfl (AB 1 43 1 CU rfl B7 rfl rfl)⟩, ⟨_, rfl, AC rfl (AK rfl (AV D0 (AS 0 rfl (AJ (Seg.head)))))⟩, trivial⟩ rfl (AZ rfl (C5 43 5 [false, true, false] (Slc gq 0 (n + q) cpq) (n + q) oq ([(nv >>> UInt64.ofNat (8*k - 8*q - 8)).toUInt8]) (some ⟨nb3, 0, none⟩) 1 1 (n + q + 1) AM C0 rfl (.inr ⟨gq, spq, cpq, rfl, rfl, (by first | exact hoq | simp [hoq]), hx4, (by omega), (by omega)⟩) rfl (by simp) (SrcAt.mem (AS 2 rfl (AL _))) (by omega) (by unfold maxLen; omega) (by omega))) ?_
   rintro v1 L1 ⟨nb4, sp2, cp2, hg2, rfl, rfl, ha5, ha6, ha7, ha8⟩
   refine ⟨[(12, Ptr wb 0), (13, Ptr wb 1)], ?_⟩
   show DP _ _ _ _ _ _ _ _ [_, _, ⟨nb4, cu8 (oq ++ ([(nv >>> UInt64.ofNat (8*k - 8*q - 8)).toUInt8])) ++ sp2, 5, (0, 0)⟩]
   refine CQ ⟨[10, 11], [0, 1, 2, 3, 4, 5, 6, 7, 8, 9, 12, 13], [1, 2, 3, 4, 5, 6, 7, 8, 9], [0, 12, 13], [14]⟩ 14 rfl rfl (by decide +kernel) rfl ⟨A2 rfl rfl rfl, ⟨_, rfl, AC rfl (CZ rfl)⟩, ⟨_, rfl, AC rfl (AB 1 43 1 CU rfl B7 rfl rfl)⟩, trivial⟩ rfl (AZ rfl (DT 0 wb 1 1 ([ev, Slc gq 0 (n + q) cpq]) 149 (Slc nb4 0 (n + q + 1) cp2) ([Slc nb4 0 (n + q + 1) cp2]) ([ev, Slc nb4 0 (n + q + 1) cp2]) rfl rfl rfl rfl B7 rfl (by simp [Value.oneCell']) (Nat.le_of_ble_eq_true rfl) (rfl))) ?_
   show DP _ _ _ _ _ _ _ _ [⟨wb, [ev, Slc nb4 0 (n + q + 1) cp2], 149, (0, 0)⟩, _, _]
   refine C4 ⟨[10, 11, 14], [0, 1, 2, 3, 4, 5, 6, 7, 8, 9, 12, 13], [0, 1, 2, 3, 4, 5, 6, 7, 8, 9, 12, 13], [], []⟩ rfl rfl (by decide +kernel) rfl trivial ?_
   refine CI (F' := [(36, Ptr wb 0), (37, Ptr wb 0), (38, Ptr wb 0), (39, Ptr wb 1), (40, Slc gq 0 (n + q) cpq), (41, U64 nv), (42, I64 ((k:Int) - (q:Int) - 1)), (43, I64 (8*(k:Int) - 8*(q:Int) - 8)), (44, U64 (nv >>> UInt64.ofNat (8*k - 8*q - 8))), (45, U8 ((nv >>> UInt64.ofNat (8*k - 8*q - 8)).toUInt8)), (46, Slc nb3 0 1 1), (47, Slc nb4 0 (n + q + 1) cp2), (48, Ptr wb 0), (49, Ptr wb 1), (0, Ptr wb 0), (1, U64 nv), (6, .pointer none), (7, I64 ((k:Int) - (q:Int) - 1)), (32, I64 ((k:Int) - (q:Int) - 1)), (33, .bool (decide ((0:Int) ≤ ((k:Int) - (q:Int) - 1))))]) (by kernel_rfl) ?_
   refine BO (AE (AD (AA _ (AH rfl) rfl ?_)))
   refine AA (I64 ((k:Int) - (q:Int) - 2)) (AR rfl rfl fun _ => DD _ _ ((k:Int) - (q:Int) - 2) (by omega) (by omega)) rfl ?_
   refine AA _ (AG rfl) rfl ?_
   refine AN (DH (CH [true, false, true] ?_))
   show K _ _ [_, _] _
   refine EP (q + 1, oq ++ ([(nv >>> UInt64.ofNat (8*k - 8*q - 8)).toUInt8]), nb4, sp2, cp2) ⟨by omega, by rw [numK_succ, ← List.append_assoc, ← hx2], (ha5).trans (by first | rfl | simp +arith), (ha6).trans (by first | rfl | simp +arith), by omega, ha8⟩ (by first | (simp; omega) | simp | (dsimp only; omega) | omega) (Sub.cons rfl (Sub.cons rfl (Sub.cons rfl (Sub.cons (EQ (by omega)) (Sub.nil))))) rfl
  ·
   have hp3 : ¬ ((0:Int) ≤ ((k:Int) - (q:Int) - 1)) := of_decide_eq_false hb3
   refine D8 (BB (BB (CV (AE (AI (AD (AA _ (AH rfl) rfl ?_)))))))
   refine AA _ (AG rfl) rfl ?_
   refine AN (AE (BP (BQ (Ptr wb 0) (res1 Tryd.results81 (B2 rfl)) fun w1 hw1 => ?_)))
   have e1 : q = k := by omega
   rw [hx2, e1] at hw1
   obtain rfl : tot = n + k := by omega
   exact ⟨_, _, rfl, ⟨rfl, gq, spq, cpq, rfl, by omega, by omega, hx6⟩, hw1⟩
theorem rawO_c (wb gb n cap0 tot : Nat) (ev : Value) (o : List UInt8) (sp0 : List Value) (ax : Option Addr) (p cx : Nat) (z : List UInt8) (w : World) (h0 : w.heap[wb]? = some (.cells [ev, Slc gb 0 n cap0].toArray 149 (0, 0))) (h1 : w.heap[gb]? = some (.cells (cu8 o ++ sp0).toArray 5 (0, 0))) (hne : wb ≠ gb) (ho : o.length = n) (hsp : sp0.length = cap0 - n) (hca : n ≤ cap0) (hcm : cap0 ≤ maxLen) (hn : n ≤ 1000000000) (hz : z.length = p) (hm : p ≤ 1000000000) (hr : RdB w [wb, gb] ax z) (ht : n + p = tot) : Calls Tryd.prog 82 #[Ptr wb 0, .slice ax p cx] w (Post w [wb, gb] (fun v L => v = Ptr wb 0 ∧ ∃ g sp cap, L = [⟨wb, [ev, Slc g 0 tot cap], 149, (0, 0)⟩, ⟨g, cu8 (o ++ z) ++ sp, 5, (0, 0)⟩] ∧ sp.length = cap - tot ∧ tot ≤ cap ∧ cap ≤ maxLen)) := by
 have hmx : maxLen = 9223372036854775807 := rfl
 refine enter w [wb, gb] 17 [⟨wb, [ev, Slc gb 0 n cap0], 149, (0, 0)⟩, ⟨gb, cu8 o ++ sp0, 5, (0, 0)⟩] [Ptr wb 0, .slice ax p cx] Tryd.func82 rfl rfl (by simp) (BZ (by simp; exact ⟨h0, h1⟩) (by simp; exact hne) (by simp)) ?_
 show JC _ _ _ [(0, Ptr wb 0), (1, .slice ax p cx)] _
 refine AI (AD (AA _ (AG rfl) rfl ?_))
 refine AN (AE (AI (AI (AD (AA _ (AH rfl) rfl ?_)))))
 refine AA (.bool false) (C2 _ _ _ rfl rfl (fun _ => FM ..) fun _ => FQ Tryd.underlying145) rfl ?_
 refine AN (AE (CK _ rfl rfl ?_))
 refine BT (AE (AI (AD (AA _ (AH rfl) rfl ?_))))
 refine AA _ (AH rfl) rfl ?_
 refine AA _ (CZ rfl) rfl ?_
 refine AA (Ptr wb 1) (AB 1 43 1 CU rfl B7 rfl rfl) rfl ?_
 refine AA (Slc gb 0 n cap0) (AK rfl (AV D0 (AS 0 rfl (AJ (Seg.head))))) rfl ?_
 refine AA _ (AH rfl) rfl ?_
 refine A1 (C5 43 5 [false, true] (Slc gb 0 n cap0) n o z ax p cx (n + p) AM C0 rfl (.inr ⟨gb, sp0, cap0, rfl, rfl, (by first | exact ho | simp [ho]), hsp, (by omega), (by omega)⟩) rfl (by first | exact hz | simp [hz]; try omega) (hr.src) (by omega) (by unfold maxLen; omega) (by omega)) rfl ?_
 rintro v1 L1 ⟨nb1, sp1, cp1, hg1, rfl, rfl, ha1, ha2, ha3, ha4⟩
 show JL _ _ _ _ ((13, Slc nb1 0 (n + p) cp1) :: _) [_, ⟨nb1, cu8 (o ++ z) ++ sp1, 5, (0, 0)⟩]
 refine AA _ (CZ rfl) rfl ?_
 refine AA (Ptr wb 1) (AB 1 43 1 CU rfl B7 rfl rfl) rfl ?_
 refine A7 (DT 0 wb 1 1 ([ev, Slc gb 0 n cap0]) 149 (Slc nb1 0 (n + p) cp1) ([Slc nb1 0 (n + p) cp1]) ([ev, Slc nb1 0 (n + p) cp1]) rfl rfl rfl rfl B7 rfl (by simp [Value.oneCell']) (Nat.le_of_ble_eq_true rfl) (rfl)) rfl ?_
 show JL _ _ _ _ _ [⟨wb, [ev, Slc nb1 0 (n + p) cp1], 149, (0, 0)⟩, _]
 refine AN (AE (AI (AD (AA _ (AH rfl) rfl ?_))))
 refine AA _ (AG rfl) rfl ?_
 refine AN (AE (BP (BQ (Ptr wb 0) (res1 Tryd.results82 (B2 rfl)) fun w1 hw1 => ?_)))
 obtain rfl : tot = (n + p) := by omega
 exact ⟨_, _, rfl, ⟨rfl, nb1, sp1, cp1, rfl, ha2, ha3, ha4⟩, hw1⟩
end Go.Proofs.YtkdpdgpphpngeaaDoor
namespace Go.Sx
def rotr (x : UInt32) (k : Nat) : UInt32 := (x <<< UInt32.ofNat (32 - k)) ||| (x >>> UInt32.ofNat k)
def wordL (z : List UInt8) : UInt32 := ((((g8 z 0).toUInt32 <<< (24:UInt32)) ||| ((g8 z 1).toUInt32 <<< (16:UInt32))) ||| ((g8 z 2).toUInt32 <<< (8:UInt32))) ||| (g8 z 3).toUInt32
def wrdN (z : List UInt8) (t : Nat) : Nat → UInt32
 | 0 => 0
 | i + 1 => wrdN z t i * 256 + (g8 z (i + 4*t)).toUInt32
def spS (blk : List UInt8) (t : Nat) (w : List UInt32) : List UInt32 :=
 if t < 16 then w.set t (wordL (mid blk (4*t) 4))
 else w.set t (((g32 w (t - 16) + ((rotr (g32 w (t - 15)) 7 ^^^ rotr (g32 w (t - 15)) 18) ^^^ (g32 w (t - 15) >>> (3:UInt32)))) + g32 w (t - 7)) + ((rotr (g32 w (t - 2)) 17 ^^^ rotr (g32 w (t - 2)) 19) ^^^ (g32 w (t - 2) >>> (10:UInt32))))
def spN (blk : List UInt8) : Nat → List UInt32
 | 0 => zr32 64
 | t + 1 => spS blk t (spN blk t)
theorem spN_len (blk : List UInt8) : ∀ t, (spN blk t).length = 64
 | 0 => FP 64
 | t + 1 => by rw [spN, spS]; split <;> simp [spN_len blk t]
def spreadL (blk : List UInt8) : List UInt32 := spN blk 64
theorem spreadL_len (blk : List UInt8) : (spreadL blk).length = 64 := spN_len blk 64
def shaP (e f g h k w : UInt32) : UInt32 := (((h + ((rotr e 6 ^^^ rotr e 11) ^^^ rotr e 25)) + ((e &&& f) ^^^ ((~~~e) &&& g))) + k) + w
def shaQ (a b c : UInt32) : UInt32 := ((rotr a 2 ^^^ rotr a 13) ^^^ rotr a 22) + (((a &&& b) ^^^ (a &&& c)) ^^^ (b &&& c))
def rdS (s : List UInt32) (k w : UInt32) : List UInt32 :=
 let p := shaP (g32 s 4) (g32 s 5) (g32 s 6) (g32 s 7) k w
 let q := shaQ (g32 s 0) (g32 s 1) (g32 s 2)
 [p + q, g32 s 0, g32 s 1, g32 s 2, g32 s 3 + p, g32 s 4, g32 s 5, g32 s 6]
def cpN (kk : List UInt32) (s : List UInt32) (w : List UInt32) : Nat → List UInt32
 | 0 => s
 | t + 1 => rdS (cpN kk s w t) (g32 kk t) (g32 w t)
theorem cpN_len {kk s w : List UInt32} (h : s.length = 8) : ∀ t, (cpN kk s w t).length = 8
 | 0 => h
 | _ + 1 => rfl
def adN (st s : List UInt32) : Nat → List UInt32
 | 0 => s
 | i + 1 => (adN st s i).set i (g32 (adN st s i) i + g32 st i)
theorem adN_len (st s : List UInt32) : ∀ i, (adN st s i).length = s.length
 | 0 => rfl
 | i + 1 => by simp [adN, adN_len st s i]
def comprL (kk st : List UInt32) (blk : List UInt8) : List UInt32 := adN st (cpN kk st (spreadL blk) 64) 8
theorem GA {kk st : List UInt32} {blk : List UInt8} (h : st.length = 8) : (comprL kk st blk).length = 8 := by rw [comprL, adN_len, cpN_len h]
theorem adN_get (st s : List UInt32) : ∀ i, i ≤ s.length → ∀ j, g32 (adN st s i) j = if j < i then g32 s j + g32 st j else g32 s j
  | 0, _, j => by simp [adN]
  | i + 1, hi, j => by
    rw [adN, g32_set _ _ _ _ (by rw [adN_len]; omega)]
    by_cases h : i = j
    · subst h; rw [if_pos rfl, if_pos (by omega), adN_get st s i (by omega), if_neg (by omega)]
    · rw [if_neg h, adN_get st s i (by omega)]
      by_cases h2 : j < i
      · rw [if_pos h2, if_pos (by omega)]
      · rw [if_neg h2, if_neg (by omega)]
theorem comprL_eq {kk st : List UInt32} {blk : List UInt8} (h : st.length = 8) (a b c d e f g h' : UInt32) (hs : cpN kk st (spreadL blk) 64 = [a, b, c, d, e, f, g, h']) :
  comprL kk st blk = [g32 st 0 + a, g32 st 1 + b, g32 st 2 + c, g32 st 3 + d, g32 st 4 + e, g32 st 5 + f, g32 st 6 + g, g32 st 7 + h'] := by
 refine ext32 (by rw [GA h]; rfl) fun j hj => ?_
 rw [GA h] at hj
 rw [comprL, adN_get _ _ _ (by rw [hs]; exact Nat.le_refl _), if_pos hj, hs]
 have : j = 0 ∨ j = 1 ∨ j = 2 ∨ j = 3 ∨ j = 4 ∨ j = 5 ∨ j = 6 ∨ j = 7 := by omega
 rcases this with rfl | rfl | rfl | rfl | rfl | rfl | rfl | rfl <;> simp [g32, UInt32.add_comm]
theorem ofN (k : Nat) (h : k < 4294967296) : (UInt64.ofNat k).toNat = k := by rw [UInt64.toNat_ofNat']; exact Nat.mod_eq_of_lt (by omega)
theorem shl_lit (a : UInt8) (k : UInt32) (hk : k.toNat ≤ 24) : (a.toUInt32 <<< k).toNat = a.toNat * 2 ^ k.toNat := by
 have ha := a.toNat_lt
 rw [UInt32.toNat_shiftLeft, UInt8.toNat_toUInt32, Nat.shiftLeft_eq, Nat.mod_eq_of_lt (a := k.toNat) (by omega)]
 refine Nat.mod_eq_of_lt ?_
 have h2 : 2 ^ k.toNat ≤ 2 ^ 24 := Nat.pow_le_pow_right (by omega) hk
 have h3 : a.toNat * 2 ^ k.toNat ≤ a.toNat * 2 ^ 24 := Nat.mul_le_mul_left _ h2
 omega
theorem or_add (x y : UInt32) (k : Nat) (hx : x.toNat % 2 ^ k = 0) (hy : y.toNat < 2 ^ k) : (x ||| y).toNat = x.toNat + y.toNat := by
 rw [UInt32.toNat_or]
 have := Nat.shiftLeft_add_eq_or_of_lt (i := k) (b := y.toNat) hy (x.toNat / 2 ^ k)
 rw [Nat.shiftLeft_eq, Nat.div_mul_cancel (Nat.dvd_of_mod_eq_zero hx)] at this
 exact this.symm
theorem wordL_val (z : List UInt8) : (wordL z).toNat = (g8 z 0).toNat * 16777216 + (g8 z 1).toNat * 65536 + (g8 z 2).toNat * 256 + (g8 z 3).toNat := by
 have h0 := (g8 z 0).toNat_lt; have h1 := (g8 z 1).toNat_lt; have h2 := (g8 z 2).toNat_lt; have h3 := (g8 z 3).toNat_lt
 have e0 := shl_lit (g8 z 0) 24 (by decide)
 have e1 := shl_lit (g8 z 1) 16 (by decide)
 have e2 := shl_lit (g8 z 2) 8 (by decide)
 simp only [show (24 : UInt32).toNat = 24 from rfl, show (16 : UInt32).toNat = 16 from rfl, show (8 : UInt32).toNat = 8 from rfl] at e0 e1 e2
 have s1 := or_add ((g8 z 0).toUInt32 <<< (24:UInt32)) ((g8 z 1).toUInt32 <<< (16:UInt32)) 24 (by rw [e0]; omega) (by rw [e1]; omega)
 have s2 := or_add _ ((g8 z 2).toUInt32 <<< (8:UInt32)) 16 (by rw [s1, e0, e1]; omega) (by rw [e2]; omega)
 have s3 := or_add _ ((g8 z 3).toUInt32) 8 (by rw [s2, s1, e0, e1, e2]; omega) (by rw [UInt8.toNat_toUInt32]; omega)
 rw [wordL, s3, s2, s1, e0, e1, e2, UInt8.toNat_toUInt32]
theorem wrd_word (blk : List UInt8) (t : Nat) : wrdN blk t 4 = wordL (mid blk (4*t) 4) := by
 apply UInt32.toNat_inj.1
 have g : ∀ i, i < 4 → g8 (mid blk (4*t) 4) i = g8 blk (i + 4*t) := fun i hi => by rw [g8_mid hi, Nat.add_comm]
 rw [wordL_val, g 0 (by omega), g 1 (by omega), g 2 (by omega), g 3 (by omega)]
 have h0 := (g8 blk (0 + 4*t)).toNat_lt; have h1 := (g8 blk (1 + 4*t)).toNat_lt; have h2 := (g8 blk (2 + 4*t)).toNat_lt; have h3 := (g8 blk (3 + 4*t)).toNat_lt
 have e : ∀ (a : UInt32) (b : UInt8), (a * 256 + b.toUInt32).toNat = (a.toNat * 256 + b.toNat) % 4294967296 := fun a b => by
  rw [UInt32.toNat_add, UInt32.toNat_mul, UInt8.toNat_toUInt32, show (256 : UInt32).toNat = 256 from rfl]; omega
 have z0 : (wrdN blk t 0).toNat = 0 := rfl
 have e1 : (wrdN blk t 1).toNat = _ := e (wrdN blk t 0) (g8 blk (0 + 4*t))
 have e2 : (wrdN blk t 2).toNat = _ := e (wrdN blk t 1) (g8 blk (1 + 4*t))
 have e3 : (wrdN blk t 3).toNat = _ := e (wrdN blk t 2) (g8 blk (2 + 4*t))
 have e4 : (wrdN blk t 4).toNat = _ := e (wrdN blk t 3) (g8 blk (3 + 4*t))
 omega
def nzP (n : Nat) : Nat := (119 - n % 64) % 64
def lenN (n : Nat) : Nat → List UInt8
 | 0 => []
 | i + 1 => lenN n i ++ [((8 * UInt64.ofNat n) >>> UInt64.ofNat (56 - 8*i)).toUInt8]
theorem lenN_len (n : Nat) : ∀ i, (lenN n i).length = i
 | 0 => rfl
 | i + 1 => by simp [lenN, lenN_len n i]
def padL (b : List UInt8) : List UInt8 := ((b ++ [128]) ++ zr8 (nzP b.length)) ++ lenN b.length 8
theorem padL_len (b : List UInt8) : (padL b).length = b.length + 9 + nzP b.length := by simp [padL, lenN_len, AP]; omega
theorem pad_mod (b : List UInt8) : (padL b).length % 64 = 0 := by rw [padL_len, nzP]; omega
def stN (kk init : List UInt32) (p : List UInt8) : Nat → List UInt32
 | 0 => init
 | k + 1 => comprL kk (stN kk init p k) (mid p (64*k) 64)
theorem stN_len {kk init : List UInt32} {p : List UInt8} (h : init.length = 8) : ∀ k, (stN kk init p k).length = 8
 | 0 => h
 | k + 1 => GA (stN_len h k)
def byteAt (s : List UInt32) (i : Nat) : UInt8 := (g32 s (i / 4) >>> UInt32.ofNat (24 - 8*(i % 4))).toUInt8
def hashL (s : List UInt32) : List UInt8 := (List.range 32).map (byteAt s)
theorem hashL_len (s : List UInt32) : (hashL s).length = 32 := by simp [hashL]
def outN (s : List UInt32) : Nat → List UInt8
 | 0 => zr8 32
 | i + 1 => spl (outN s i) (4*i) [(g32 s i >>> (24:UInt32)).toUInt8, (g32 s i >>> (16:UInt32)).toUInt8, (g32 s i >>> (8:UInt32)).toUInt8, (g32 s i).toUInt8]
def routN (s : List UInt32) : Nat → List UInt8
 | 0 => zr8 32
 | i + 1 => (routN s i).set i (byteAt s i)
theorem outN_len (s : List UInt32) : ∀ i, i ≤ 8 → (outN s i).length = 32
 | 0, _ => AP 32
 | i + 1, h => by rw [outN, spl_len (by rw [outN_len s i (by omega)]; simp; omega), outN_len s i (by omega)]
theorem routN_len (s : List UInt32) : ∀ i, (routN s i).length = 32
 | 0 => AP 32
 | i + 1 => by rw [routN, List.length_set, routN_len s i]
theorem byteAt4 (s : List UInt32) (i : Nat) : ∀ d, d < 4 → g8 [(g32 s i >>> (24:UInt32)).toUInt8, (g32 s i >>> (16:UInt32)).toUInt8, (g32 s i >>> (8:UInt32)).toUInt8, (g32 s i).toUInt8] d = byteAt s (4*i + d)
 | 0, _ => by rw [byteAt, show (4*i + 0) / 4 = i from by omega, show (4*i + 0) % 4 = 0 from by omega]; rfl
 | 1, _ => by rw [byteAt, show (4*i + 1) / 4 = i from by omega, show (4*i + 1) % 4 = 1 from by omega]; rfl
 | 2, _ => by rw [byteAt, show (4*i + 2) / 4 = i from by omega, show (4*i + 2) % 4 = 2 from by omega]; rfl
 | 3, _ => by
  rw [byteAt, show (4*i + 3) / 4 = i from by omega, show (4*i + 3) % 4 = 3 from by omega]
  have : g32 s i >>> UInt32.ofNat (24 - 8 * 3) = g32 s i := by
   apply UInt32.toNat_inj.1
   rw [UInt32.toNat_shiftRight]; rfl
  rw [this]; rfl
 | _ + 4, h => absurd h (by omega)
theorem outN_get (s : List UInt32) : ∀ i, i ≤ 8 → ∀ j, j < 4*i → g8 (outN s i) j = byteAt s j
  | 0, _, j, hj => by omega
  | i + 1, hi, j, hj => by
    rw [outN, g8_spl (by rw [outN_len s i (by omega)]; simp; omega)]
    by_cases h : 4*i ≤ j ∧ j < 4*i + ([(g32 s i >>> (24:UInt32)).toUInt8, (g32 s i >>> (16:UInt32)).toUInt8, (g32 s i >>> (8:UInt32)).toUInt8, (g32 s i).toUInt8] : List UInt8).length
    · rw [if_pos h, byteAt4 s i (j - 4*i) (by simp at h; omega), show 4*i + (j - 4*i) = j from by omega]
    · rw [if_neg h]; exact outN_get s i (by omega) j (by simp at h; omega)
theorem outN_hash (s : List UInt32) : outN s 8 = hashL s :=
 ext8 (by rw [outN_len s 8 (by omega), hashL_len]) fun j hj => by
  rw [outN_len s 8 (by omega)] at hj
  rw [outN_get s 8 (by omega) j (by omega), hashL, g8_map_range hj]
theorem routN_get (s : List UInt32) : ∀ i, i ≤ 32 → ∀ j, j < i → g8 (routN s i) j = byteAt s j
  | 0, _, j, hj => by omega
  | i + 1, hi, j, hj => by
    rw [routN, g8_set _ _ _ _ (by rw [routN_len]; omega)]
    by_cases h : i = j
    · subst h; rw [if_pos rfl]
    · rw [if_neg h]; exact routN_get s i (by omega) j (by omega)
theorem routN_hash (s : List UInt32) : routN s 32 = hashL s :=
 ext8 (by rw [routN_len, hashL_len]) fun j hj => by
  rw [routN_len] at hj
  rw [routN_get s 32 (by omega) j hj, hashL, g8_map_range hj]
def sumG (kk init : List UInt32) (b : List UInt8) : List UInt8 := hashL (stN kk init (padL b) ((padL b).length / 64))
theorem DY (kk init : List UInt32) (b : List UInt8) : (sumG kk init b).length = 32 := hashL_len _
end Go.Sx
namespace Go.Proofs.YtkdpdgpphpngeaaDoor
open Go Go.Sx
attribute [local irreducible] mid zr8 zr32 rotr wordL
def constL : List UInt32 := [1116352408, 1899447441, 3049323471, 3921009573, 961987163, 1508970993, 2453635748, 2870763221, 3624381080, 310598401, 607225278, 1426881987, 1925078388, 2162078206, 2614888103, 3248222580, 3835390401, 4022224774, 264347078, 604807628, 770255983, 1249150122, 1555081692, 1996064986, 2554220882, 2821834349, 2952996808, 3210313671, 3336571891, 3584528711, 113926993, 338241895, 666307205, 773529912, 1294757372, 1396182291, 1695183700, 1986661051, 2177026350, 2456956037, 2730485921, 2820302411, 3259730800, 3345764771, 3516065817, 3600352804, 4094571909, 275423344, 430227734, 506948616, 659060556, 883997877, 958139571, 1322822218, 1537002063, 1747873779, 1955562222, 2024104815, 2227730452, 2361852424, 2428436474, 2756734187, 3204031479, 3329325298]
def initL : List UInt32 := [1779033703, 3144134277, 1013904242, 2773480762, 1359893119, 2600822924, 528734635, 1541459225]
theorem FT : constL.length = 64 := rfl
theorem E7 : initL.length = 8 := rfl
def GLs (w : World) : Prop := RdA w 5 0 (cu32 constL) ∧ RdA w 3 0 (cu32 initL)
def GLr (w : World) : Prop := RdA w 2 0 (cu32 constL)
def GLi (w : World) : Prop := RdA w 1 0 (cu32 initL)
theorem RdA_at {C : Cx} {L : List Ent} {w : World} {b off : Nat} {vs : List Value} (hw : Hp C.w0 C.M L w) (h : RdA C.w0 b off vs) (hz : 0 < vs.length) (hM : b ∉ C.M) : RdA w b off vs := RdA.of hw (h.mem hM) hz
theorem GLs.at {C : Cx} {L : List Ent} {w : World} (hw : Hp C.w0 C.M L w) (h : GLs C.w0) (h1 : 5 ∉ C.M := by simp) (h2 : 3 ∉ C.M := by simp) : GLs w := ⟨RdA_at hw h.1 (by simp [FT]) h1, RdA_at hw h.2 (by simp [E7]) h2⟩
theorem GLr.at {C : Cx} {L : List Ent} {w : World} (hw : Hp C.w0 C.M L w) (h : GLr C.w0) (h1 : 2 ∉ C.M := by simp) : GLr w := RdA_at hw h (by simp [FT]) h1
theorem GLi.at {C : Cx} {L : List Ent} {w : World} (hw : Hp C.w0 C.M L w) (h : GLi C.w0) (h1 : 1 ∉ C.M := by simp) : GLi w := RdA_at hw h (by simp [E7]) h1
theorem rot_and {k : Nat} (h1 : 1 ≤ k) (h2 : k ≤ 31) : (u64i (-(k:Int)) &&& (31:UInt64)).toNat = 32 - k := by
 have : k = 1 ∨ k = 2 ∨ k = 3 ∨ k = 4 ∨ k = 5 ∨ k = 6 ∨ k = 7 ∨ k = 8 ∨ k = 9 ∨ k = 10 ∨ k = 11 ∨ k = 12 ∨ k = 13 ∨ k = 14 ∨ k = 15 ∨ k = 16 ∨ k = 17 ∨ k = 18 ∨ k = 19 ∨ k = 20 ∨ k = 21 ∨ k = 22 ∨ k = 23 ∨ k = 24 ∨ k = 25 ∨ k = 26 ∨ k = 27 ∨ k = 28 ∨ k = 29 ∨ k = 30 ∨ k = 31 := by omega
 rcases this with rfl | rfl | rfl | rfl | rfl | rfl | rfl | rfl | rfl | rfl | rfl | rfl | rfl | rfl | rfl | rfl | rfl | rfl | rfl | rfl | rfl | rfl | rfl | rfl | rfl | rfl | rfl | rfl | rfl | rfl | rfl <;> rfl
theorem rotl_c (x : UInt32) (k : Nat) (w : World) (h1 : 1 ≤ k) (h2 : k ≤ 31) : Calls Tryd.prog 208 #[U32 x, I64 (-(k:Int))] w (Post w [] (fun v L => v = U32 (rotr x k) ∧ L = [])) := by
 have hr := rot_and h1 h2
 have hs2 : ((32:UInt64) - (u64i (-(k:Int)) &&& (31:UInt64))).toNat = k := by rw [UInt64.toNat_sub, hr, show (32:UInt64).toNat = 32 from rfl]; omega
 refine enter w [] 17 [] [U32 x, I64 (-(k:Int))] Tryd.func208 rfl rfl (by simp) (BZ (by simp) (by simp) (by simp)) ?_
 show JC _ _ _ [(0, U32 x), (1, I64 (-(k:Int)))] _
 refine AI (AD (AA _ (AG rfl) rfl ?_))
 refine AN (AE (AI (AD (AA _ (AH rfl) rfl ?_))))
 refine AA (U64 (u64i (-(k:Int)))) (DW _ _ rfl fun _ => conv_i64_u64i (by rw [CG]; rfl) DS (-(k:Int))) rfl ?_
 refine AA (U64 ((u64i (-(k:Int))) &&& (31:UInt64))) (AR rfl rfl fun _ => bin_and_u64 (u64i (-(k:Int))) (31:UInt64)) rfl ?_
 refine AA _ (AG rfl) rfl ?_
 refine AN (AE (AI (AD (AA _ (AH rfl) rfl ?_))))
 refine AA _ (AH rfl) rfl ?_
 refine AA (U32 (x <<< UInt32.ofNat (((u64i (-(k:Int))) &&& (31:UInt64)).toNat))) (AR rfl rfl fun _ => bin_shl_u32 x _ _ (((u64i (-(k:Int))) &&& (31:UInt64)).toNat) (by omega) (by omega)) rfl ?_
 refine AA _ (AH rfl) rfl ?_
 refine AA _ (AH rfl) rfl ?_
 refine AA (U64 ((32:UInt64) - ((u64i (-(k:Int))) &&& (31:UInt64)))) (AR rfl rfl fun _ => bin_sub_u64 (32:UInt64) ((u64i (-(k:Int))) &&& (31:UInt64))) rfl ?_
 refine AA (U32 (x >>> UInt32.ofNat (((32:UInt64) - ((u64i (-(k:Int))) &&& (31:UInt64))).toNat))) (AR rfl rfl fun _ => EO x _ _ (((32:UInt64) - ((u64i (-(k:Int))) &&& (31:UInt64))).toNat) (by omega) (by omega)) rfl ?_
 refine AA (U32 ((x <<< UInt32.ofNat (((u64i (-(k:Int))) &&& (31:UInt64)).toNat)) ||| (x >>> UInt32.ofNat (((32:UInt64) - ((u64i (-(k:Int))) &&& (31:UInt64))).toNat)))) (AR rfl rfl fun _ => bin_or_u32 (x <<< UInt32.ofNat (((u64i (-(k:Int))) &&& (31:UInt64)).toNat)) (x >>> UInt32.ofNat (((32:UInt64) - ((u64i (-(k:Int))) &&& (31:UInt64))).toNat))) rfl ?_
 refine AA _ (AG rfl) rfl ?_
 refine AN (AE (BP (BQ (U32 ((x <<< UInt32.ofNat (((u64i (-(k:Int))) &&& (31:UInt64)).toNat)) ||| (x >>> UInt32.ofNat (((32:UInt64) - ((u64i (-(k:Int))) &&& (31:UInt64))).toNat)))) (res1 Tryd.results208 (B2 rfl)) fun w1 hw1 => ?_)))
 refine ⟨_, [], rfl, ⟨?_, rfl⟩, hw1.sub (by simp) (by simp)⟩
 simp only [hr, hs2]
 rw [rotr]
theorem turn_c (x : UInt32) (k : Nat) (w : World) (h1 : 1 ≤ k) (h2 : k ≤ 31) : Calls Tryd.prog 203 #[U32 x, I64 k] w (Post w [] (fun v L => v = U32 (rotr x k) ∧ L = [])) := by
 refine enter w [] 9 [] [U32 x, I64 k] Tryd.func203 rfl rfl (by simp) (BZ (by simp) (by simp) (by simp)) ?_
 show JC _ _ _ [(0, U32 x), (1, I64 k)] _
 refine AI (AD (AA _ (AG rfl) rfl ?_))
 refine AN (AE (AI (AD (AA _ (AH rfl) rfl ?_))))
 refine AA _ (AH rfl) rfl ?_
 refine AA (I64 (-(k:Int))) (Ev_un _ _ rfl fun _ => un_neg_i _ (-(k:Int)) (by omega) (by omega)) rfl ?_
 refine A7 (A3 208 [U32 x, I64 (-(k:Int))] (U32 (rotr x k)) (AY _ Tryd.call208 rfl) (fun w1 hw1 => rotl_c x k w1 (by omega) (by omega))) rfl ?_
 show JL _ _ _ _ ((8, U32 (rotr x k)) :: _) []
 refine AA _ (AG rfl) rfl ?_
 refine AN (AE (BP (BQ (U32 (rotr x k)) (res1 Tryd.results203 (B2 rfl)) fun w1 hw1 => ?_)))
 exact ⟨_, [], rfl, ⟨rfl, rfl⟩, hw1.sub (by simp) (by simp)⟩
theorem rturn_c (x : UInt32) (k : Nat) (w : World) (h1 : 1 ≤ k) (h2 : k ≤ 31) : Calls Tryd.prog 191 #[U32 x, I64 k] w (Post w [] (fun v L => v = U32 (rotr x k) ∧ L = [])) := by
 refine enter w [] 15 [] [U32 x, I64 k] Tryd.func191 rfl rfl (by simp) (BZ (by simp) (by simp) (by simp)) ?_
 show JC _ _ _ [(0, U32 x), (1, I64 k)] _
 refine AI (AD (AA _ (AG rfl) rfl ?_))
 refine AN (AE (AI (AD (AA _ (AH rfl) rfl ?_))))
 refine AA _ (AH rfl) rfl ?_
 refine AA (U64 (UInt64.ofNat k)) (DW _ _ rfl fun _ => EN (by rw [CG]; rfl) DS k _ (by omega)) rfl ?_
 refine AA (U32 (x >>> UInt32.ofNat k)) (AR rfl rfl fun _ => EO x _ _ k (by omega) (ofN_i (by omega))) rfl ?_
 refine AA _ (AH rfl) rfl ?_
 refine AA _ (AH rfl) rfl ?_
 refine AA (I64 (-(k:Int) + 32)) (AR rfl rfl fun _ => DD _ _ (-(k:Int) + 32) (by omega) (by omega)) rfl ?_
 refine AA (U64 (UInt64.ofNat (32 - k))) (DW _ _ rfl fun _ => EN (by rw [CG]; rfl) DS (32 - k) _ (by omega)) rfl ?_
 refine AA (U32 (x <<< UInt32.ofNat (32 - k))) (AR rfl rfl fun _ => bin_shl_u32 x _ _ (32 - k) (by omega) (ofN_i (by omega))) rfl ?_
 refine AA (U32 ((x >>> UInt32.ofNat k) ||| (x <<< UInt32.ofNat (32 - k)))) (AR rfl rfl fun _ => bin_or_u32 (x >>> UInt32.ofNat k) (x <<< UInt32.ofNat (32 - k))) rfl ?_
 refine AA _ (AG rfl) rfl ?_
 refine AN (AE (BP (BQ (U32 ((x >>> UInt32.ofNat k) ||| (x <<< UInt32.ofNat (32 - k)))) (res1 Tryd.results191 (B2 rfl)) fun w1 hw1 => ?_)))
 refine ⟨_, [], rfl, ⟨?_, rfl⟩, hw1.sub (by simp) (by simp)⟩
 rw [rotr, UInt32.or_comm]
theorem word_c (az : Option Addr) (cz : Nat) (z : List UInt8) (w : World) (hz : z.length = 4) (hr : RdB w [] az z) : Calls Tryd.prog 207 #[.slice az 4 cz] w (Post w [] (fun v L => v = U32 (wordL z) ∧ L = [])) := by
 refine enter w [] 25 [] [.slice az 4 cz] Tryd.func207 rfl rfl (by simp) (BZ (by simp) (by simp) (by simp)) ?_
 show JC _ _ _ [(0, .slice az 4 cz)] _
 refine AI (AD (AA _ (AG rfl) rfl ?_))
 refine AN (AE (AI ?_))
 obtain ⟨bz1, oz1, hz1, hm1⟩ := hr.pos (by rw [hz]; omega)
 refine C1 25 1 [(0, .slice az 4 cz), (1, Ptr bz1 oz1), (2, U8 (g8 z 0)), (3, U32 ((g8 z 0).toUInt32)), (4, U32 (((g8 z 0).toUInt32) <<< (24:UInt32))), (5, .slice az 4 cz), (6, Ptr bz1 (oz1 + 1)), (7, U8 (g8 z 1)), (8, U32 ((g8 z 1).toUInt32)), (9, U32 (((g8 z 1).toUInt32) <<< (16:UInt32))), (10, U32 ((((g8 z 0).toUInt32) <<< (24:UInt32)) ||| (((g8 z 1).toUInt32) <<< (16:UInt32)))), (11, .slice az 4 cz), (12, Ptr bz1 (oz1 + 2)), (13, U8 (g8 z 2)), (14, U32 ((g8 z 2).toUInt32)), (15, U32 (((g8 z 2).toUInt32) <<< (8:UInt32))), (16, U32 (((((g8 z 0).toUInt32) <<< (24:UInt32)) ||| (((g8 z 1).toUInt32) <<< (16:UInt32))) ||| (((g8 z 2).toUInt32) <<< (8:UInt32)))), (17, .slice az 4 cz), (18, Ptr bz1 (oz1 + 3)), (19, U8 (g8 z 3)), (20, U32 ((g8 z 3).toUInt32)), (21, U32 ((((((g8 z 0).toUInt32) <<< (24:UInt32)) ||| (((g8 z 1).toUInt32) <<< (16:UInt32))) ||| (((g8 z 2).toUInt32) <<< (8:UInt32))) ||| ((g8 z 3).toUInt32))), (22, U32 ((((((g8 z 0).toUInt32) <<< (24:UInt32)) ||| (((g8 z 1).toUInt32) <<< (16:UInt32))) ||| (((g8 z 2).toUInt32) <<< (8:UInt32))) ||| ((g8 z 3).toUInt32)))] BV rfl (by decide +kernel) ?_
 refine C4 ⟨[], [0, 1, 2, 3, 4, 5, 6, 7, 8, 9, 10, 11, 12, 13, 14, 15, 16, 17, 18, 19, 20, 21, 22], [], [0, 1, 2, 3, 4, 5, 6, 7, 8, 9, 10, 11, 12, 13, 14, 15, 16, 17, 18, 19, 20, 21, 22], []⟩ rfl rfl (by decide +kernel) rfl ⟨A2 rfl rfl rfl, ⟨_, rfl, AC rfl (D9 5 1 oz1 AM AW rfl hz1 rfl (by omega) (by omega) (by omega))⟩, ⟨_, rfl, AC rfl (AK rfl (AV D4 (C8 (MemAt.base hm1.1 hm1.2.1 hm1.2.2) (Seg.get (GE (i := 0) (by rw [hz]; omega))) (by omega))))⟩, ⟨_, rfl, AC rfl (DW _ _ rfl fun _ => conv_u8_u32 (by rw [B6]; rfl) DR _)⟩, ⟨_, rfl, AC rfl (AR rfl rfl fun _ => bin_shl_u32 ((g8 z 0).toUInt32) _ _ 24 (by decide) rfl)⟩, A2 rfl rfl rfl, ⟨_, rfl, AC rfl (D9 5 1 (oz1 + 1) AM AW rfl hz1 rfl (by omega) (by omega) (by omega))⟩, ⟨_, rfl, AC rfl (AK rfl (AV D4 (C8 (MemAt.base hm1.1 hm1.2.1 hm1.2.2) (Seg.get (GE (i := 1) (by rw [hz]; omega))) (by omega))))⟩, ⟨_, rfl, AC rfl (DW _ _ rfl fun _ => conv_u8_u32 (by rw [B6]; rfl) DR _)⟩, ⟨_, rfl, AC rfl (AR rfl rfl fun _ => bin_shl_u32 ((g8 z 1).toUInt32) _ _ 16 (by decide) rfl)⟩, ⟨_, rfl, AC rfl (AR rfl rfl fun _ => bin_or_u32 (((g8 z 0).toUInt32) <<< (24:UInt32)) (((g8 z 1).toUInt32) <<< (16:UInt32)))⟩, A2 rfl rfl rfl, ⟨_, rfl, AC rfl (D9 5 1 (oz1 + 2) AM AW rfl hz1 rfl (by omega) (by omega) (by omega))⟩, ⟨_, rfl, AC rfl (AK rfl (AV D4 (C8 (MemAt.base hm1.1 hm1.2.1 hm1.2.2) (Seg.get (GE (i := 2) (by rw [hz]; omega))) (by omega))))⟩, ⟨_, rfl, AC rfl (DW _ _ rfl fun _ => conv_u8_u32 (by rw [B6]; rfl) DR _)⟩, ⟨_, rfl, AC rfl (AR rfl rfl fun _ => bin_shl_u32 ((g8 z 2).toUInt32) _ _ 8 (by decide) rfl)⟩, ⟨_, rfl, AC rfl (AR rfl rfl fun _ => bin_or_u32 ((((g8 z 0).toUInt32) <<< (24:UInt32)) ||| (((g8 z 1).toUInt32) <<< (16:UInt32))) (((g8 z 2).toUInt32) <<< (8:UInt32)))⟩, A2 rfl rfl rfl, ⟨_, rfl, AC rfl (D9 5 1 (oz1 + 3) AM AW rfl hz1 rfl (by omega) (by omega) (by omega))⟩, ⟨_, rfl, AC rfl (AK rfl (AV D4 (C8 (MemAt.base hm1.1 hm1.2.1 hm1.2.2) (Seg.get (GE (i := 3) (by rw [hz]; omega))) (by omega))))⟩, ⟨_, rfl, AC rfl (DW _ _ rfl fun _ => conv_u8_u32 (by rw [B6]; rfl) DR _)⟩, ⟨_, rfl, AC rfl (AR rfl rfl fun _ => bin_or_u32 (((((g8 z 0).toUInt32) <<< (24:UInt32)) ||| (((g8 z 1).toUInt32) <<< (16:UInt32))) ||| (((g8 z 2).toUInt32) <<< (8:UInt32))) ((g8 z 3).toUInt32))⟩, ⟨_, rfl, AC rfl (AG rfl)⟩, trivial⟩ ?_
 refine CI (F' := [(2, U32 ((((((g8 z 0).toUInt32) <<< (24:UInt32)) ||| (((g8 z 1).toUInt32) <<< (16:UInt32))) ||| (((g8 z 2).toUInt32) <<< (8:UInt32))) ||| ((g8 z 3).toUInt32)))]) (by kernel_rfl) ?_
 refine AE (BP (BQ (U32 ((((((g8 z 0).toUInt32) <<< (24:UInt32)) ||| (((g8 z 1).toUInt32) <<< (16:UInt32))) ||| (((g8 z 2).toUInt32) <<< (8:UInt32))) ||| ((g8 z 3).toUInt32))) (res1 Tryd.results207 (B2 rfl)) fun w1 hw1 => ?_))
 refine ⟨_, [], rfl, ⟨?_, rfl⟩, hw1.sub (by simp) (by simp)⟩
 rw [wordL]
end Go.Proofs.YtkdpdgpphpngeaaDoor
