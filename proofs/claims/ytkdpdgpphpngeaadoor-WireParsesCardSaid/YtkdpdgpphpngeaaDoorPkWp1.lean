import Derived.WalkKit
import Derived.WalkSpells
import Derived.WalkLawsBesides
import Derived.Orders
import Derived.Deep.LoopGhost
import Derived.OwnWalkIn
import Derived.OrdersIn
import Derived.RangeFuncCalls
import Derived.ChangeKeysEq
import Derived.OpenShut
import Derived.ChangeOld
import Derived.Below
import Derived.Laws.Cover3
import Derived.ChangeSlices
import Derived.WideShapes
import Derived.RangeFuncNested
import Derived.RangeFuncRecord
import Derived.RangeFuncLeaves
import Derived.Deep.Slices
import Derived.LaidEql
import Derived.Test.YtkdpdgpphpngeaaDoorProg
import Derived.KernelRfl
import Derived.MakeChecks
import Derived.Laws.StructEq
import Derived.Lib.LaidTab
import Derived.Shelf.Bytes.SlJoin
set_option maxHeartbeats 8000000
set_option linter.unusedVariables false
set_option linter.unusedSimpArgs false
set_option maxRecDepth 100000
namespace Go.Sx
open Go Go.RowKit
abbrev U8 (x : UInt8) : Value := .int .u8 x.toNat
abbrev U32 (x : UInt32) : Value := .int .u32 x.toNat
abbrev U64 (x : UInt64) : Value := .int .u64 x.toNat
abbrev I64 (n : Int) : Value := .int .i64 n
abbrev Ptr (b o : Nat) : Value := .pointer (some ⟨b, o, none⟩)
abbrev Slc (b o l c : Nat) : Value := .slice (some ⟨b, o, none⟩) l c
structure Ent where
 b : Nat
 cs : List Value
 T : TypeId
 fz : Nat × Nat
abbrev Ez (b : Nat) (cs : List Value) (T : TypeId) : Ent := ⟨b, cs, T, (0, 0)⟩
abbrev Frm := List (Nat × Value)
def lk : Frm → Nat → Option Value
 | [], _ => none
 | (i, v) :: r, j => bif Nat.beq i j then some v else lk r j
def ev (F : Frm) : Operand → Option Value
 | .tmp t => lk F t
 | .const v => some v
 | .global g => some (.pointer (some ⟨g, 0, none⟩))
 | .func f => some (.func (.func f) #[] #[])
structure Cx where
 P : Program
 w0 : World
 M : List Nat
 n : Nat
 rd : Option Nat
 df : List Deferred
def Fc (rd : Option Nat) : Fence := { fn := fun _ => True, depth := none, alive := false, round := rd }
theorem nd_of_run {ρ : Operand → Value} {o : Oper} {P : Program} {w w' : World} {r : Next} (h : (execOp ρ o).run P w = .ok r w') (hr : ∀ d, r ≠ .defer d) : ∀ c, o.op ≠ .defer c := by
 intro c hc
 unfold execOp at h
 rw [hc] at h
 simp only [Sem.run_bind] at h
 cases hs : (resolve ρ c o.type).run P w with
 | ok d w1 => rw [hs] at h; simp [Result.andThen] at h; exact hr d h.1.symm
 | halt x w1 => rw [hs] at h; simp [Result.andThen] at h
theorem rowsIn_wide {rd : Option Nat} {n : Nat} {P : Program} {row : String} {args : Array Value} {w : World} {R : Value → World → Prop} (h : Rows P row args w R) : RowsIn (Fc rd) n P row args w R :=
 fun c cs _ => let ⟨v, w', r, s⟩ := h c cs; ⟨v, w', r, stepsIn_wide.2 s⟩
theorem wpIn_of_wp {rd : Option Nat} {n : Nat} {P : Program} {o : Oper} {a : Act} {w : World} {K : Act → World → Prop} {Q : Exit → Act → World → Prop} (hnd : ∀ c, o.op ≠ .defer c) (h : o.wp P a w K Q) : o.wpIn (Fc rd) n P a w K Q := by
 unfold Oper.wp at h
 unfold Oper.wpIn
 refine ⟨fun _ _ => trivial, ?_⟩
 rw [Oper.semAt_plain _ _ _ hnd]
 generalize (execOp a.eval o).run P w = r at *
 cases r with
 | ok x w' =>
  cases x <;> simp only [Oper.upon, Oper.uponIn] at h ⊢ <;>
   first
    | exact h
    | exact h.elim
    | exact ⟨fun hd => by simp [Fc] at hd, callsIn_wide.2 h⟩
    | exact ⟨fun hd => by simp [Fc] at hd, rowsIn_wide h⟩
 | halt x w' => cases x <;> simp only [Oper.upon, Oper.uponIn] at h ⊢ <;> exact h
def Fr (F : Frm) (C : Cx) (a : Act) : Prop :=
 a.defers = C.df ∧ a.tmps.size = C.n ∧ ∀ i v, lk F i = some v → a.tmps[i]? = some v
structure Hp (w0 : World) (M : List Nat) (L : List Ent) (w : World) : Prop where
 os : w.os = w0.os
 tape : w.tape = w0.tape
 output : w.output = w0.output
 le : w0.heap.size ≤ w.heap.size
 old : ∀ b, b < w0.heap.size → b ∉ M → w.heap[b]? = w0.heap[b]?
 ent : ∀ e ∈ L, w.heap[e.b]? = some (.cells e.cs.toArray e.T e.fz)
 nd : (L.map Ent.b).Nodup
 own : ∀ e ∈ L, e.b ∈ M ∨ w0.heap.size ≤ e.b
variable {C : Cx} {F : Frm} {L : List Ent}
theorem Fr.ev {F : Frm} {C : Cx} {a : Act} (h : Fr F C a) {x : Operand} {v : Value} (hx : ev F x = some v) : a.eval x = v := by
 cases x with
 | tmp t => simp [Act.eval, Array.getD_eq_getD_getElem?, h.2.2 t v hx]
 | const c => simpa [Sx.ev, Act.eval] using hx
 | global g => simpa [Sx.ev, Act.eval] using hx
 | func f => simpa [Sx.ev, Act.eval] using hx
theorem Fr.put {F : Frm} {C : Cx} {a : Act} (h : Fr F C a) {d : Nat} (v : Value) (hd : d < C.n) : Fr ((d, v) :: F) C (a.put (some d) v) := by
 refine ⟨h.1, by simp [Act.put, h.2.1], fun i u hi => ?_⟩
 simp only [lk] at hi
 cases hb : Nat.beq d i with
 | true =>
  rw [hb] at hi
  obtain rfl : d = i := Nat.eq_of_beq_eq_true hb
  simp at hi
  subst hi
  simp [Act.put, h.2.1, hd]
 | false =>
  rw [hb] at hi
  have hne : d ≠ i := Nat.ne_of_beq_eq_false hb
  have := h.2.2 i u hi
  rw [← this]
  simp only [Act.put]
  rw [Array.getElem?_setIfInBounds_ne hne]
theorem Fr.weaken {F F' : Frm} {C : Cx} {a : Act} (h : Fr F C a) (hs : ∀ i v, lk F' i = some v → lk F i = some v) : Fr F' C a :=
 ⟨h.1, h.2.1, fun i v hi => h.2.2 i v (hs i v hi)⟩
def K (C : Cx) (F : Frm) (L : List Ent) (φ : Act → World → Prop) : Prop := ∀ a w, Fr F C a → Hp C.w0 C.M L w → φ a w
def JC (C : Cx) (Q : Exit → Act → World → Prop) (c : Code) (F : Frm) (L : List Ent) : Prop := K C F L fun a w => c.wpIn (Fc C.rd) 0 C.P Q a w
def JQ (C : Cx) (Q : Exit → Act → World → Prop) (e : Exit) (F : Frm) (L : List Ent) : Prop := K C F L fun a w => Q e a w
def JL (C : Cx) (Q : Exit → Act → World → Prop) (ops : Array Oper) (l : List Oper) (F : Frm) (L : List Ent) : Prop := K C F L fun a w => wpListIn (Fc C.rd) 0 C.P ops Q l a w
def Ev (C : Cx) (F : Frm) (L : List Ent) (op : Op) (ty : TypeId) (v : Value) : Prop :=
 ∀ a w, Fr F C a → Hp C.w0 C.M L w → ∀ d pos aft g, (execOp a.eval ⟨d, op, ty, pos, aft, g⟩).run C.P w = .ok (.value v) w
variable {Q : Exit → Act → World → Prop} {ops : Array Oper} {l : List Oper}
theorem A1 (h : JQ C Q .normal F L) : JL C Q ops [] F L := fun a w ha hw => h a w ha hw
theorem AE {d : Nat} {op : Op} {ty : TypeId} {pos : String} {aft : Array Edge} (v : Value) (hv : Ev C F L op ty v) (hd : Nat.blt d C.n = true)
  (h : JL C Q ops l ((d, v) :: F) L) : JL C Q ops (⟨some d, op, ty, pos, aft, none⟩ :: l) F L := by
 intro a w ha hw
 refine wpListIn_plain rfl fun K hK => ?_
 refine wpIn_of_wp (nd_of_run (hv a w ha hw _ _ _ _) (by simp)) ?_
 unfold Oper.wp
 rw [hv a w ha hw]
 exact hK _ _ (h _ _ (ha.put v (by simpa [Nat.blt_eq] using hd)) hw)
theorem AD {d : Nat} {op : Op} {ty : TypeId} {pos : String} {aft : Array Edge} (j s : Nat) (want b : Bool) (v : Value) (hj : (ops[j]?).bind (·.dst) = some s)
  (hs : lk F s = some (.bool b)) (hb : b = want) (hv : Ev C F L op ty v) (hd : Nat.blt d C.n = true)
  (h : JL C Q ops l ((d, v) :: F) L) : JL C Q ops (⟨some d, op, ty, pos, aft, some (j, want)⟩ :: l) F L := by
 intro a w ha hw
 refine wpListIn_step fun K hK => ?_
 have hy : yielded ops a.tmps j = some want := by
  have := ha.2.2 s _ hs
  simp [yielded, hj, this, hb]
 simp only [Region.wanted, hy, beq_self_eq_true, if_true]
 refine wpIn_of_wp (nd_of_run (hv a w ha hw _ _ _ _) (by simp)) ?_
 unfold Oper.wp
 rw [hv a w ha hw]
 exact hK _ _ (h _ _ (ha.put v (by simpa [Nat.blt_eq] using hd)) hw)
theorem JL_gskip {d : Nat} {op : Op} {ty : TypeId} {pos : String} {aft : Array Edge} (j s : Nat) (want b : Bool) (hj : (ops[j]?).bind (·.dst) = some s)
  (hs : lk F s = some (.bool b)) (hb : b = !want) (hd : Nat.blt d C.n = true)
  (h : JL C Q ops l ((d, undef) :: F) L) : JL C Q ops (⟨some d, op, ty, pos, aft, some (j, want)⟩ :: l) F L := by
 intro a w ha hw
 refine wpListIn_step fun K hK => ?_
 have hy : yielded ops a.tmps j = some (!want) := by
  simp [yielded, hj, ha.2.2 s _ hs, hb]
 have hn : Region.wanted ⟨some d, op, ty, pos, aft, some (j, want)⟩ (yielded ops a.tmps) = false := by
  cases want <;> simp [Region.wanted, hy]
 rw [hn]
 exact ⟨fun _ _ => trivial, hK _ _ (h _ _ (ha.put undef (by simpa [Nat.blt_eq] using hd)) hw)⟩
def skipOk (j : Nat) (want : Bool) (s n : Nat) (o : Oper) : Bool :=
  match o.dst, o.guard with
  | some d, some (i, w) => Nat.beq i j && (w == want) && Nat.blt d n && !(Nat.beq d s)
  | _, _ => false
def skipsF : List Oper → Frm → Frm
  | [], F => F
  | o :: l, F => skipsF l (match o.dst with | some d => (d, undef) :: F | none => F)
theorem JL_skips' (j s : Nat) (want b : Bool) (hj : (ops[j]?).bind (·.dst) = some s) (hb : b = !want) : ∀ (p : List Oper) {l : List Oper} {F : Frm}, lk F s = some (.bool b) → p.all (skipOk j want s C.n) = true →
    JL C Q ops l (skipsF p F) L → JL C Q ops (p ++ l) F L
  | [], l, F, hs, _, h => h
  | o :: p, l, F, hs, hl, h => by
    obtain ⟨d, op, ty, pos, aft, g⟩ := o
    rw [List.all_cons, Bool.and_eq_true] at hl
    have h1 := hl.1
    unfold skipOk at h1
    cases d with
    | none => cases h1
    | some d =>
      cases g with
      | none => cases h1
      | some g =>
        obtain ⟨i, w⟩ := g
        replace h1 : (Nat.beq i j && (w == want) && Nat.blt d C.n && !(Nat.beq d s)) = true := h1
        rw [Bool.and_eq_true, Bool.and_eq_true, Bool.and_eq_true] at h1
        obtain ⟨⟨⟨h1, h2⟩, h3⟩, h4⟩ := h1
        obtain rfl := Nat.eq_of_beq_eq_true h1
        obtain rfl := eq_of_beq h2
        have h5 : Nat.beq d s = false := by simpa using h4
        refine JL_gskip i s w b hj hs hb h3 (JL_skips' i s w b hj hb p ?_ hl.2 h)
        show (bif Nat.beq d s then _ else lk F s) = _
        rw [h5]; exact hs
theorem D4 (k j s : Nat) (want b : Bool) (hj : (ops[j]?).bind (·.dst) = some s) (hs : lk F s = some (.bool b)) (hb : b = !want) (hl : (l.take k).all (skipOk j want s C.n) = true)
    (h : JL C Q ops (l.drop k) (skipsF (l.take k) F) L) : JL C Q ops l F L := by
  have := JL_skips' (C := C) (Q := Q) (L := L) j s want b hj hb (l.take k) hs hl h
  rwa [List.take_append_drop] at this
theorem JL_gskipU {d : Nat} {op : Op} {ty : TypeId} {pos : String} {aft : Array Edge} (j s : Nat) (want : Bool) (hj : (ops[j]?).bind (·.dst) = some s)
  (hs : lk F s = some undef) (hd : Nat.blt d C.n = true)
  (h : JL C Q ops l ((d, undef) :: F) L) : JL C Q ops (⟨some d, op, ty, pos, aft, some (j, want)⟩ :: l) F L := by
 intro a w ha hw
 refine wpListIn_step fun K hK => ?_
 have hy : yielded ops a.tmps j = none := by
  simp [yielded, hj, ha.2.2 s _ hs, undef]
 have hn : Region.wanted ⟨some d, op, ty, pos, aft, some (j, want)⟩ (yielded ops a.tmps) = false := by
  simp [Region.wanted, hy]
 rw [hn]
 exact ⟨fun _ _ => trivial, hK _ _ (h _ _ (ha.put undef (by simpa [Nat.blt_eq] using hd)) hw)⟩
theorem A4 {x y : Code} (h : JC C (Exit.then (y.wpIn (Fc C.rd) 0 C.P Q) Q) x F L) : JC C Q (.seq x y) F L := fun a w ha hw => wpIn_seq (h a w ha hw)
theorem CY (h : JQ C Q .normal F L) : JC C Q .skip F L := fun a w ha hw => wpIn_skip (h a w ha hw)
theorem CH (h : JQ C Q .ret F L) : JC C Q .ret F L := fun a w ha hw => wpIn_ret (h a w ha hw)
theorem JC_exit {id : Nat} (h : JQ C Q (.exit id) F L) : JC C Q (.exit id) F L := fun a w ha hw => wpIn_exit (h a w ha hw)
theorem JC_block {id : Nat} {c : Code} (h : JC C (Exit.inBlock id Q) c F L) : JC C Q (.block id c) F L := fun a w ha hw => wpIn_block (h a w ha hw)
theorem AO {id : Nat} {l : List Oper} (h : JL C Q l.toArray l F L) : JC C Q (.region id l.toArray false) F L := fun a w ha hw => wpIn_region_lit (h a w ha hw)
theorem AX {c : Operand} {x y : Code} (b : Bool) (hc : ev F c = some (.bool b)) (ht : b = true → JC C Q x F L) (hf : b = false → JC C Q y F L) : JC C Q (.cond c x y) F L :=
 fun a w ha hw => wpIn_cond_split (ha.ev hc) (fun h => ht h a w ha hw) (fun h => hf h a w ha hw)
theorem A7 {c : Operand} {x y : Code} (b : Bool) (hc : ev F c = some (.bool b)) (hb : b = true) (ht : JC C Q x F L) : JC C Q (.cond c x y) F L :=
 AX b hc (fun _ => ht) (fun h => by rw [hb] at h; cases h)
theorem AY {c : Operand} {x y : Code} (b : Bool) (hc : ev F c = some (.bool b)) (hb : b = false) (hf : JC C Q y F L) : JC C Q (.cond c x y) F L :=
 AX b hc (fun h => by rw [hb] at h; cases h) (fun _ => hf)
theorem AK {y : Code} (h : JC C Q y F L) : JQ C (Exit.then (y.wpIn (Fc C.rd) 0 C.P Q) Q) .normal F L := fun a w ha hw => h a w ha hw
theorem B5 {k : Act → World → Prop} (h : K C F L k) : JQ C (Exit.then k Q) .normal F L := fun a w ha hw => h a w ha hw
theorem DV {k : Act → World → Prop} {id : Nat} (h : JQ C Q (.exit id) F L) : JQ C (Exit.then k Q) (.exit id) F L := fun a w ha hw => h a w ha hw
theorem C2 {k : Act → World → Prop} (h : JQ C Q .ret F L) : JQ C (Exit.then k Q) .ret F L := fun a w ha hw => h a w ha hw
theorem JQ_in_same {id : Nat} (h : JQ C Q .normal F L) : JQ C (Exit.inBlock id Q) (.exit id) F L := fun a w ha hw => by
 show if id = id then Q .normal a w else _
 rw [if_pos rfl]; exact h a w ha hw
theorem JQ_in_other {id id' : Nat} (hn : Nat.beq id' id = false) (h : JQ C Q (.exit id') F L) : JQ C (Exit.inBlock id Q) (.exit id') F L := fun a w ha hw => by
 show if id' = id then Q .normal a w else Q (.exit id') a w
 rw [if_neg (Nat.ne_of_beq_eq_false hn)]; exact h a w ha hw
theorem JQ_in_ret {id : Nat} (h : JQ C Q .ret F L) : JQ C (Exit.inBlock id Q) .ret F L := fun a w ha hw => h a w ha hw
theorem DH {id : Nat} (h : JQ C Q .normal F L) : JQ C (Exit.inBlock id Q) .normal F L := fun a w ha hw => h a w ha hw
def Sub (F' F : Frm) : Prop := ∀ i v, lk F' i = some v → lk F i = some v
theorem Sub.nil : Sub [] F := fun _ _ h => by simp [lk] at h
theorem Sub.cons {F' : Frm} {i : Nat} {v : Value} (hv : lk F i = some v) (h : Sub F' F) : Sub ((i, v) :: F') F := fun j u hj => by
 simp only [lk] at hj
 cases hb : Nat.beq i j with
 | true => rw [hb] at hj; obtain rfl := Nat.eq_of_beq_eq_true hb; simp at hj; rw [← hj]; exact hv
 | false => rw [hb] at hj; exact h j u hj
theorem Sub.all {F' F : Frm} (h : F'.map (fun x => lk F x.1) = F'.map (fun x => some x.2)) : Sub F' F := by
  induction F' with
  | nil => exact Sub.nil
  | cons a r ih => obtain ⟨i, v⟩ := a; simp only [List.map_cons, List.cons.injEq] at h; exact Sub.cons h.1 (ih h.2)
theorem K_sub {F' : Frm} {φ : Act → World → Prop} (hs : Sub F' F) (h : K C F' L φ) : K C F L φ := fun a w ha hw => h a w (ha.weaken hs) hw
theorem Sub.ofMap : ∀ {F' : Frm}, F'.map (fun p => lk F p.1) = F'.map (fun p => some p.2) → Sub F' F
 | [], _ => Sub.nil
 | (i, v) :: F', h => by
  rw [List.map_cons, List.map_cons] at h
  injection h with h1 h2
  exact Sub.cons h1 (Sub.ofMap h2)
theorem A9 {e : Exit} {F' : Frm} (hs : F'.map (fun p => lk F p.1) = F'.map (fun p => some p.2)) (h : JQ C Q e F' L) : JQ C Q e F L := K_sub (Sub.ofMap hs) h
theorem Hp.sub {w0 w : World} {M : List Nat} {L L' : List Ent} (h : Hp w0 M L w) (hm : ∀ e ∈ L', e ∈ L) (hn : (L'.map Ent.b).Nodup) : Hp w0 M L' w :=
 ⟨h.os, h.tape, h.output, h.le, h.old, fun e he => h.ent e (hm e he), hn, fun e he => h.own e (hm e he)⟩
theorem wpIn_loop_ghost {G : Fence} {n : Nat} {P : Program} {Q : Exit → Act → World → Prop} {a : Act} {w : World} {c : Code} (I : Nat → Act → World → Prop) (n₀ : Nat) (h₀ : I n₀ a w)
  (round : ∀ m a w, I m a w → c.wpIn G n P (Exit.then (fun a' w' => ∃ m', m' < m ∧ I m' a' w') Q) a w) : (Code.loop c).wpIn G n P Q a w := by
 refine wpIn_loop (fun a w => ∃ n, I n a w) (fun a w => leastOf (fun n => I n a w)) ⟨n₀, h₀⟩ ?_
 intro a w hI
 refine wpIn_mono (round _ a w (leastOf_spec hI).1) ?_
 intro e a' w' hq
 cases e with
 | normal =>
  obtain ⟨n', hlt, hI'⟩ := hq
  exact show (∃ n, I n a' w') ∧ leastOf (fun n => I n a' w') < leastOf (fun n => I n a w) from ⟨⟨n', hI'⟩, Nat.lt_of_le_of_lt ((leastOf_spec ⟨n', hI'⟩).2 n' hI') hlt⟩
 | exit id => exact hq
 | goto l => exact hq
 | ret => exact hq
 | panic ch => exact hq
 | outgrown => exact hq
theorem C3 {ι : Type} {c : Code} (FI : ι → Frm) (LI : ι → List Ent) (Pre : ι → Prop) (μ : ι → Nat) (x0 : ι) (h0 : Pre x0) (hF : Sub (FI x0) F) (hL : LI x0 = L)
  (round : ∀ x, Pre x → JC C (Exit.then (fun a w => ∃ x', Pre x' ∧ μ x' < μ x ∧ Fr (FI x') C a ∧ Hp C.w0 C.M (LI x') w) Q) c (FI x) (LI x)) : JC C Q (.loop c) F L := by
 intro a w ha hw
 refine wpIn_loop_ghost (fun n a w => ∃ x, μ x = n ∧ Pre x ∧ Fr (FI x) C a ∧ Hp C.w0 C.M (LI x) w) (μ x0) ⟨x0, rfl, h0, ha.weaken hF, hL ▸ hw⟩ ?_
 rintro n a w ⟨x, rfl, hp, ha, hw⟩
 refine wpIn_mono (round x hp a w ha hw) fun ex a1 w1 hq => ?_
 cases ex with
 | normal => obtain ⟨x', hp', hlt, ha', hw'⟩ := hq; exact ⟨μ x', hlt, x', rfl, hp', ha', hw'⟩
 | _ => exact hq
theorem C1 {ι : Type} {FI : ι → Frm} {LI : ι → List Ent} {Pre : ι → Prop} {μ : ι → Nat} {m : Nat} (x' : ι) (hp : Pre x') (hm : μ x' < m) (hF : Sub (FI x') F) (hL : LI x' = L) :
  K C F L fun a w => ∃ x', Pre x' ∧ μ x' < m ∧ Fr (FI x') C a ∧ Hp C.w0 C.M (LI x') w :=
 fun _ _ ha hw => ⟨x', hp, hm, ha.weaken hF, hL ▸ hw⟩
def Post (w0 : World) (M : List Nat) (R : Value → List Ent → Prop) : Ending → World → Prop :=
 fun e w' => ∃ v L, e = .returned v ∧ R v L ∧ Hp w0 M L w'
def argF : Nat → List Value → Frm
 | _, [] => []
 | i, v :: r => (i, v) :: argF (i + 1) r
theorem argF_lk : ∀ (vs : List Value) (i j : Nat) (v : Value), lk (argF i vs) j = some v → i ≤ j ∧ vs[j - i]? = some v
 | [], i, j, v, h => by simp [argF, lk] at h
 | u :: r, i, j, v, h => by
  simp only [argF, lk] at h
  cases hb : Nat.beq i j with
  | true => rw [hb] at h; obtain rfl := Nat.eq_of_beq_eq_true hb; simp at h; subst h; simp
  | false =>
   rw [hb] at h
   have hne := Nat.ne_of_beq_eq_false hb
   obtain ⟨h1, h2⟩ := argF_lk r (i + 1) j v h
   refine ⟨by omega, ?_⟩
   rw [show j - i = (j - (i + 1)) + 1 from by omega]
   simpa using h2
theorem A2 {w : World} {M : List Nat} {L : List Ent} (he : ∀ e ∈ L, w.heap[e.b]? = some (.cells e.cs.toArray e.T e.fz)) (hn : (L.map Ent.b).Nodup) (hM : ∀ e ∈ L, e.b ∈ M) : Hp w M L w :=
 ⟨rfl, rfl, rfl, Nat.le_refl _, fun _ _ _ => rfl, he, hn, fun e h => .inl (hM e h)⟩
theorem enter {P : Program} {f : FuncId} {fn : Func} {c : Code} {R : Ending → World → Prop} (w0 : World) (M : List Nat) (n : Nat) (L : List Ent) (args : List Value)
  (hf : P.funcs[f]? = some fn) (hb : fn.body = some c) (hn : fn.ntmps = n) (hlen : args.length ≤ n) (hw : Hp w0 M L w0)
  (h : JC ⟨P, w0, M, n, none, []⟩ (bodyPost P fn R) c (argF 0 args) L) : Calls P f args.toArray w0 R := by
 refine calls_of_wp hf hb (wpIn_wide.1 (h _ _ ⟨rfl, ?_, fun i v hi => ?_⟩ hw))
 ·
  simp [hn]; omega
 ·
  obtain ⟨_, h2⟩ := argF_lk args 0 i v hi
  have hi' : i < args.length := by
   have := (List.getElem?_eq_some_iff.1 h2).1
   simpa using this
  simp only [Array.getElem?_append, List.size_toArray]
  rw [if_pos hi']
  simpa using h2
theorem DR {fn : Func} {R : Ending → World → Prop} (v : Value) (hr : ∀ a w, Fr F C a → Hp C.w0 C.M L w → (results fn a.tmps).run C.P w = .ok v w)
  (h : ∀ w, Hp C.w0 C.M L w → R (.returned v) w) (hdf : C.df = [] := by rfl) : JQ C (bodyPost C.P fn R) .ret F L := fun a w ha hw => ⟨ha.1.trans hdf, v, hr a w ha hw, h w hw⟩
theorem JQ_end {fn : Func} {R : Ending → World → Prop} (v : Value) (hr : ∀ a w, Fr F C a → Hp C.w0 C.M L w → (results fn a.tmps).run C.P w = .ok v w)
  (h : ∀ w, Hp C.w0 C.M L w → R (.returned v) w) (hdf : C.df = [] := by rfl) : JQ C (bodyPost C.P fn R) .normal F L := fun a w ha hw => ⟨ha.1.trans hdf, v, hr a w ha hw, h w hw⟩
def rvS (tmps : Array Value) : ResultVar → Sem Value
 | .tmp t => pure (tmps.getD t undef)
 | .cell a t => do loadVar t (← asAddr (tmps.getD a undef))
theorem results_eq (fn : Func) (tmps : Array Value) : results fn tmps = (do let vs ← fn.results.mapM (rvS tmps); pure (if h : vs.size = 1 then vs[0] else .tuple vs)) := by
 unfold results
 congr 1
def RV (C : Cx) (F : Frm) (L : List Ent) (r : ResultVar) (v : Value) : Prop :=
 ∀ a w, Fr F C a → Hp C.w0 C.M L w → (rvS a.tmps r).run C.P w = .ok v w
theorem EP {t : Nat} {v : Value} (h : lk F t = some v) : RV C F L (.tmp t) v := fun a w ha _ => by
 have := ha.2.2 t v h
 simp [rvS, Array.getD_eq_getD_getElem?, this]
theorem res1 {fn : Func} {r : ResultVar} {v : Value} (hr : fn.results = #[r]) (h : RV C F L r v) : ∀ a w, Fr F C a → Hp C.w0 C.M L w → (results fn a.tmps).run C.P w = .ok v w := fun a w ha hw => by
 have := h a w ha hw
 simp [results_eq, hr, this]
theorem res0 {fn : Func} (hr : fn.results = #[]) : ∀ a w, Fr F C a → Hp C.w0 C.M L w → (results fn a.tmps).run C.P w = .ok (.tuple #[]) w := fun a w _ _ => by
 simp [results_eq, hr]
theorem res2 {fn : Func} {r s : ResultVar} {v u : Value} (hr : fn.results = #[r, s]) (h : RV C F L r v) (h' : RV C F L s u) :
  ∀ a w, Fr F C a → Hp C.w0 C.M L w → (results fn a.tmps).run C.P w = .ok (.tuple #[v, u]) w := fun a w ha hw => by
 have h1 := h a w ha hw
 have h2 := h' a w ha hw
 simp [results_eq, hr, h1, h2]
theorem res3 {fn : Func} {r s q : ResultVar} {v u x : Value} (hr : fn.results = #[r, s, q]) (h : RV C F L r v) (h' : RV C F L s u) (h2 : RV C F L q x) :
  ∀ a w, Fr F C a → Hp C.w0 C.M L w → (results fn a.tmps).run C.P w = .ok (.tuple #[v, u, x]) w := fun a w ha hw => by
 have h1 := h a w ha hw
 have h3 := h' a w ha hw
 have h4 := h2 a w ha hw
 simp [results_eq, hr, h1, h3, h4]
def MemAt (C : Cx) (L : List Ent) (b off : Nat) (vs : List Value) : Prop := ∀ w, Hp C.w0 C.M L w → ∀ j v, vs[j]? = some v → w.cell? ⟨b, off + j, none⟩ = some v
def Seg (cs : List Value) (off : Nat) (vs : List Value) : Prop := ∀ j v, vs[j]? = some v → cs[off + j]? = some v
theorem AG (cs : List Value) : Seg cs 0 cs := fun j v h => by simpa using h
theorem AU {p q vs : List Value} {off : Nat} (h : Seg p off vs) : Seg (p ++ q) off vs := fun j v hj => by
 have := h j v hj
 rw [List.getElem?_append_left (List.getElem?_eq_some_iff.1 this).1]; exact this
theorem Seg.right {p q vs : List Value} {off : Nat} (n o : Nat) (hn : p.length = n) (ho : off = n + o) (h : Seg q o vs) : Seg (p ++ q) off vs := fun j v hj => by
 have := h j v hj
 rw [List.getElem?_append_right (by omega)]
 rw [show off + j - p.length = o + j from by omega]; exact this
theorem Seg.head {v : Value} {q : List Value} : Seg (v :: q) 0 [v] := fun j u hj => by
 match j, hj with
 | 0, hj => simpa using hj
theorem B0 {v : Value} {q vs : List Value} {off : Nat} (h : Seg q off vs) : Seg (v :: q) (off + 1) vs := fun j u hj => by
 have := h j u hj
 rw [show off + 1 + j = (off + j) + 1 from by omega]; simpa using this
theorem Seg.get {cs : List Value} {off : Nat} {v : Value} (h : cs[off]? = some v) : Seg cs off [v] := fun j u hj => by
 match j, hj with
 | 0, hj => simp at hj; subst hj; simpa using h
theorem Seg.sub {cs p q vs : List Value} {off n o : Nat} (hn : p.length = n) (ho : off = o + n) (h : Seg cs o (p ++ vs ++ q)) : Seg cs off vs := fun j u hj => by
 have hlt : j < vs.length := (List.getElem?_eq_some_iff.1 hj).1
 have := h (n + j) u (by rw [List.append_assoc, List.getElem?_append_right (by omega), List.getElem?_append_left (by omega)]; rw [show n + j - p.length = j from by omega]; exact hj)
 rw [show off + j = o + (n + j) from by omega]; exact this
theorem Seg.mid {p q vs : List Value} {off : Nat} (hn : p.length = off) : Seg (p ++ vs ++ q) off vs := Seg.sub hn (by simp) (AG _)
theorem Seg.len {cs vs : List Value} {off : Nat} (h : Seg cs off vs) (hv : vs ≠ []) : off + vs.length ≤ cs.length := by
 have hp : 0 < vs.length := List.length_pos_iff.2 hv
 have := h (vs.length - 1) (vs[vs.length - 1]) (by simp)
 have := (List.getElem?_eq_some_iff.1 this).1
 omega
theorem MemAt.ent {b off : Nat} {vs cs : List Value} {T : TypeId} {fz : Nat × Nat} (i : Nat) (hi : L[i]? = some ⟨b, cs, T, fz⟩) (hs : Seg cs off vs) : MemAt C L b off vs := fun w hw j v hj => by
 have := hw.ent _ (List.mem_of_getElem? hi)
 have h2 := hs j v hj
 simp only [World.cell?, this]
 simpa using h2
abbrev A0 := @MemAt.ent
theorem MemAt.base {b off : Nat} {vs : List Value} (hb : b < C.w0.heap.size) (hM : b ∉ C.M) (h : ∀ j v, vs[j]? = some v → C.w0.cell? ⟨b, off + j, none⟩ = some v) : MemAt C L b off vs := fun w hw j v hj => by
 have := hw.old b hb hM
 have h2 := h j v hj
 simp only [World.cell?, this] at h2 ⊢
 exact h2
theorem MemAt.one {b off : Nat} {v : Value} (h : MemAt C L b off [v]) {w : World} (hw : Hp C.w0 C.M L w) : w.cell? ⟨b, off, none⟩ = some v := by
 simpa using h w hw 0 v (by simp)
theorem FM (b off n : Nat) : (⟨b, off, none⟩ : Addr).add n = ⟨b, off + n, none⟩ := by
 unfold Addr.add; split <;> simp_all
theorem run_loadVar_agg {P : Program} {w : World} {T b off n : Nat} {vs : List Value} (hA : (isAgg T).run P w = .ok true w) (hS : (sizeOf T).run P w = .ok n w) (hn : vs.length = n)
  (h : ∀ j v, vs[j]? = some v → w.cell? ⟨b, off + j, none⟩ = some v) : (loadVar T ⟨b, off, none⟩).run P w = .ok (.agg vs.toArray) w := by
 have hl := run_loadCells_list (P := P) w ⟨b, off, none⟩ vs (fun j v hj => by rw [FM]; exact h j v hj)
 rw [hn] at hl
 simp [loadVar, hA, hS, hl]
theorem run_loadVar_one {P : Program} {w : World} {T b off : Nat} {v : Value} (hA : (isAgg T).run P w = .ok false w)
  (h : w.cell? ⟨b, off, none⟩ = some v) : (loadVar T ⟨b, off, none⟩).run P w = .ok v w := by
 simp [loadVar, hA, Go.load, Sem.run, h]
def Ld (C : Cx) (L : List Ent) (T b off : Nat) (v : Value) : Prop := ∀ w, Hp C.w0 C.M L w → (loadVar T ⟨b, off, none⟩).run C.P w = .ok v w
theorem BV {T b off n : Nat} {vs : List Value} (hA : ∀ w, (isAgg T).run C.P w = .ok true w) (hS : ∀ w, (sizeOf T).run C.P w = .ok n w) (hn : vs.length = n) (h : MemAt C L b off vs) : Ld C L T b off (.agg vs.toArray) :=
 fun w hw => run_loadVar_agg (hA w) (hS w) hn (h w hw)
theorem B1 {T b off : Nat} {v : Value} (hA : ∀ w, (isAgg T).run C.P w = .ok false w) (h : MemAt C L b off [v]) : Ld C L T b off v :=
 fun w hw => run_loadVar_one (hA w) (h.one hw)
theorem EV {x T b off : Nat} {v : Value} (hx : lk F x = some (Ptr b off)) (h : Ld C L T b off v) : RV C F L (.cell x T) v := fun a w ha hw => by
 have := ha.2.2 x _ hx
 simp [rvS, Array.getD_eq_getD_getElem?, this, asAddr, h w hw]
def lay (cs : List Value) (off : Nat) (vs : List Value) : List Value := cs.take off ++ vs ++ cs.drop (off + vs.length)
theorem Hp.ne {w0 w : World} {M : List Nat} {L : List Ent} (h : Hp w0 M L w) {i j : Nat} {e x : Ent} (hi : L[i]? = some e) (hj : L[j]? = some x) (hne : i ≠ j) : e.b ≠ x.b := fun he => by
 have hlt : i < (L.map Ent.b).length := by simpa using (List.getElem?_eq_some_iff.1 hi).1
 exact hne ((List.getElem?_inj hlt h.nd).1 (by simp [hi, hj, he]))
theorem Hp.nm {w0 w : World} {M : List Nat} {L : List Ent} (h : Hp w0 M L w) (i j : Nat) {e x : Ent} {p : Prop} (hi : L[i]? = some e) (hj : L[j]? = some x) (hne : i ≠ j) : p → e.b ∉ [x.b] := fun _ hm => by
  rcases List.mem_cons.1 hm with hm | hm
  · exact h.ne hi hj hne hm
  · cases hm
theorem Hp.en {w0 w : World} {M : List Nat} {L : List Ent} (h : Hp w0 M L w) (i : Nat) {e : Ent} (hi : L[i]? = some e) : w.heap[e.b]? = some (.cells e.cs.toArray e.T e.fz) := h.ent e (List.mem_of_getElem? hi)
theorem Hp.no {w0 w : World} {M : List Nat} {L : List Ent} (h : Hp w0 M L w) : Hp w0 M [] w := h.sub (by simp) (by simp)
theorem Hp.setRow {w0 w : World} {M : List Nat} {L : List Ent} (h : Hp w0 M L w) {i : Nat} {b T : Nat} {cs : List Value} {fz : Nat × Nat} (hi : L[i]? = some ⟨b, cs, T, fz⟩) (cs' : List Value) :
  Hp w0 M (L.set i ⟨b, cs', T, fz⟩) (w.setRow b cs'.toArray) := by
 have hmem := List.mem_of_getElem? hi
 have hE := h.ent _ hmem
 have hlt : b < w.heap.size := (Array.getElem?_eq_some_iff.1 hE).1
 have hsame : ∀ k, k ≠ b → (w.setRow b cs'.toArray).heap[k]? = w.heap[k]? := fun k hk => by
  simp only [World.setRow]
  rw [Array.getElem?_modify, if_neg (by omega)]
 have hnew : (w.setRow b cs'.toArray).heap[b]? = some (.cells cs'.toArray T fz) := setRow_heap _ _ _ _ _ _ hE
 have hil : i < L.length := (List.getElem?_eq_some_iff.1 hi).1
 refine ⟨h.os, h.tape, h.output, by simpa [World.setRow] using h.le, fun k hk hM => ?_, fun x hx => ?_, ?_, fun x hx => ?_⟩
 ·
  have : k ≠ b := fun he => by
   rcases h.own _ hmem with h1 | h1
   ·
    exact hM (he ▸ h1)
   ·
    simp at h1; omega
  rw [hsame k this]; exact h.old k hk hM
 ·
  obtain ⟨j, hj⟩ := List.mem_iff_getElem?.1 hx
  rw [List.getElem?_set] at hj
  split at hj
  ·
   simp at hj; subst hj; exact hnew
  ·
   rename_i hij
   rw [hsame x.b (fun he => h.ne hi hj hij he.symm)]; exact h.ent x (List.mem_of_getElem? hj)
 ·
  have : (L.set i ⟨b, cs', T, fz⟩).map Ent.b = L.map Ent.b := by
   apply List.ext_getElem?
   intro j
   simp only [List.getElem?_map, List.getElem?_set]
   split
   ·
    rename_i hij; subst hij; rw [hi]; rfl
   ·
    rfl
  rw [this]; exact h.nd
 ·
  rcases List.mem_or_eq_of_mem_set hx with h1 | h1
  ·
   exact h.own x h1
  ·
   subst h1; exact h.own ⟨b, cs, T, fz⟩ hmem
theorem Hp.alloc {w0 w : World} {M : List Nat} {L : List Ent} (h : Hp w0 M L w) (cs : List Value) (T : Nat) : Hp w0 M (L ++ [⟨w.heap.size, cs, T, (0, 0)⟩]) (w.alloc (.cells cs.toArray T)) := by
 have hlt : ∀ x ∈ L, x.b < w.heap.size := fun x hx => (Array.getElem?_eq_some_iff.1 (h.ent x hx)).1
 refine ⟨h.os, h.tape, h.output, by have := h.le; simp; omega, fun k hk hM => ?_, fun x hx => ?_, ?_, fun x hx => ?_⟩
 ·
  rw [Below.heap_alloc _ _ _ (by have := h.le; omega)]; exact h.old k hk hM
 ·
  rcases List.mem_append.1 hx with h1 | h1
  ·
   rw [Below.heap_alloc _ _ _ (hlt x h1)]; exact h.ent x h1
  ·
   simp at h1; subst h1; show (w.heap.push _)[w.heap.size]? = _; simp
 ·
  rw [List.map_append, List.nodup_append]
  refine ⟨h.nd, by simp, fun a ha c hc => ?_⟩
  simp at hc; subst hc
  obtain ⟨x, hx, rfl⟩ := List.mem_map.1 ha
  have := hlt x hx; omega
 ·
  rcases List.mem_append.1 hx with h1 | h1
  ·
   exact h.own x h1
  ·
   simp at h1; subst h1; exact .inr h.le
theorem Hp.drewN {w0 w : World} {M : List Nat} {L : List Ent} (h : Hp w0 M L w) (k : Nat) : Hp w0 M L { w with drawn := k } := ⟨h.os, h.tape, h.output, h.le, h.old, h.ent, h.nd, h.own⟩
theorem Hp.call {w0 w w' : World} {M M' : List Nat} {L L0 Lr L' : List Ent} (h : Hp w0 M L w) (h' : Hp w M' L' w') (hp : L.Perm (L0 ++ Lr)) (hM : L0.map Ent.b = M') : Hp w0 M (Lr ++ L') w' := by
 have hlt : ∀ x ∈ L, x.b < w.heap.size := fun x hx => (Array.getElem?_eq_some_iff.1 (h.ent x hx)).1
 have hnd : ((L0 ++ Lr).map Ent.b).Nodup := (hp.map Ent.b).nodup_iff.1 h.nd
 rw [List.map_append, List.nodup_append] at hnd
 obtain ⟨hn0, hnr, hdis⟩ := hnd
 have hr : ∀ x ∈ Lr, x ∈ L := fun x hx => hp.mem_iff.2 (List.mem_append.2 (.inr hx))
 have h0 : ∀ x ∈ L0, x ∈ L := fun x hx => hp.mem_iff.2 (List.mem_append.2 (.inl hx))
 have hrM : ∀ x ∈ Lr, x.b ∉ M' := fun x hx hm => by
  rw [← hM] at hm
  exact hdis _ hm _ (List.mem_map_of_mem hx) rfl
 have hmM : ∀ b ∈ M', b ∈ M ∨ w0.heap.size ≤ b := fun b hb => by
  rw [← hM] at hb
  obtain ⟨x, hx, rfl⟩ := List.mem_map.1 hb
  exact h.own x (h0 x hx)
 refine ⟨h'.os.trans h.os, h'.tape.trans h.tape, h'.output.trans h.output, Nat.le_trans h.le h'.le, fun k hk hkM => ?_, fun x hx => ?_, ?_, fun x hx => ?_⟩
 ·
  rw [h'.old k (by have := h.le; omega) (fun hm => (hmM k hm).elim hkM (by omega))]; exact h.old k hk hkM
 ·
  rcases List.mem_append.1 hx with h1 | h1
  ·
   rw [h'.old x.b (hlt x (hr x h1)) (hrM x h1)]; exact h.ent x (hr x h1)
  ·
   exact h'.ent x h1
 ·
  rw [List.map_append, List.nodup_append]
  refine ⟨hnr, h'.nd, fun a ha c hc => ?_⟩
  obtain ⟨x, hx, rfl⟩ := List.mem_map.1 ha
  obtain ⟨y, hy, rfl⟩ := List.mem_map.1 hc
  intro he
  rcases h'.own y hy with h1 | h1
  ·
   exact hrM x hx (he ▸ h1)
  ·
   have := hlt x (hr x hx); omega
 ·
  rcases List.mem_append.1 hx with h1 | h1
  ·
   exact h.own x (hr x h1)
  ·
   rcases h'.own x h1 with h2 | h2
   ·
    exact hmM _ h2
   ·
    exact .inr (Nat.le_trans h.le h2)
theorem Hp.below {w0 w : World} {L : List Ent} (h : Hp w0 [] L w) : Below w0.heap.size w0 w := ⟨h.os, h.tape, h.output, h.le, fun k hk => h.old k hk (by simp)⟩
def take? : List Bool → List Ent → List Ent
 | true :: m, e :: l => e :: take? m l
 | false :: m, _ :: l => take? m l
 | _, _ => []
def rest? : List Bool → List Ent → List Ent
 | true :: m, _ :: l => rest? m l
 | false :: m, e :: l => e :: rest? m l
 | [], l => l
 | _ :: _, [] => []
theorem perm_mask : ∀ (m : List Bool) (l : List Ent), l.Perm (take? m l ++ rest? m l)
 | [], l => by simp [take?, rest?]
 | _ :: _, [] => by simp [take?, rest?]
 | true :: m, e :: l => by simpa [take?, rest?] using perm_mask m l
 | false :: m, e :: l => by
  simp only [take?, rest?]
  exact ((perm_mask m l).cons e).trans List.perm_middle.symm
def Cl (C : Cx) (F : Frm) (L : List Ent) (op : Op) (ty : TypeId) (f : FuncId) (args : Array Value) : Prop :=
 ∀ a w, Fr F C a → Hp C.w0 C.M L w → ∀ d pos aft g, (execOp a.eval ⟨d, op, ty, pos, aft, g⟩).run C.P w = .ok (.enter f args) w
end Go.Sx
namespace Go.Sx
open Go Go.RowKit
theorem wrap_u64' (n : Int) : IntKind.u64.wrap n = n % 18446744073709551616 := by simp [IntKind.wrap, IntKind.bits, IntKind.signed]
theorem eqGuard_int {P : Program} {w : World} (op : BinOp) (t : TypeId) (x y : Operand) (k k' : IntKind) (m n : Int) : (eqGuard op t x y (.int k m) (.int k' n)).run P w = .ok () w := by
 cases op <;> simp [eqGuard]
variable {P : Program} {w : World} {T : TypeId}
theorem bin_eql_u8 (a b : UInt8) : (binOp .eql T (U8 a) (U8 b)).run P w = .ok (.bool (decide (a = b))) w := by
 have e : ((a.toNat : Int) == (b.toNat : Int)) = decide (a = b) := by rw [Bool.eq_iff_iff]; simp [← UInt8.toNat_inj]; omega
 rw [binOp_eql, e]; simp
theorem bin_gtr_u8 (a b : UInt8) : (binOp .gtr T (U8 a) (U8 b)).run P w = .ok (.bool (decide (b < a))) w := by
 rw [binOp_gtr]; simp [UInt8.lt_iff_toNat_lt]
theorem bin_add_u64 (a b : UInt64) : (binOp .add T (U64 a) (U64 b)).run P w = .ok (U64 (a + b)) w := by
 simp [binOp, Op.intArith, wrap_u64', UInt64.toNat_add]
theorem bin_sub_u64 (a b : UInt64) : (binOp .sub T (U64 a) (U64 b)).run P w = .ok (U64 (a - b)) w := by
 have := a.toNat_lt; have := b.toNat_lt
 simp [binOp, Op.intArith, wrap_u64', UInt64.toNat_sub]; omega
theorem bin_mul_u64 (a b : UInt64) : (binOp .mul T (U64 a) (U64 b)).run P w = .ok (U64 (a * b)) w := by
 simp [binOp, Op.intArith, wrap_u64', UInt64.toNat_mul]
theorem bin_or_u64 (a b : UInt64) : (binOp .or T (U64 a) (U64 b)).run P w = .ok (U64 (a ||| b)) w := by
 rw [binOp_or]; simp [go_sem]; rw [u64_or_nat _ _ a.toNat_lt b.toNat_lt]
theorem DS (a b : UInt64) : (binOp .eql T (U64 a) (U64 b)).run P w = .ok (.bool (decide (a = b))) w := by
 have e : ((a.toNat : Int) == (b.toNat : Int)) = decide (a = b) := by rw [Bool.eq_iff_iff]; simp [← UInt64.toNat_inj]; omega
 rw [binOp_eql, e]; simp
theorem CL (a b : UInt64) : (binOp .neq T (U64 a) (U64 b)).run P w = .ok (.bool (decide (a ≠ b))) w := by
 have e : ((a.toNat : Int) != (b.toNat : Int)) = decide (a ≠ b) := by rw [Bool.eq_iff_iff]; simp [← UInt64.toNat_inj]; omega
 rw [binOp_neq, e]; simp
theorem bin_lss_u64 (a b : UInt64) : (binOp .lss T (U64 a) (U64 b)).run P w = .ok (.bool (decide (a < b))) w := by
 rw [binOp_lss]; simp [UInt64.lt_iff_toNat_lt]
theorem bin_leq_u64 (a b : UInt64) : (binOp .leq T (U64 a) (U64 b)).run P w = .ok (.bool (decide (a ≤ b))) w := by
 rw [binOp_leq]; simp [UInt64.le_iff_toNat_le]
theorem FH (a b : UInt64) : (binOp .gtr T (U64 a) (U64 b)).run P w = .ok (.bool (decide (b < a))) w := by
 rw [binOp_gtr]; simp [UInt64.lt_iff_toNat_lt]
theorem EH (a b : UInt64) : (binOp .geq T (U64 a) (U64 b)).run P w = .ok (.bool (decide (b ≤ a))) w := by
 rw [binOp_geq]; simp [UInt64.le_iff_toNat_le]
theorem bin_shl_u64 (a : UInt64) (yk : IntKind) (y : Int) (n : Nat) (hn : n < 64) (hy : y = n) : (binOp .shl T (U64 a) (.int yk y)).run P w = .ok (U64 (a <<< UInt64.ofNat n)) w := by
 subst hy
 have e : IntKind.u64.wrap ((a.toNat : Int) * 2 ^ (min (n : Int).toNat 64)) = ((a <<< UInt64.ofNat n).toNat : Int) := by
  rw [wrap_u64', UInt64.toNat_shiftLeft, show min (n : Int).toNat 64 = n from by omega, Nat.shiftLeft_eq]
  have : (UInt64.ofNat n).toNat % 64 = n := by simp; omega
  rw [this]; simp
 simp only [binOp, Op.shift, IntKind.bits]
 rw [if_neg (by omega), e]; simp
theorem EY (a : UInt64) (yk : IntKind) (y : Int) (n : Nat) (hn : n < 64) (hy : y = n) : (binOp .shr T (U64 a) (.int yk y)).run P w = .ok (U64 (a >>> UInt64.ofNat n)) w := by
 subst hy
 have e : ((a.toNat : Int).fdiv (2 ^ (min (n : Int).toNat 64))) = ((a >>> UInt64.ofNat n).toNat : Int) := by
  rw [UInt64.toNat_shiftRight, show min (n : Int).toNat 64 = n from by omega, Nat.shiftRight_eq_div_pow]
  have : (UInt64.ofNat n).toNat % 64 = n := by simp; omega
  rw [this, Int.fdiv_eq_ediv_of_nonneg _ (by exact Int.pow_nonneg (by omega))]; simp
 simp only [binOp, Op.shift, IntKind.bits]
 rw [if_neg (by omega), e]; simp
end Go.Sx
namespace Go.Sx
open Go Go.RowKit
variable {C : Cx} {F : Frm} {L : List Ent} {ty T T' : TypeId} {x y : Operand}
theorem Ev_move {v : Value} (hx : ev F x = some v) : Ev C F L (.move x) ty v := fun a w ha _ d pos aft g => by
 simp [execOp, ha.ev hx]
theorem Ev_assign {v : Value} (hx : ev F x = some v) : Ev C F L (.assign x) ty v := fun a w ha _ d pos aft g => by
 simp [execOp, ha.ev hx]
theorem CC {c : Operand} {v : Value} (b : Bool) (hc : ev F c = some (.bool b)) (hb : b = true) (hx : ev F x = some v) : Ev C F L (.pick c x y) ty v := fun a w ha _ d pos aft g => by
 subst hb; simp [execOp, ha.ev hc, ha.ev hx, asBool]
theorem BO {c : Operand} {v : Value} (b : Bool) (hc : ev F c = some (.bool b)) (hb : b = false) (hy : ev F y = some v) : Ev C F L (.pick c x y) ty v := fun a w ha _ d pos aft g => by
 subst hb; simp [execOp, ha.ev hc, ha.ev hy, asBool]
theorem B3 {p : Addr} (hx : ev F x = some (.pointer (some p))) : Ev C F L (.nilCheck x) ty (.pointer (some p)) := fun a w ha _ d pos aft g => by
 simp [execOp, ha.ev hx]
theorem CG {bop : BinOp} (vx vy v : Value) (hx : ev F x = some vx) (hy : ev F y = some vy) (hg : ∀ w, (eqGuard bop T x y vx vy).run C.P w = .ok () w)
  (hr : ∀ w, (binOp bop T vx vy).run C.P w = .ok v w) : Ev C F L (.binOp bop T x y T') ty v := fun a w ha _ d pos aft g => by
 simp [execOp, ha.ev hx, ha.ev hy, hg, hr]
theorem AT {bop : BinOp} {k k' : IntKind} {m n : Int} {v : Value} (hx : ev F x = some (.int k m)) (hy : ev F y = some (.int k' n))
  (hr : ∀ w, (binOp bop T (.int k m) (.int k' n)).run C.P w = .ok v w) : Ev C F L (.binOp bop T x y T') ty v :=
 CG _ _ v hx hy (fun _ => eqGuard_int _ _ _ _ _ _ _ _) hr
theorem Ev_not {b : Bool} (hx : ev F x = some (.bool b)) : Ev C F L (.unOp .not T x) ty (.bool (!b)) := fun a w ha _ d pos aft g => by
 simp [execOp, ha.ev hx, Op.unary]
theorem EW {src dst : TypeId} (vx v : Value) (hx : ev F x = some vx) (hr : ∀ w, (convert src dst vx).run C.P w = .ok v w) : Ev C F L (.convert src dst x) ty v := fun a w ha _ d pos aft g => by
 simp [execOp, ha.ev hx, hr]
theorem AR {b off : Nat} {v : Value} (hx : ev F x = some (Ptr b off)) (h : Ld C L T b off v) : Ev C F L (.load T x) ty v := fun a w ha hw d pos aft g => by
 simp [execOp, ha.ev hx, Instr.loadAt, Instr.sureAddr, h w hw]
theorem Ev_iface {v : Value} {dsc : TypeDesc} (hu : C.P.underlying T = some dsc) (hd : (match dsc with | .interface _ => false | _ => true) = true) (hx : ev F x = some v) : Ev C F L (.makeInterface T x) ty (.iface T v) := fun a w ha _ d pos aft g => by
 simp only [execOp, ha.ev hx, Instr.makeInterface]
 cases dsc <;> simp_all [run_underlying hu]
theorem Ev_extract {vs : Array Value} {v : Value} {i : Nat} (hx : ev F x = some (.tuple vs)) (hv : vs[i]? = some v) : Ev C F L (.extract x i) ty v := fun a w ha _ d pos aft g => by
 simp [execOp, ha.ev hx, Instr.extract, hv]
theorem BX {b off i : Nat} (fo fT n : Nat) {fs : Array Field} (hu : C.P.underlying T = some (.struct fs)) (hf : (fs[i]?).map (fun f => (f.offset, f.type)) = some (fo, fT))
  (hS : ∀ w, (sizeOf fT).run C.P w = .ok n w) (hn : Nat.beq n 0 = false) (hx : ev F x = some (Ptr b off)) : Ev C F L (.fieldAddr T x i) ty (Ptr b (off + fo)) := fun a w ha _ d pos aft g => by
 cases hfi : fs[i]? with
 | none => rw [hfi] at hf; cases hf
 | some f =>
  rw [hfi] at hf
  simp at hf
  obtain ⟨rfl, rfl⟩ := hf
  have hn0 : n ≠ 0 := Nat.ne_of_beq_eq_false hn
  simp [execOp, ha.ev hx, Instr.fieldAt, run_underlying hu, hfi, Instr.sureAddr, fieldPlace, hS w, hn0, FM]
theorem FA {b off : Nat} {i : Int} {k : IntKind} (len e s : Nat) (o : Nat) (hu : C.P.underlying T = some (.array len e)) (hS : ∀ w, (sizeOf e).run C.P w = .ok s w) (hx : ev F x = some (Ptr b off)) (hy : ev F y = some (.int k i))
  (h0 : 0 ≤ i) (h1 : i < len) (ho : off + i.toNat * s = o) : Ev C F L (.indexAddr T x y) ty (Ptr b o) := fun a w ha _ d pos aft g => by
 simp [execOp, ha.ev hx, ha.ev hy, Instr.indexAt, asIntOf, run_underlying hu, Instr.sureAddr, h0, h1, hS w, FM, ho]
theorem Ev_indexSl {b off l c : Nat} {i : Int} {k : IntKind} (e s : Nat) (o : Nat) (hu : C.P.underlying T = some (.slice e)) (hS : ∀ w, (sizeOf e).run C.P w = .ok s w) (hx : ev F x = some (Slc b off l c)) (hy : ev F y = some (.int k i))
  (h0 : 0 ≤ i) (h1 : i < l) (ho : off + i.toNat * s = o) : Ev C F L (.indexAddr T x y) ty (Ptr b o) := fun a w ha _ d pos aft g => by
 simp [execOp, ha.ev hx, ha.ev hy, Instr.indexAt, asIntOf, run_underlying hu, h0, h1, hS w, FM, ho]
theorem Ev_index1 {cs : List Value} {i : Int} {k : IntKind} (len e : Nat) (v : Value) (hu : C.P.underlying T = some (.array len e)) (hA : ∀ w, (isAgg e).run C.P w = .ok false w) (hS : ∀ w, (sizeOf e).run C.P w = .ok 1 w)
  (hx : ev F x = some (.agg cs.toArray)) (hy : ev F y = some (.int k i)) (h0 : 0 ≤ i) (h1 : i < len) (hv : cs[i.toNat]? = some v) : Ev C F L (.index T x y) ty v := fun a w ha _ d pos aft g => by
 simp [execOp, ha.ev hx, ha.ev hy, Instr.index, asIntOf, run_underlying hu, h0, h1, hS w, part, hA w, hv]
theorem Ev_sliceG {lo hi : Option Operand} {ao : Option Addr} {l c : Nat} (e s i j : Nat) (hu : C.P.underlying T = some (.slice e)) (hS : ∀ w, (sizeOf e).run C.P w = .ok s w) (hx : ev F x = some (.slice ao l c))
  (hl : match lo with | some z => ev F z = some (I64 i) | none => i = 0) (hh : match hi with | some z => ev F z = some (I64 j) | none => j = l)
  (h1 : i ≤ j) (h2 : j ≤ c) : Ev C F L (.slice T x lo hi none) ty (.slice (if c = i then ao else ao.map (·.add (i * s))) (j - i) (c - i)) := fun a w ha _ d pos aft g => by
 have g1 : (Instr.sliceBound (I64 j) c .sliceAcap).run C.P w = .ok j w := by
  simp only [Instr.sliceBound, asIntOf]
  simp [h2]
 have g2 : (Instr.sliceBound (I64 i) j .sliceB).run C.P w = .ok i w := by
  simp only [Instr.sliceBound, asIntOf]
  simp [h1]
 cases lo <;> cases hi <;> simp only [] at hl hh
 ·
  subst hl; subst hh
  simp [execOp, ha.ev hx, Instr.sliceAt, run_underlying hu, Instr.slice, Instr.sliceBounds, hS w]
 ·
  subst hl
  simp [execOp, ha.ev hx, ha.ev hh, Instr.sliceAt, run_underlying hu, Instr.slice, Instr.sliceBounds, hS w, g1]
 ·
  subst hh
  simp [execOp, ha.ev hx, ha.ev hl, Instr.sliceAt, run_underlying hu, Instr.slice, Instr.sliceBounds, hS w, g2]
 ·
  simp [execOp, ha.ev hx, ha.ev hl, ha.ev hh, Instr.sliceAt, run_underlying hu, Instr.slice, Instr.sliceBounds, hS w, g1, g2]
theorem B4 {lo hi : Option Operand} {b off : Nat} (n e s i j o c' : Nat) (hu : C.P.underlying T = some (.array n e)) (hS : ∀ w, (sizeOf e).run C.P w = .ok s w) (hx : ev F x = some (Ptr b off))
  (hl : match lo with | some z => ev F z = some (I64 i) | none => i = 0) (hh : match hi with | some z => ev F z = some (I64 j) | none => j = n)
  (h1 : i ≤ j) (h2 : j ≤ n) (hne : i < n) (ho : off + i * s = o) (hc : n - i = c') (j' : Nat) (hj : j - i = j') : Ev C F L (.slice T x lo hi none) ty (Slc b o j' c') := fun a w ha _ d pos aft g => by
 have g1 : (Instr.sliceBound (I64 j) n .sliceAlen).run C.P w = .ok j w := by
  simp only [Instr.sliceBound, asIntOf]
  simp [h2]
 have g2 : (Instr.sliceBound (I64 i) j .sliceB).run C.P w = .ok i w := by
  simp only [Instr.sliceBound, asIntOf]
  simp [h1]
 have hne' : ¬ n = i := by omega
 cases lo <;> cases hi <;> simp only [] at hl hh
 ·
  subst hl; subst hh; subst hj; subst hc; subst ho
  have h3 : ¬ j = 0 := by omega
  simp [execOp, ha.ev hx, Instr.sliceAt, run_underlying hu, Instr.sliceBounds, hS w, Instr.sureAddr, FM]
 ·
  subst hl; subst hj; subst hc; subst ho
  simp [execOp, ha.ev hx, ha.ev hh, Instr.sliceAt, run_underlying hu, Instr.sliceBounds, hS w, g1, Instr.sureAddr, FM]
 ·
  subst hh; subst hj; subst hc; subst ho
  simp [execOp, ha.ev hx, ha.ev hl, Instr.sliceAt, run_underlying hu, Instr.sliceBounds, hS w, g2, Instr.sureAddr, FM, hne']
 ·
  subst hj; subst hc; subst ho
  simp [execOp, ha.ev hx, ha.ev hl, ha.ev hh, Instr.sliceAt, run_underlying hu, Instr.sliceBounds, hS w, g1, g2, Instr.sureAddr, FM, hne']
theorem addr_map (ao : Option Addr) : ao.map (·.add 0) = ao := by
 cases ao <;> simp [Addr.add]
theorem Ev_len {ao : Option Addr} {l c t e : Nat} (hu : C.P.underlying t = some (.slice e)) (hx : ev F x = some (.slice ao l c)) : Ev C F L (.call { callee := .builtin .len, args := #[x], argTypes := #[t] }) ty (I64 l) := fun a w ha _ d pos aft g => by
 have e := ha.ev hx
 simp [execOp, resolve, invoke, e, builtin, Builtin.len_, run_underlying hu, goInt]
theorem AH {f : FuncId} {args : Array Operand} {ats : Array TypeId} (vs : List Value) (hcf : ∀ (args : Array Value) (w : World), Sem.run C.P (callFunc f args) w = Result.ok (Next.enter f args) w)
  (h : args.toList.map (ev F) = vs.map some) : Cl C F L (.call { callee := .value (.func f), args := args, argTypes := ats }) ty f vs.toArray := fun a w ha _ d pos aft g => by
 have : args.map a.eval = vs.toArray := by
  apply Array.toList_inj.1
  rw [Array.toList_map]
  generalize args.toList = l at h
  clear hcf
  induction l generalizing vs with
  | nil => cases vs <;> simp_all
  | cons o l ih =>
   cases vs with
   | nil => simp at h
   | cons v vs =>
    simp only [List.map_cons, List.cons.injEq] at h
    simp [ha.ev h.1, ih vs h.2]
 have h2 : a.eval (.func f) = .func (.func f) #[] #[] := rfl
 simp [execOp, resolve, this, h2, Deferred.ofValue, invoke, hcf]
end Go.Sx
namespace Go.Sx
open Go Go.RowKit
variable {C : Cx} {F : Frm} {L : List Ent} {Q : Exit → Act → World → Prop} {ops : Array Oper} {l : List Oper}
variable {P : Program} {w : World} {T : TypeId}
theorem wrap_i64_in (n : Int) (h1 : -9223372036854775808 ≤ n) (h2 : n ≤ 9223372036854775807) : IntKind.i64.wrap n = n := IntWalk.i64_in n ⟨h1, h2⟩
theorem BR (x y r : Int) (h1 : -9223372036854775808 ≤ r ∧ r ≤ 9223372036854775807) (hr : x + y = r) : (binOp .add T (I64 x) (I64 y)).run P w = .ok (I64 r) w := by
 subst hr; simp [binOp, Op.intArith, wrap_i64_in _ h1.1 h1.2]
theorem EU (x y r : Int) (h1 : -9223372036854775808 ≤ r ∧ r ≤ 9223372036854775807) (hr : x - y = r) : (binOp .sub T (I64 x) (I64 y)).run P w = .ok (I64 r) w := by
 subst hr; simp [binOp, Op.intArith, wrap_i64_in _ h1.1 h1.2]
theorem bin_mul_i (x y r : Int) (h1 : -9223372036854775808 ≤ r ∧ r ≤ 9223372036854775807) (hr : x * y = r) : (binOp .mul T (I64 x) (I64 y)).run P w = .ok (I64 r) w := by
 subst hr; simp [binOp, Op.intArith, wrap_i64_in _ h1.1 h1.2]
theorem bin_eql_i (x y : Int) : (binOp .eql T (I64 x) (I64 y)).run P w = .ok (.bool (decide (x = y))) w := by
 have e : (x == y) = decide (x = y) := by rw [Bool.eq_iff_iff]; simp
 rw [binOp_eql, e]; simp
theorem bin_neq_i (x y : Int) : (binOp .neq T (I64 x) (I64 y)).run P w = .ok (.bool (decide (x ≠ y))) w := by
 have e : (x != y) = decide (x ≠ y) := by rw [Bool.eq_iff_iff]; simp
 rw [binOp_neq, e]; simp
theorem bin_lss_i (x y : Int) : (binOp .lss T (I64 x) (I64 y)).run P w = .ok (.bool (decide (x < y))) w := by rw [binOp_lss]; simp
theorem bin_leq_i (x y : Int) : (binOp .leq T (I64 x) (I64 y)).run P w = .ok (.bool (decide (x ≤ y))) w := by rw [binOp_leq]; simp
theorem bin_gtr_i (x y : Int) : (binOp .gtr T (I64 x) (I64 y)).run P w = .ok (.bool (decide (y < x))) w := by rw [binOp_gtr]; simp
theorem bin_geq_i (x y : Int) : (binOp .geq T (I64 x) (I64 y)).run P w = .ok (.bool (decide (y ≤ x))) w := by rw [binOp_geq]; simp
theorem conv_int {src dst : TypeId} {k : IntKind} (n m : Int) (hs : (P.underlying src).isSome = true) (hd : P.underlying dst = some (.int k)) (k' : IntKind) (h : k.wrap n = m) : (convert src dst (.int k' n)).run P w = .ok (.int k m) w := by
 cases hu : P.underlying src with
 | none => rw [hu] at hs; cases hs
 | some d => subst h; simp [convert, run_underlying hu, run_underlying hd, Conv.intToInt]
theorem conv_lit {src dst : TypeId} {k : IntKind} {n m : Int} {k' : IntKind} (hs : (P.underlying src).isSome = true) (hd : P.underlying dst = some (.int k)) (h : k.wrap n = m) : (convert src dst (.int k' n)).run P w = .ok (.int k m) w := conv_int n m hs hd k' h
theorem conv_u8_u64 {src dst : TypeId} (hs : (P.underlying src).isSome = true) (hd : P.underlying dst = some (.int .u64)) (x : UInt8) : (convert src dst (U8 x)).run P w = .ok (U64 x.toUInt64) w :=
 conv_int _ _ hs hd _ (by have := x.toNat_lt; rw [wrap_u64']; simp; try omega)
theorem EO {src dst : TypeId} (hs : (P.underlying src).isSome = true) (hd : P.underlying dst = some (.int .u64)) (n : Nat) (x : Int) (h : x = n) : (convert src dst (I64 x)).run P w = .ok (U64 (UInt64.ofNat n)) w :=
 conv_int _ _ hs hd _ (by subst h; rw [wrap_u64']; simp)
theorem conv_u64_u8 {src dst : TypeId} (hs : (P.underlying src).isSome = true) (hd : P.underlying dst = some (.int .u8)) (x : UInt64) : (convert src dst (U64 x)).run P w = .ok (U8 x.toUInt8) w :=
 conv_int _ _ hs hd _ (by have := x.toNat_lt; rw [IntKind.wrap_u8']; simp; try omega)
theorem conv_u64_i64 {src dst : TypeId} (hs : (P.underlying src).isSome = true) (hd : P.underlying dst = some (.int .i64)) (x : UInt64) (r : Int) (hr : (x.toNat : Int) = r) (hx : x.toNat < 9223372036854775808) : (convert src dst (U64 x)).run P w = .ok (I64 r) w :=
 conv_int _ _ hs hd _ (by subst hr; have := x.toNat_lt; exact wrap_i64_in _ (by omega) (by omega))
theorem EQ (op : BinOp) (t : TypeId) (x y : Operand) (p q : Option Addr) : (eqGuard op t x y (.pointer p) (.pointer q)).run P w = .ok () w := by cases op <;> simp [eqGuard]
theorem eqGuard_sl (op : BinOp) (t : TypeId) (x y : Operand) (p q : Option Addr) (a b c d : Nat) : (eqGuard op t x y (.slice p a b) (.slice q c d)).run P w = .ok () w := by cases op <;> simp [eqGuard]
theorem eqGuard_bool (op : BinOp) (t : TypeId) (x y : Operand) (p q : Bool) : (eqGuard op t x y (.bool p) (.bool q)).run P w = .ok () w := by cases op <;> simp [eqGuard]
theorem eqGuard_str (op : BinOp) (t : TypeId) (x y : Operand) (p q : ByteArray) : (eqGuard op t x y (.string p) (.string q)).run P w = .ok () w := by cases op <;> simp [eqGuard]
theorem eqGuard_if (op : BinOp) (t : TypeId) (x y : Operand) (d : TypeId) (p : Value) : (eqGuard op t x y (.iface d p) .nilIface).run P w = .ok () w := by cases op <;> simp [eqGuard]
theorem eqGuard_nilc (op : BinOp) (t : TypeId) (x : Operand) (v : Value) : (eqGuard op t x (.const v) .nilIface .nilIface).run P w = .ok () w := by cases op <;> simp [eqGuard]
theorem EG (op : BinOp) (t : TypeId) (x y : Operand) (p q : Array Value) (hg : P.eqGuardType P.depth t = false) : (eqGuard op t x y (.agg p) (.agg q)).run P w = .ok () w := by cases op <;> simp [eqGuard, program, Sem.run, hg]
theorem eql_of {t : TypeId} {x y : Value} {b : Bool} (hi : binOp .eql t x y = (do pure (.bool (← Op.equal t x y)))) (h : (Op.equal t x y).run P w = .ok b w) : (binOp .eql t x y).run P w = .ok (.bool b) w := by rw [hi]; simp [h]
theorem neq_of {t : TypeId} {x y : Value} {b : Bool} (hi : binOp .neq t x y = (do pure (.bool (!(← Op.equal t x y))))) (h : (Op.equal t x y).run P w = .ok b w) : (binOp .neq t x y).run P w = .ok (.bool !b) w := by rw [hi]; simp [h]
theorem equal_ptr_nil {t e : TypeId} (hu : P.underlying t = some (.pointer e)) (a : Addr) : (Op.equal t (.pointer (some a)) (.pointer none)).run P w = .ok false w := by
 unfold Op.equal Op.maxDepth
 rw [show (10000:Nat) = 9999 + 1 from rfl]
 generalize 9999 = d
 simp [Op.equalIn, run_underlying hu]
theorem equal_sl_any {t e : TypeId} (hu : P.underlying t = some (.slice e)) (a : Option Addr) (n c : Nat) : (Op.equal t (.slice a n c) (.slice none 0 0)).run P w = .ok a.isNone w := by
 cases a <;> (unfold Op.equal Op.maxDepth; rw [show (10000:Nat) = 9999 + 1 from rfl]; generalize 9999 = d; simp [Op.equalIn, run_underlying hu])
theorem equal_if_nil {t : TypeId} {ms : Array (String × TypeId)} (hu : P.underlying t = some (.interface ms)) (d : TypeId) (v : Value) : (Op.equal t (.iface d v) .nilIface).run P w = .ok false w := by
 unfold Op.equal Op.maxDepth
 rw [show (10000:Nat) = 9999 + 1 from rfl]
 generalize 9999 = d
 simp [Op.equalIn, run_underlying hu]
theorem equal_if_nil_nil {t : TypeId} {ms : Array (String × TypeId)} (hu : P.underlying t = some (.interface ms)) : (Op.equal t .nilIface .nilIface).run P w = .ok true w := by
 unfold Op.equal Op.maxDepth
 rw [show (10000:Nat) = 9999 + 1 from rfl]
 generalize 9999 = d
 simp [Op.equalIn, run_underlying hu]
theorem equal_bool {t : TypeId} (hu : P.underlying t = some .bool) (a b : Bool) : (Op.equal t (.bool a) (.bool b)).run P w = .ok (a == b) w := by
 unfold Op.equal Op.maxDepth
 rw [show (10000:Nat) = 9999 + 1 from rfl]
 generalize 9999 = d
 simp [Op.equalIn, run_underlying hu]
theorem EX {t e : TypeId} (hu : P.underlying t = some (.pointer e)) {a : Addr} : (binOp .eql t (.pointer (some a)) (.pointer none)).run P w = .ok (.bool false) w := eql_of (by simp [binOp]) (equal_ptr_nil hu a)
theorem neq_ptr_nil {t e : TypeId} (hu : P.underlying t = some (.pointer e)) {a : Addr} : (binOp .neq t (.pointer (some a)) (.pointer none)).run P w = .ok (.bool (true)) w := neq_of (by simp [binOp]) (equal_ptr_nil hu a)
theorem eql_sl_any {t e : TypeId} (hu : P.underlying t = some (.slice e)) {a : Option Addr} {n c : Nat} : (binOp .eql t (.slice a n c) (.slice none 0 0)).run P w = .ok (.bool a.isNone) w := eql_of (by simp [binOp]) (equal_sl_any hu a n c)
theorem eql_sl_nil_nil {t e : TypeId} (hu : P.underlying t = some (.slice e)) : (binOp .eql t (.slice none 0 0) (.slice none 0 0)).run P w = .ok (.bool true) w := eql_of (by simp [binOp]) (equal_sl_any hu none 0 0)
theorem eql_if_nil {t : TypeId} {ms : Array (String × TypeId)} (hu : P.underlying t = some (.interface ms)) {d : TypeId} {v : Value} : (binOp .eql t (.iface d v) (.nilIface)).run P w = .ok (.bool false) w := eql_of (by simp [binOp]) (equal_if_nil hu d v)
theorem neq_if_nil {t : TypeId} {ms : Array (String × TypeId)} (hu : P.underlying t = some (.interface ms)) {d : TypeId} {v : Value} : (binOp .neq t (.iface d v) (.nilIface)).run P w = .ok (.bool (true)) w := neq_of (by simp [binOp]) (equal_if_nil hu d v)
theorem eql_if_nil_nil {t : TypeId} {ms : Array (String × TypeId)} (hu : P.underlying t = some (.interface ms)) : (binOp .eql t (.nilIface) (.nilIface)).run P w = .ok (.bool true) w := eql_of (by simp [binOp]) (equal_if_nil_nil hu)
theorem neq_if_nil_nil {t : TypeId} {ms : Array (String × TypeId)} (hu : P.underlying t = some (.interface ms)) : (binOp .neq t (.nilIface) (.nilIface)).run P w = .ok (.bool (false)) w := neq_of (by simp [binOp]) (equal_if_nil_nil hu)
theorem neq_bool {t : TypeId} (hu : P.underlying t = some .bool) {a b : Bool} : (binOp .neq t (.bool a) (.bool b)).run P w = .ok (.bool (!(a == b))) w := neq_of (by simp [binOp]) (equal_bool hu a b)
theorem eql_str {t : TypeId} {a b : List UInt8} : (binOp .eql t (.string ⟨a.toArray⟩) (.string ⟨b.toArray⟩)).run P w = .ok (.bool (decide (a = b))) w := by
 have e : (a == b) = decide (a = b) := by rw [Bool.eq_iff_iff]; simp
 simp [binOp, Op.stringOp, e]
def cu8 (l : List UInt8) : List Value := l.map fun x => U8 x
abbrev V0 (a0 : UInt64) (a1 : Int) (a2 : Int) (a3 : Option Addr) (a4 : Nat) (a5 : Nat) (a6 : Bool) (a7 : UInt64) (a8 : UInt64) (a9 : Int) (a10 : Option Addr) (a11 : Nat) (a12 : Nat) (a13 : Option Addr) (a14 : Nat) (a15 : Nat) (a16 : UInt64) (a17 : List UInt8) (a18 : Option Addr) (a19 : Nat) (a20 : Nat) (a21 : Option Addr) (a22 : Nat) (a23 : Nat) : List Value := ([U64 a0, I64 a1, I64 a2, .slice a3 a4 a5, .bool a6, U64 a7, U64 a8, I64 a9, .slice a10 a11 a12, .slice a13 a14 a15, U64 a16] : List Value) ++ cu8 a17 ++ ([.slice a18 a19 a20, .slice a21 a22 a23] : List Value)
abbrev V1 (a0 : UInt64) (a1 : Int) (a2 : Option Addr) (a3 : Nat) (a4 : Nat) (a5 : UInt64) (a6 : Int) (a7 : UInt64) (a8 : UInt64) (a9 : Int) (a10 : Option Addr) (a11 : Nat) (a12 : Nat) (a13 : Option Addr) (a14 : Nat) (a15 : Nat) (a16 : UInt64) (a17 : List UInt8) (a18 : UInt64) : List Value := ([U64 a0, I64 a1, .slice a2 a3 a4, U64 a5, I64 a6, U64 a7, U64 a8, I64 a9, .slice a10 a11 a12, .slice a13 a14 a15, U64 a16] : List Value) ++ cu8 a17 ++ ([U64 a18] : List Value)
abbrev V2 (a0 : UInt64) (a1 : UInt64) (a2 : Int) (a3 : Option Addr) (a4 : Nat) (a5 : Nat) (a6 : Option Addr) (a7 : Nat) (a8 : Nat) (a9 : UInt64) (a10 : List UInt8) : List Value := ([U64 a0, U64 a1, I64 a2, .slice a3 a4 a5, .slice a6 a7 a8, U64 a9] : List Value) ++ cu8 a10
abbrev V3 (a0 : Bool) (a1 : UInt64) (a2 : List UInt8) (a3 : List UInt8) : List Value := ([.bool a0, U64 a1] : List Value) ++ cu8 a2 ++ cu8 a3
@[simp] theorem cu8_length (l : List UInt8) : (cu8 l).length = l.length := by simp [cu8]
def g8 (l : List UInt8) (i : Nat) : UInt8 := l.getD i 0
theorem g8_get {l : List UInt8} {i : Nat} (h : i < l.length) : (cu8 l)[i]? = some (U8 (g8 l i)) := by
 simp [cu8, g8, h]
theorem g8_eq {l : List UInt8} {i : Nat} (h : i < l.length) : g8 l i = l[i] := by simp [g8, h]
theorem A6 {l : List UInt8} : ∀ u ∈ cu8 l, u.oneCell' = true := by
 intro u hu; simp only [cu8, List.mem_map] at hu; obtain ⟨x, _, rfl⟩ := hu; rfl
theorem seg_u8_mid {l : List UInt8} (o n : Nat) (_h : o + n ≤ l.length) : Seg (cu8 l) o (cu8 ((l.drop o).take n)) := by
 intro j v hj
 simp only [cu8, List.getElem?_map, List.getElem?_take, List.getElem?_drop] at hj ⊢
 split at hj
 ·
  exact hj
 ·
  simp at hj
theorem cu8_app (a b : List UInt8) : cu8 (a ++ b) = cu8 a ++ cu8 b := by simp [cu8]
def cu32 (l : List UInt32) : List Value := l.map fun x => U32 x
@[simp] theorem cu32_length (l : List UInt32) : (cu32 l).length = l.length := by simp [cu32]
theorem EF {l : List UInt32} : ∀ u ∈ cu32 l, u.oneCell' = true := by
 intro u hu; simp only [cu32, List.mem_map] at hu; obtain ⟨x, _, rfl⟩ := hu; rfl
def cu64 (l : List UInt64) : List Value := l.map fun x => U64 x
@[simp] theorem EA (l : List UInt64) : (cu64 l).length = l.length := by simp [cu64]
def g64 (l : List UInt64) (i : Nat) : UInt64 := l.getD i 0
theorem FE {l : List UInt64} {i : Nat} (h : i < l.length) : (cu64 l)[i]? = some (U64 (g64 l i)) := by
 simp [cu64, g64, h]
theorem g64_eq {l : List UInt64} {i : Nat} (h : i < l.length) : g64 l i = l[i] := by simp [g64, h]
theorem EB {l : List UInt64} : ∀ u ∈ cu64 l, u.oneCell' = true := by
 intro u hu; simp only [cu64, List.mem_map] at hu; obtain ⟨x, _, rfl⟩ := hu; rfl
theorem cu64_app (a b : List UInt64) : cu64 (a ++ b) = cu64 a ++ cu64 b := by simp [cu64]
theorem AI {cs vs : List Value} (h : vs.length = cs.length) : lay cs 0 vs = vs := by
 simp [lay, h]
end Go.Sx
namespace Go.Sx
open Go Go.RowKit
def Step (C : Cx) (F : Frm) (L : List Ent) (op : Op) (ty : TypeId) (R : Value → List Ent → Prop) : Prop :=
 ∀ a w, Fr F C a → Hp C.w0 C.M L w → ∀ d pos aft g (Kk : Act → World → Prop) (Q : Exit → Act → World → Prop),
  (∀ v L' w', R v L' → Hp C.w0 C.M L' w' → Kk (a.put d v) w') → (Oper.mk d op ty pos aft g).wpIn (Fc C.rd) 0 C.P a w Kk Q
variable {C : Cx} {F : Frm} {L : List Ent} {Q : Exit → Act → World → Prop} {l : List Oper}
theorem Step_run {op : Op} {ty : TypeId} {R : Value → List Ent → Prop} (h : ∀ a w, Fr F C a → Hp C.w0 C.M L w → ∀ d pos aft g, ∃ v L' w', R v L' ∧ Hp C.w0 C.M L' w' ∧
  ((execOp a.eval ⟨d, op, ty, pos, aft, g⟩).run C.P w = .ok (.value v) w' ∨ v = undef ∧ (execOp a.eval ⟨d, op, ty, pos, aft, g⟩).run C.P w = .ok .skip w')) : Step C F L op ty R := fun a w ha hw d pos aft g Kk Q hk => by
 obtain ⟨v, L', w', hR, hw', hr⟩ := h a w ha hw d pos aft g
 rcases hr with hr | ⟨rfl, hr⟩
 ·
  refine wpIn_of_wp (nd_of_run hr (by simp)) ?_
  unfold Oper.wp; rw [hr]; exact hk v L' w' hR hw'
 ·
  refine wpIn_of_wp (nd_of_run hr (by simp)) ?_
  unfold Oper.wp; rw [hr]; exact hk _ L' w' hR hw'
theorem BE {op : Op} {ty : TypeId} (f : FuncId) (args : Array Value) (m : List Bool) (M' : List Nat) (R : Value → List Ent → Prop)
  (hc : Cl C F L op ty f args) (hM : (take? m L).map Ent.b = M') (hct : ∀ w, Hp C.w0 C.M L w → Calls C.P f args w (Post w M' R)) :
  Step C F L op ty fun v L' => ∃ L'', R v L'' ∧ L' = rest? m L ++ L'' := fun a w ha hw d pos aft g Kk Q hk => by
 refine wpIn_of_wp (nd_of_run (hc a w ha hw d pos aft g) (by simp)) ?_
 unfold Oper.wp
 rw [hc a w ha hw]
 refine (hct w hw).mono ?_
 rintro e w' ⟨v, L', rfl, hR, hw'⟩
 exact hk v _ w' ⟨L', hR, rfl⟩ (hw.call hw' (perm_mask m L) hM)
theorem AF {ops : Array Oper} {d : Option Tmp} {op : Op} {ty : TypeId} {pos : String} {aft : Array Edge} {R : Value → List Ent → Prop} (hs : Step C F L op ty R) (hd : (match d with | some d => Nat.blt d C.n | none => true) = true)
  (h : ∀ v L', R v L' → JL C Q ops l (match d with | some d => (d, v) :: F | none => F) L') : JL C Q ops (⟨d, op, ty, pos, aft, none⟩ :: l) F L := by
 intro a w ha hw
 refine wpListIn_plain rfl fun K hK => hs a w ha hw _ _ _ _ _ _ fun v L' w' hR hw' => hK _ _ ?_
 cases d with
 | none => exact h v L' hR _ _ ha hw'
 | some d => exact h v L' hR _ _ (ha.put v (by simpa [Nat.blt_eq] using hd)) hw'
theorem AC {ops : Array Oper} {d : Option Tmp} {op : Op} {ty : TypeId} {pos : String} {aft : Array Edge} {b : Value} {M : List Ent} (hs : Step C F L op ty fun v L' => v = b ∧ L' = M) (hd : (match d with | some d => Nat.blt d C.n | none => true) = true)
    (h : JL C Q ops l (match d with | some d => (d, b) :: F | none => F) M) : JL C Q ops (⟨d, op, ty, pos, aft, none⟩ :: l) F L := AF hs hd fun v L' hR => by
  obtain ⟨h1, h2⟩ := hR
  rw [h1, h2]; exact h
theorem B6 {ops : Array Oper} {d : Option Tmp} {op : Op} {ty : TypeId} {pos : String} {aft : Array Edge} {R : Value → List Ent → Prop} (j s : Nat) (want b : Bool) (hj : (ops[j]?).bind (·.dst) = some s)
  (hs' : lk F s = some (.bool b)) (hb : b = want) (hs : Step C F L op ty R) (hd : (match d with | some d => Nat.blt d C.n | none => true) = true)
  (h : ∀ v L', R v L' → JL C Q ops l (match d with | some d => (d, v) :: F | none => F) L') : JL C Q ops (⟨d, op, ty, pos, aft, some (j, want)⟩ :: l) F L := by
 intro a w ha hw
 refine wpListIn_step fun K hK => ?_
 have hy : yielded ops a.tmps j = some want := by
  simp [yielded, hj, ha.2.2 s _ hs', hb]
 simp only [Region.wanted, hy, beq_self_eq_true, if_true]
 refine hs a w ha hw _ _ _ _ _ _ fun v L' w' hR hw' => hK _ _ ?_
 cases d with
 | none => exact h v L' hR _ _ ha hw'
 | some d => exact h v L' hR _ _ (ha.put v (by simpa [Nat.blt_eq] using hd)) hw'
def preds (ops : Array Oper) (i : Nat) : List Nat :=
 match ops[i]? with
 | some o => (o.after.toList.filter (Region.binds .any)).map (·.on)
 | none => []
def dstOf (ops : Array Oper) (i : Nat) : Option Nat := (ops[i]?).bind (·.dst)
abbrev Vals := List (Nat × Value)
def okb (ops : Array Oper) (i s : Nat) : Bool := (List.range ops.size).all fun j => match dstOf ops j with
 | some d => !(Nat.beq d s) || Nat.beq j i || (preds ops j).contains i
 | none => true
def predF (ops : Array Oper) (Vl : Vals) : List Nat → Frm
 | [] => []
 | j :: r => match dstOf ops j, lk Vl j with
  | some d, some v => (d, v) :: predF ops Vl r
  | _, _ => predF ops Vl r
def baseF (ops : Array Oper) (i : Nat) : Frm → Frm
 | [] => []
 | (s, v) :: r => bif okb ops i s then (s, v) :: baseF ops i r else baseF ops i r
def frmOf (ops : Array Oper) (Vl : Vals) (F0 : Frm) (i : Nat) : Frm := predF ops Vl (preds ops i) ++ baseF ops i F0
def Qok (C : Cx) (ops : Array Oper) (Q : Exit → Act → World → Prop) (F : Frm) (L : List Ent) (i : Nat) (v : Value) : Prop :=
 ∀ a w, Fr F C a → Hp C.w0 C.M L w → ∀ K : Act → World → Prop, K (a.put (dstOf ops i) v) w → wpOpIn (Fc C.rd) 0 C.P ops Q i K a w
def Cok (C : Cx) (ops : Array Oper) (Q : Exit → Act → World → Prop) (F : Frm) (L : List Ent) (i : Nat) (R : Value → List Ent → Prop) : Prop :=
 ∀ a w, Fr F C a → Hp C.w0 C.M L w → ∀ K : Act → World → Prop, (∀ v L' w', R v L' → Hp C.w0 C.M L' w' → K (a.put (dstOf ops i) v) w') → wpOpIn (Fc C.rd) 0 C.P ops Q i K a w
theorem Qok_val {ops : Array Oper} {i : Nat} {d : Option Tmp} {op : Op} {ty : TypeId} {pos : String} {aft : Array Edge} {v : Value} (hi : ops[i]? = some ⟨d, op, ty, pos, aft, none⟩) (h : Ev C F L op ty v) : Qok C ops Q F L i v := fun a w ha hw K hk => by
 unfold wpOpIn
 rw [hi]
 simp only [Region.wanted, if_true]
 refine wpIn_of_wp (nd_of_run (h a w ha hw d pos aft _) (by simp)) ?_
 unfold Oper.wp
 rw [h a w ha hw]
 have h2 : K (a.put d v) w := by simpa [dstOf, hi] using hk
 exact h2
theorem BM {F0 : Frm} {Vl : Vals} {ops : Array Oper} {i : Nat} {d : Option Tmp} {ty : TypeId} {pos : String} {aft : Array Edge} {v : Value} {x : Operand} (hv : lk Vl i = some v) (hi : ops[i]? = some ⟨d, .move x, ty, pos, aft, none⟩) (hx : ev (frmOf ops Vl F0 i) x = some v) : ∃ v, lk Vl i = some v ∧ Qok C ops Q (frmOf ops Vl F0 i) L i v := ⟨v, hv, Qok_val hi (Ev_move hx)⟩
theorem AA {F0 : Frm} {Vl : Vals} {ops : Array Oper} {i : Nat} {d : Option Tmp} {op : Op} {ty : TypeId} {pos : String} {aft : Array Edge} {v : Value} (hv : lk Vl i = some v) (hi : ops[i]? = some ⟨d, op, ty, pos, aft, none⟩) (h : Ev C (frmOf ops Vl F0 i) L op ty v) : ∃ v, lk Vl i = some v ∧ Qok C ops Q (frmOf ops Vl F0 i) L i v := ⟨v, hv, Qok_val hi h⟩
theorem BA {ops : Array Oper} {i : Nat} {d : Option Tmp} {op : Op} {ty : TypeId} {pos : String} {aft : Array Edge} {v : Value} (j s : Nat) (want b : Bool) (hi : ops[i]? = some ⟨d, op, ty, pos, aft, some (j, want)⟩)
  (hj : (ops[j]?).bind (·.dst) = some s) (hs : lk F s = some (.bool b)) (hb : b = want) (h : Ev C F L op ty v) : Qok C ops Q F L i v := fun a w ha hw K hk => by
 have hy : yielded ops a.tmps j = some want := by
  simp [yielded, hj, ha.2.2 s _ hs, hb]
 unfold wpOpIn
 rw [hi]
 simp only [Region.wanted, hy, beq_self_eq_true, if_true]
 refine wpIn_of_wp (nd_of_run (h a w ha hw d pos aft _) (by simp)) ?_
 unfold Oper.wp
 rw [h a w ha hw]
 have h2 : K (a.put d v) w := by simpa [dstOf, hi] using hk
 exact h2
theorem BN {ops : Array Oper} {i : Nat} {d : Option Tmp} {op : Op} {ty : TypeId} {pos : String} {aft : Array Edge} (j s : Nat) (want b : Bool) (hi : ops[i]? = some ⟨d, op, ty, pos, aft, some (j, want)⟩)
  (hj : (ops[j]?).bind (·.dst) = some s) (hs : lk F s = some (.bool b)) (hb : b = !want) : Qok C ops Q F L i undef := fun a w ha hw K hk => by
 have hy : yielded ops a.tmps j = some (!want) := by
  simp [yielded, hj, ha.2.2 s _ hs, hb]
 have hn : Region.wanted ⟨d, op, ty, pos, aft, some (j, want)⟩ (yielded ops a.tmps) = false := by
  cases want <;> simp [Region.wanted, hy]
 unfold wpOpIn
 rw [hi]
 simp only [hn]
 exact ⟨fun _ _ => trivial, by simpa [dstOf, hi] using hk⟩
theorem E3 {ops : Array Oper} {i : Nat} {d : Option Tmp} {op : Op} {ty : TypeId} {pos : String} {aft : Array Edge} (j s : Nat) (want : Bool) (hi : ops[i]? = some ⟨d, op, ty, pos, aft, some (j, want)⟩)
  (hj : (ops[j]?).bind (·.dst) = some s) (hs : lk F s = some undef) : Qok C ops Q F L i undef := fun a w ha hw K hk => by
 have hy : yielded ops a.tmps j = none := by
  simp [yielded, hj, ha.2.2 s _ hs, undef]
 have hn : Region.wanted ⟨d, op, ty, pos, aft, some (j, want)⟩ (yielded ops a.tmps) = false := by
  simp [Region.wanted, hy]
 unfold wpOpIn
 rw [hi]
 simp only [hn]
 exact ⟨fun _ _ => trivial, by simpa [dstOf, hi] using hk⟩
theorem AL {ops : Array Oper} {i : Nat} {d : Option Tmp} {op : Op} {ty : TypeId} {pos : String} {aft : Array Edge} {R : Value → List Ent → Prop} (hi : ops[i]? = some ⟨d, op, ty, pos, aft, none⟩) (h : Step C F L op ty R) : Cok C ops Q F L i R := fun a w ha hw K hk => by
 unfold wpOpIn
 rw [hi]
 simp only [Region.wanted, if_true]
 refine (h a w ha hw _ _ _ _ _ _ fun v L' w' hR hw' => ?_)
 have := hk v L' w' hR hw'
 simpa [dstOf, hi] using this
theorem Cok_gstep {ops : Array Oper} {i : Nat} {d : Option Tmp} {op : Op} {ty : TypeId} {pos : String} {aft : Array Edge} {R : Value → List Ent → Prop} (j s : Nat) (want b : Bool) (hi : ops[i]? = some ⟨d, op, ty, pos, aft, some (j, want)⟩)
  (hj : (ops[j]?).bind (·.dst) = some s) (hs : lk F s = some (.bool b)) (hb : b = want) (h : Step C F L op ty R) : Cok C ops Q F L i R := fun a w ha hw K hk => by
 have hy : yielded ops a.tmps j = some want := by
  simp [yielded, hj, ha.2.2 s _ hs, hb]
 unfold wpOpIn
 rw [hi]
 simp only [Region.wanted, hy, beq_self_eq_true, if_true]
 refine (h a w ha hw _ _ _ _ _ _ fun v L' w' hR hw' => ?_)
 have := hk v L' w' hR hw'
 simpa [dstOf, hi] using this
structure Ph where
 pre : List Nat
 av : List Nat
 mu : List Nat
 q : List Nat
 cs : List Nat
def Ph.chk (ops : Array Oper) (p : Ph) : Bool :=
 ((List.range ops.size).all fun i => p.pre.contains i || p.av.contains i || p.cs.contains i || (preds ops i).any fun j => !(p.pre.contains j || p.av.contains j)) &&
 (p.mu.all fun i => (p.pre ++ p.mu).any fun j => Nat.blt i j && (preds ops j).contains i) &&
 (p.cs.all fun c => !p.pre.contains c && !p.av.contains c && Nat.blt c ops.size) &&
 (p.av.all fun i => p.mu.contains i || p.q.contains i)
def chk0 (ops : Array Oper) (n : Nat) : Bool :=
 ((List.range ops.size).all fun i => match dstOf ops i with | some d => Nat.blt d n | none => true) &&
 ((List.range ops.size).all fun i => (preds ops i).all fun j => Nat.blt j i) &&
 ((List.range ops.size).all fun i => (List.range i).all fun j => match dstOf ops i, dstOf ops j with
  | some d, some e => !Nat.beq d e
  | _, _ => true)
def QAll (C : Cx) (ops : Array Oper) (Q : Exit → Act → World → Prop) (F0 : Frm) (Vl : Vals) (L : List Ent) : List Nat → Prop
 | [] => True
 | i :: r => (∃ v, lk Vl i = some v ∧ Qok C ops Q (frmOf ops Vl F0 i) L i v) ∧ QAll C ops Q F0 Vl L r
def endF (ops : Array Oper) (Vl : Vals) (F0 : Frm) : Frm := predF ops Vl (List.range ops.size) ++ baseF ops ops.size F0
def DP (C : Cx) (ops : Array Oper) (Q : Exit → Act → World → Prop) (F0 : Frm) : Nat → List Nat → List Nat → Vals → List Ent → Prop
 | 0, _, _, _, _ => False
 | k + 1, pre, av, Vl, L => ∃ p : Ph, p.pre = pre ∧ (av.all fun i => p.av.contains i) = true ∧ p.chk ops = true ∧ QAll C ops Q F0 Vl L p.q ∧ (p.cs = [] → JQ C Q .normal (endF ops Vl F0) L) ∧
  ∀ c ∈ p.cs, (lk Vl c).isNone = true ∧ ∃ R, Cok C ops Q (frmOf ops Vl F0 c) L c R ∧ ∀ v L', R v L' → ∃ ex, DP C ops Q F0 k (pre ++ [c]) p.av (Vl ++ (c, v) :: ex) L'
theorem lk_append : ∀ (A B : Frm) (s : Nat), lk (A ++ B) s = (lk A s).or (lk B s)
 | [], B, s => by simp [lk]
 | (i, v) :: A, B, s => by
  simp only [List.cons_append, lk]
  cases Nat.beq i s <;> simp [lk_append A B s]
theorem lk_base (ops : Array Oper) (i : Nat) : ∀ (F : Frm) (s : Nat) (v : Value), lk (baseF ops i F) s = some v → okb ops i s = true ∧ lk F s = some v
 | [], s, v, h => by simp [baseF, lk] at h
 | (j, u) :: F, s, v, h => by
  simp only [baseF] at h
  cases ho : okb ops i j with
  | true =>
   rw [ho] at h
   simp only [cond_true, lk] at h ⊢
   cases hb : Nat.beq j s with
   | true =>
    rw [hb] at h
    obtain rfl := Nat.eq_of_beq_eq_true hb
    exact ⟨ho, by simpa using h⟩
   | false => rw [hb] at h; simpa using lk_base ops i F s v h
  | false =>
   rw [ho] at h
   simp only [cond_false] at h
   obtain ⟨h1, h2⟩ := lk_base ops i F s v h
   refine ⟨h1, ?_⟩
   simp only [lk]
   cases hb : Nat.beq j s with
   | true => obtain rfl := Nat.eq_of_beq_eq_true hb; rw [h1] at ho; cases ho
   | false => simpa using h2
theorem lk_pred (ops : Array Oper) (Vl : Vals) : ∀ (js : List Nat) (s : Nat) (v : Value), lk (predF ops Vl js) s = some v → ∃ j ∈ js, dstOf ops j = some s ∧ lk Vl j = some v
 | [], s, v, h => by simp [predF, lk] at h
 | j :: js, s, v, h => by
  simp only [predF] at h
  cases hd : dstOf ops j with
  | none => rw [hd] at h; obtain ⟨k, hk, h2⟩ := lk_pred ops Vl js s v h; exact ⟨k, List.mem_cons_of_mem _ hk, h2⟩
  | some d =>
   cases hv : lk Vl j with
   | none => rw [hd, hv] at h; obtain ⟨k, hk, h2⟩ := lk_pred ops Vl js s v h; exact ⟨k, List.mem_cons_of_mem _ hk, h2⟩
   | some u =>
    rw [hd, hv] at h
    simp only [lk] at h
    cases hb : Nat.beq d s with
    | true =>
     rw [hb] at h
     obtain rfl := Nat.eq_of_beq_eq_true hb
     simp at h; subst h
     exact ⟨j, by simp, hd, hv⟩
    | false => rw [hb] at h; obtain ⟨k, hk, h2⟩ := lk_pred ops Vl js s v h; exact ⟨k, List.mem_cons_of_mem _ hk, h2⟩
structure Mid (C : Cx) (ops : Array Oper) (F0 : Frm) (p : Ph) (Vl : Vals) (L : List Ent) (li : Array Bool) (a : Act) (w : World) : Prop where
 size : li.size = ops.size
 closed : ∀ j, li[j]? = some true → ∀ k ∈ preds ops j, li[k]? = some true
 pre : ∀ c ∈ p.pre, li[c]? = some true
 ex : ∀ j, li[j]? = some true → j ∈ p.pre ∨ j ∈ p.av
 df : a.defers = C.df
 n : a.tmps.size = C.n
 vals : ∀ j, li[j]? = some true → ∀ d, dstOf ops j = some d → ∃ v, lk Vl j = some v ∧ a.tmps[d]? = some v
 base : ∀ s v, lk F0 s = some v → (∀ j, li[j]? = some true → dstOf ops j ≠ some s) → a.tmps[s]? = some v
 heap : Hp C.w0 C.M L w
theorem ready_spec {ops : Array Oper} {li : Array Bool} {i : Nat} (h : i ∈ Region.ready .any ops li) : i < ops.size ∧ li[i]? = some false ∧ ∀ j ∈ preds ops i, li[j]? = some true := by
 simp only [Region.ready, List.mem_filter, List.mem_range, Bool.and_eq_true, Bool.not_eq_true'] at h
 obtain ⟨h1, h2, h3⟩ := h
 refine ⟨h1, ?_, fun j hj => ?_⟩
 ·
  rw [Array.getD_eq_getD_getElem?] at h2
  cases hx : li[i]? with
  | none => rw [hx] at h2; simp at h2
  | some b => rw [hx] at h2; simp at h2; rw [h2]
 ·
  unfold preds at hj
  cases ho : ops[i]? with
  | none => rw [ho] at hj; simp at hj
  | some o =>
   rw [ho] at hj h3
   simp only [List.mem_map, List.mem_filter] at hj
   obtain ⟨e, ⟨he, hb⟩, rfl⟩ := hj
   simp only [Option.map_some, Option.getD_some, Array.all_eq_true_iff_forall_mem] at h3
   have := h3 e (Array.mem_toList_iff.1 he)
   simp only [hb, Bool.not_true, Bool.false_or] at this
   rw [Array.getD_eq_getD_getElem?] at this
   cases hx : li[e.on]? with
   | none => rw [hx] at this; simp at this
   | some b => rw [hx] at this; simp at this; rw [this]
theorem ready_of {ops : Array Oper} {li : Array Bool} {i : Nat} (h1 : i < ops.size) (h2 : li[i]? = some false) (h3 : ∀ j ∈ preds ops i, li[j]? = some true) : i ∈ Region.ready .any ops li := by
 simp only [Region.ready, List.mem_filter, List.mem_range, Bool.and_eq_true, Bool.not_eq_true']
 refine ⟨h1, ?_, ?_⟩
 ·
  rw [Array.getD_eq_getD_getElem?, h2]; rfl
 ·
  rw [Array.getElem?_eq_getElem h1]
  simp only [Option.map_some, Option.getD_some, Array.all_eq_true_iff_forall_mem]
  intro e he
  cases hb : Region.binds .any e with
  | false => rfl
  | true =>
   have := h3 e.on (by
    unfold preds
    rw [Array.getElem?_eq_getElem h1]
    exact List.mem_map.2 ⟨e, List.mem_filter.2 ⟨Array.mem_toList_iff.2 he, hb⟩, rfl⟩)
   simp [Array.getD_eq_getD_getElem?, this]
def cnt : List Bool → Nat
 | [] => 0
 | b :: l => (if b then 0 else 1) + cnt l
theorem cnt_set : ∀ (l : List Bool) (i : Nat), l[i]? = some false → cnt (l.set i true) + 1 = cnt l
 | [], i, h => by simp at h
 | b :: l, 0, h => by simp at h; subst h; simp [cnt]; omega
 | b :: l, i + 1, h => by
  have := cnt_set l i (by simpa using h)
  simp only [List.set_cons_succ, cnt]; omega
theorem cnt_zero : ∀ (l : List Bool), cnt l = 0 → ∀ (i : Nat) (b : Bool), l[i]? = some b → b = true
 | [], _, i, b, h => by simp at h
 | c :: l, hc, i, b, h => by
  simp only [cnt] at hc
  cases c with
  | false => simp at hc
  | true =>
   cases i with
   | zero => simpa using h.symm
   | succ i => exact cnt_zero l (by simpa using hc) i b (by simpa using h)
theorem chk0_lt {ops : Array Oper} {n : Nat} (h : chk0 ops n = true) {i j : Nat} (hj : j ∈ preds ops i) : j < i ∧ i < ops.size := by
 have hi : i < ops.size := by
  unfold preds at hj
  cases ho : ops[i]? with
  | none => rw [ho] at hj; simp at hj
  | some o => exact (Array.getElem?_eq_some_iff.1 ho).1
 simp only [chk0, Bool.and_eq_true, List.all_eq_true, List.mem_range] at h
 have := h.1.2 i hi j hj
 exact ⟨by simpa [Nat.blt_eq] using this, hi⟩
theorem dst_lt {ops : Array Oper} {i d : Nat} (h : dstOf ops i = some d) : i < ops.size := by
 unfold dstOf at h
 cases ho : ops[i]? with
 | none => rw [ho] at h; simp at h
 | some o => exact (Array.getElem?_eq_some_iff.1 ho).1
theorem chk0_n {ops : Array Oper} {n : Nat} (h : chk0 ops n = true) {i d : Nat} (hd : dstOf ops i = some d) : d < n := by
 simp only [chk0, Bool.and_eq_true, List.all_eq_true, List.mem_range] at h
 have := h.1.1 i (dst_lt hd)
 rw [hd] at this
 simpa [Nat.blt_eq] using this
theorem chk0_inj {ops : Array Oper} {n : Nat} (h : chk0 ops n = true) {i j d : Nat} (hi : dstOf ops i = some d) (hj : dstOf ops j = some d) : i = j := by
 simp only [chk0, Bool.and_eq_true, List.all_eq_true, List.mem_range] at h
 have key : ∀ i j, dstOf ops i = some d → dstOf ops j = some d → ¬ j < i := fun i j hi hj hlt => by
  have := h.2 i (dst_lt hi) j hlt
  rw [hi, hj] at this
  simp [Nat.beq_refl] at this
 have h1 := key i j hi hj
 have h2 := key j i hj hi
 omega
section
variable {ops : Array Oper} {F0 : Frm} {p : Ph} {Vl : Vals} {li : Array Bool} {a : Act} {w : World}
theorem Mid.frm (h : Mid C ops F0 p Vl L li a w) {i : Nat} (hi : i ∈ Region.ready .any ops li) : Fr (frmOf ops Vl F0 i) C a := by
 obtain ⟨h1, h2, h3⟩ := ready_spec hi
 refine ⟨h.df, h.n, fun s v hs => ?_⟩
 unfold frmOf at hs
 rw [lk_append] at hs
 cases hp : lk (predF ops Vl (preds ops i)) s with
 | some u =>
  rw [hp] at hs
  simp at hs; subst hs
  obtain ⟨j, hj, hd, hv⟩ := lk_pred _ _ _ _ _ hp
  obtain ⟨v', hv', ht⟩ := h.vals j (h3 j hj) s hd
  rw [hv] at hv'; cases hv'; exact ht
 | none =>
  rw [hp] at hs
  simp at hs
  obtain ⟨ho, hb⟩ := lk_base _ _ _ _ _ hs
  refine h.base s v hb fun j hj hd => ?_
  simp only [okb, List.all_eq_true, List.mem_range] at ho
  have := ho j (dst_lt hd)
  rw [hd] at this
  simp only [Nat.beq_refl, Bool.not_true, Bool.false_or, Bool.or_eq_true, List.contains_iff_mem] at this
  rcases this with h4 | h4
  ·
   obtain rfl := Nat.eq_of_beq_eq_true h4; rw [h2] at hj; cases hj
  ·
   have := h.closed j hj i h4; rw [h2] at this; cases this
theorem Mid.must (h : Mid C ops F0 p Vl L li a w) (hc : p.chk ops = true) {n : Nat} (h0 : chk0 ops n = true) {i : Nat} (hi : i ∈ p.mu) : li[i]? = some true := by
 simp only [Ph.chk, Bool.and_eq_true, List.all_eq_true] at hc
 have hmu := hc.1.1.2
 have key : ∀ m i, ops.size ≤ i + m → i ∈ p.mu → li[i]? = some true := by
  intro m
  induction m with
  | zero =>
   intro i hm hi
   obtain ⟨j, hj, hb⟩ := List.any_eq_true.1 (hmu i hi)
   simp only [Bool.and_eq_true, List.contains_iff_mem] at hb
   have := chk0_lt h0 hb.2; omega
  | succ m ih =>
   intro i hm hi
   obtain ⟨j, hj, hb⟩ := List.any_eq_true.1 (hmu i hi)
   simp only [Bool.and_eq_true, List.contains_iff_mem] at hb
   have hlt := chk0_lt h0 hb.2
   have hjl : li[j]? = some true := by
    rcases List.mem_append.1 hj with h1 | h1
    ·
     exact h.pre j h1
    ·
     exact ih j (by omega) h1
   exact h.closed j hjl i hb.2
 exact key ops.size i (by omega) hi
theorem Mid.put (h : Mid C ops F0 p Vl L li a w) (h0 : chk0 ops C.n = true) {i : Nat} (hi : i ∈ Region.ready .any ops li) {p' : Ph} {Vl' : Vals} {L' : List Ent} {w' : World} {u : Value}
  (hV : ∀ j v, lk Vl j = some v → lk Vl' j = some v) (hu : lk Vl' i = some u) (hpre : ∀ c ∈ p'.pre, c ∈ p.pre ∨ c = i) (hex : ∀ j, j ∈ p.pre ∨ j ∈ p.av → j ∈ p'.pre ∨ j ∈ p'.av) (hiex : i ∈ p'.pre ∨ i ∈ p'.av)
  (hw : Hp C.w0 C.M L' w') : Mid C ops F0 p' Vl' L' (li.setIfInBounds i true) (a.put (dstOf ops i) u) w' := by
 obtain ⟨h1, h2, h3⟩ := ready_spec hi
 have hil : i < li.size := by rw [h.size]; exact h1
 have hset : ∀ j, (li.setIfInBounds i true)[j]? = some true ↔ j = i ∨ li[j]? = some true := fun j => by
  rw [Array.getElem?_setIfInBounds]
  by_cases hji : i = j
  ·
   subst hji; simp [hil]
  ·
   simp [hji, Ne.symm hji]
 refine ⟨by simp [h.size], fun j hj k hk => ?_, fun c hc => ?_, fun j hj => ?_, ?_, ?_, fun j hj d hd => ?_, fun s v hs hn => ?_, hw⟩
 ·
  rw [hset]
  rcases (hset j).1 hj with rfl | hj
  ·
   exact .inr (h3 k hk)
  ·
   exact .inr (h.closed j hj k hk)
 ·
  rw [hset]
  rcases hpre c hc with h4 | h4
  ·
   exact .inr (h.pre c h4)
  ·
   exact .inl h4
 ·
  rcases (hset j).1 hj with rfl | hj
  ·
   exact hiex
  ·
   exact hex j (h.ex j hj)
 ·
  cases dstOf ops i <;> simp [Act.put, h.df]
 ·
  cases dstOf ops i <;> simp [Act.put, h.n]
 ·
  by_cases hji : j = i
  ·
   subst hji
   refine ⟨u, hu, ?_⟩
   rw [hd]
   simp [Act.put, h.n, chk0_n h0 hd]
  ·
   have hjl : li[j]? = some true := ((hset j).1 hj).resolve_left hji
   obtain ⟨v, hv, ht⟩ := h.vals j hjl d hd
   refine ⟨v, hV j v hv, ?_⟩
   cases hdi : dstOf ops i with
   | none => simpa [Act.put] using ht
   | some e =>
    have hne : e ≠ d := fun he => hji (chk0_inj h0 hd (he ▸ hdi))
    simp only [Act.put]
    rw [Array.getElem?_setIfInBounds_ne hne]; exact ht
 ·
  have hb := h.base s v hs fun j hj => hn j ((hset j).2 (.inr hj))
  have hns := hn i ((hset i).2 (.inl rfl))
  cases hdi : dstOf ops i with
  | none => simpa [Act.put] using hb
  | some e =>
   have hne : e ≠ s := fun he => hns (he ▸ hdi)
   simp only [Act.put]
   rw [Array.getElem?_setIfInBounds_ne hne]; exact hb
theorem QAll.get : ∀ {q : List Nat}, QAll C ops Q F0 Vl L q → ∀ i ∈ q, ∃ v, lk Vl i = some v ∧ Qok C ops Q (frmOf ops Vl F0 i) L i v
 | [], _, i, hi => by simp at hi
 | j :: r, h, i, hi => by
  rcases List.mem_cons.1 hi with rfl | hi
  ·
   exact h.1
  ·
   exact h.2.get i hi
theorem wpAny_of_DP (h0 : chk0 ops C.n = true) : ∀ (fuel : Nat) (k : Nat) (p0 : Ph) (pre av : List Nat) (Vl : Vals) (L : List Ent) (li : Array Bool) (a : Act) (w : World), cnt li.toList ≤ fuel →
  p0.pre = pre → p0.av = av → Mid C ops F0 p0 Vl L li a w → DP C ops Q F0 k pre av Vl L → wpAnyIn (Fc C.rd) 0 C.P .any ops Q fuel li a w := by
 intro fuel
 have hdone : ∀ (k : Nat) (p : Ph) (Vl : Vals) (L : List Ent) (li : Array Bool) (a : Act) (w : World), Mid C ops F0 p Vl L li a w → p.chk ops = true → (p.cs = [] → JQ C Q .normal (endF ops Vl F0) L) → Region.ready .any ops li = [] → Q .normal a w := by
  intro k p Vl L li a w hm hc hd hr
  have hall : ∀ m i, i < m → i < ops.size → li[i]? = some true := by
   intro m
   induction m with
   | zero => intro i h; omega
   | succ m ih =>
    intro i him hi
    cases hx : li[i]? with
    | none => have := Array.getElem?_eq_none_iff.1 hx; rw [hm.size] at this; omega
    | some b =>
     cases b with
     | true => rfl
     | false =>
      have := ready_of hi hx fun j hj => ih j (by have := (chk0_lt h0 hj).1; omega) (by have := chk0_lt h0 hj; omega)
      rw [hr] at this; simp at this
  cases hpc : p.cs with
  | cons c cs =>
   exfalso
   simp only [Ph.chk, Bool.and_eq_true, List.all_eq_true, Bool.not_eq_true'] at hc
   have hcc := hc.1.2 c (by rw [hpc]; simp)
   have hcs : c < ops.size := by simpa [Nat.blt_eq] using hcc.2
   rcases hm.ex c (hall _ c (Nat.lt_succ_self c) hcs) with h1 | h1
   ·
    have := hcc.1.1; rw [← Bool.not_eq_true, List.contains_iff_mem] at this; exact this h1
   ·
    have := hcc.1.2; rw [← Bool.not_eq_true, List.contains_iff_mem] at this; exact this h1
  | nil =>
   refine hd hpc a w ⟨hm.df, hm.n, fun s v hs => ?_⟩ hm.heap
   unfold endF at hs
   rw [lk_append] at hs
   cases hp : lk (predF ops Vl (List.range ops.size)) s with
   | some u =>
    rw [hp] at hs
    simp at hs; subst hs
    obtain ⟨j, hj, hd, hv⟩ := lk_pred _ _ _ _ _ hp
    obtain ⟨v', hv', ht⟩ := hm.vals j (hall _ j (Nat.lt_succ_self j) (by simpa using hj)) s hd
    rw [hv] at hv'; cases hv'; exact ht
   | none =>
    rw [hp] at hs
    simp at hs
    obtain ⟨ho, hb⟩ := lk_base _ _ _ _ _ hs
    refine hm.base s v hb fun j hj hd => ?_
    simp only [okb, List.all_eq_true, List.mem_range] at ho
    have hjs := dst_lt hd
    have := ho j hjs
    rw [hd] at this
    simp only [Nat.beq_refl, Bool.not_true, Bool.false_or, Bool.or_eq_true, List.contains_iff_mem] at this
    rcases this with h4 | h4
    ·
     have := Nat.eq_of_beq_eq_true h4; omega
    ·
     have := chk0_lt h0 h4; omega
 have hin : ∀ {p0 p : Ph} {pre av : List Nat} {Vl : Vals} {L : List Ent} {li : Array Bool} {a : Act} {w : World}, p0.pre = pre → p0.av = av → p.pre = pre → (av.all fun i => p.av.contains i) = true → Mid C ops F0 p0 Vl L li a w → Mid C ops F0 p Vl L li a w := by
  intro p0 p pre av Vl L li a w h1 h2 h3 h4 hm
  refine ⟨hm.size, hm.closed, fun c hc => hm.pre c (by rw [h1, ← h3]; exact hc), fun j hj => ?_, hm.df, hm.n, hm.vals, hm.base, hm.heap⟩
  rcases hm.ex j hj with h5 | h5
  ·
   exact .inl (by rw [h3, ← h1]; exact h5)
  ·
   rw [h2] at h5
   simp only [List.all_eq_true, List.contains_iff_mem] at h4
   exact .inr (h4 j h5)
 induction fuel with
 | zero =>
  intro k p0 pre av Vl L li a w hf e1 e2 hm hd
  have hr : Region.ready .any ops li = [] := by
   rw [List.eq_nil_iff_forall_not_mem]
   intro i hi
   obtain ⟨h1, h2, h3⟩ := ready_spec hi
   have := cnt_zero li.toList (by omega) i false (by simpa using h2)
   cases this
  cases k with
  | zero => exact hd.elim
  | succ k =>
   obtain ⟨p, hp, hav, hc, _, he, _⟩ := hd
   exact ⟨hr, hdone k p Vl L li a w (hin e1 e2 hp hav hm) hc he hr⟩
 | succ fuel ih =>
  intro k p0 pre av Vl L li a w hf e1 e2 hm hd
  cases k with
  | zero => exact hd.elim
  | succ k =>
  obtain ⟨p, hp, hav, hc, hq, he, hd⟩ := hd
  replace hm := hin e1 e2 hp hav hm
  refine ⟨hdone k p Vl L li a w hm hc he, fun i hi => ?_⟩
  have hfr := hm.frm hi
  obtain ⟨h1, h2, h3⟩ := ready_spec hi
  have hcnt : cnt (li.setIfInBounds i true).toList ≤ fuel := by
   have := cnt_set li.toList i (by simpa using h2)
   rw [Array.toList_setIfInBounds]; omega
  have hc' := hc
  simp only [Ph.chk, Bool.and_eq_true, List.all_eq_true, List.mem_range] at hc
  by_cases hic : i ∈ p.cs
  ·
   -- one of the chain's next
   obtain ⟨hVn, R, hR, hk⟩ := hd i hic
   refine hR a w hfr hm.heap _ fun v L' w' hv hw' => ?_
   obtain ⟨ex, hD⟩ := hk v L' hv
   have hVn : lk Vl i = none := by simpa using hVn
   have hVi : lk (Vl ++ (i, v) :: ex) i = some v := by rw [lk_append, hVn]; simp [lk, Nat.beq_refl]
   refine ih k ⟨pre ++ [i], p.av, [], [], []⟩ (pre ++ [i]) p.av _ L' _ _ w' hcnt rfl rfl (hm.put h0 hi (fun j u hj => by rw [lk_append, hj]; rfl) hVi (fun c hc => ?_) (fun j hj => ?_) ?_ hw') hD
   ·
    rcases List.mem_append.1 hc with h4 | h4
    ·
     exact .inl (by rw [hp]; exact h4)
    ·
     exact .inr (by simpa using h4)
   ·
    rcases hj with h4 | h4
    ·
     exact .inl (by rw [← hp]; exact List.mem_append.2 (.inl h4))
    ·
     exact .inr h4
   ·
    exact .inl (List.mem_append.2 (.inr (by simp)))
  ·
   have hav : i ∈ p.av := by
    have := hc.1.1.1 i h1
    simp only [Bool.or_eq_true, List.contains_iff_mem, List.any_eq_true, Bool.not_eq_true'] at this
    rcases this with ((h4 | h4) | h4) | h4
    ·
     have := hm.pre i h4; rw [h2] at this; cases this
    ·
     exact h4
    ·
     exact absurd h4 hic
    ·
     obtain ⟨j, hj, hn⟩ := h4
     exfalso
     simp only [Bool.or_eq_false_iff] at hn
     rcases hm.ex j (h3 j hj) with h5 | h5
     ·
      have := hn.1; rw [← Bool.not_eq_true, List.contains_iff_mem] at this; exact this h5
     ·
      have := hn.2; rw [← Bool.not_eq_true, List.contains_iff_mem] at this; exact this h5
   have hqi : i ∈ p.q := by
    have := hc.2 i hav
    simp only [Bool.or_eq_true, List.contains_iff_mem] at this
    rcases this with h4 | h4
    ·
     have := hm.must hc' h0 h4; rw [h2] at this; cases this
    ·
     exact h4
   obtain ⟨v, hv, hQ⟩ := hq.get i hqi
   have hd1 : DP C ops Q F0 (k + 1) pre p.av Vl L := ⟨p, hp, by simp, hc', hq, he, hd⟩
   exact hQ a w hfr hm.heap _ (ih (k + 1) p pre p.av Vl L _ _ w hcnt hp rfl (hm.put h0 hi (fun _ _ h => h) hv (fun c hc => .inl hc) (fun _ h => h) (.inr hav) hm.heap) hd1)
end
theorem JC_draw {id : Nat} {l : List Oper} (n k : Nat) (Vl : Vals) (hm : C.P.follows .mixedOrders = true) (hn : C.n = n) (h0 : chk0 l.toArray n = true) (h : DP C l.toArray Q F k [] [] Vl L) : JC C Q (.region id l.toArray true) F L := by
 subst hn
 intro a w ha hw
 refine wpIn_region_any hm (wpAny_of_DP h0 _ k ⟨[], [], [], [], []⟩ [] [] Vl L _ a _ ?_ rfl rfl ?_ h)
 ·
  have : ∀ m, cnt (List.replicate m false) = m := by
   intro m; induction m with
   | zero => rfl
   | succ m ih => simp only [List.replicate_succ, cnt, ih]; simp; omega
  rw [Array.toList_replicate, this]; exact Nat.le_refl _
 ·
  refine ⟨by simp, fun j hj => ?_, fun c hc => by simp at hc, fun j hj => ?_, ha.1, ha.2.1, fun j hj => ?_, fun s v hs _ => ha.2.2 s v hs, hw.drewN _⟩
  all_goals
   rw [Array.getElem?_replicate] at hj
   split at hj <;> simp at hj
end Go.Sx
namespace Go.Sx
open Go Go.RowKit
variable {C : Cx} {F : Frm} {L : List Ent} {Q : Exit → Act → World → Prop} {ops : Array Oper} {F0 : Frm} {Vl : Vals}
theorem DP_end {k : Nat} {pre av : List Nat} (p : Ph) (hp : p.pre = pre) (ha : (av.all fun i => p.av.contains i) = true) (hc : p.chk ops = true) (hcs : p.cs = []) (hq : QAll C ops Q F0 Vl L p.q)
  (h : JQ C Q .normal (endF ops Vl F0) L) : DP C ops Q F0 (k + 1) pre av Vl L :=
 ⟨p, hp, ha, hc, hq, fun _ => h, fun c h => by rw [hcs] at h; simp at h⟩
theorem DP_one {k : Nat} {pre av : List Nat} (p : Ph) (c : Nat) (R : Value → List Ent → Prop) (hp : p.pre = pre) (ha : (av.all fun i => p.av.contains i) = true) (hc : p.chk ops = true) (hcs : p.cs = [c]) (hq : QAll C ops Q F0 Vl L p.q)
  (hV : (lk Vl c).isNone = true) (hR : Cok C ops Q (frmOf ops Vl F0 c) L c R) (h : ∀ v L', R v L' → ∃ ex, DP C ops Q F0 k (pre ++ [c]) p.av (Vl ++ (c, v) :: ex) L') : DP C ops Q F0 (k + 1) pre av Vl L :=
 ⟨p, hp, ha, hc, hq, fun h => by rw [hcs] at h; simp at h, fun c' h' => by
  rw [hcs] at h'
  obtain rfl : c' = c := by simpa using h'
  exact ⟨hV, R, hR, h⟩⟩
theorem DP_oneE {k : Nat} {pre av : List Nat} {b : Value} {M : List Ent} (p : Ph) (c : Nat) (hp : p.pre = pre) (ha : (av.all fun i => p.av.contains i) = true) (hc : p.chk ops = true) (hcs : p.cs = [c]) (hq : QAll C ops Q F0 Vl L p.q)
    (hV : (lk Vl c).isNone = true) (hR : Cok C ops Q (frmOf ops Vl F0 c) L c fun v L' => v = b ∧ L' = M) (h : DP C ops Q F0 k (pre ++ [c]) p.av (Vl ++ (c, b) :: []) M) : DP C ops Q F0 (k + 1) pre av Vl L :=
  DP_one p c _ hp ha hc hcs hq hV hR fun v L' hR => by
    obtain ⟨h1, h2⟩ := hR
    rw [h1, h2]; exact ⟨[], h⟩
theorem DP_two {k : Nat} {pre av : List Nat} (p : Ph) (c d : Nat) (R S : Value → List Ent → Prop) (hp : p.pre = pre) (ha : (av.all fun i => p.av.contains i) = true) (hc : p.chk ops = true) (hcs : p.cs = [c, d]) (hq : QAll C ops Q F0 Vl L p.q)
  (hV : (lk Vl c).isNone = true) (hV' : (lk Vl d).isNone = true) (hR : Cok C ops Q (frmOf ops Vl F0 c) L c R) (hS : Cok C ops Q (frmOf ops Vl F0 d) L d S)
  (h : ∀ v L', R v L' → ∃ ex, DP C ops Q F0 k (pre ++ [c]) p.av (Vl ++ (c, v) :: ex) L') (h' : ∀ v L', S v L' → ∃ ex, DP C ops Q F0 k (pre ++ [d]) p.av (Vl ++ (d, v) :: ex) L') : DP C ops Q F0 (k + 1) pre av Vl L :=
 ⟨p, hp, ha, hc, hq, fun h => by rw [hcs] at h; simp at h, fun c' h0 => by
  rw [hcs] at h0
  rcases List.mem_cons.1 h0 with rfl | h0
  ·
   exact ⟨hV, R, hR, h⟩
  ·
   obtain rfl : c' = d := by simpa using h0
   exact ⟨hV', S, hS, h'⟩⟩
theorem BT {T : TypeId} {x y : Operand} {ty : TypeId} (i b off n : Nat) (cs : List Value) (T' : Nat) (v : Value) (vs cs' : List Value)
  (hi : L[i]? = some ⟨b, cs, T', (0, 0)⟩) (hx : ev F x = some (Ptr b off)) (hy : ev F y = some v) (hv : v.cells.toList = vs) (hS : ∀ w, (sizeOf T).run C.P w = .ok n w) (hn : vs.length = n)
  (h1 : ∀ u ∈ vs, u.oneCell' = true) (hle : off + n ≤ cs.length) (hcs : lay cs off vs = cs') :
  Step C F L (.store T x y) ty fun v L' => v = undef ∧ L' = L.set i ⟨b, cs', T', (0, 0)⟩ := Step_run fun a w ha hw d pos aft g => by
 have hE : w.heap[b]? = some (.cells cs.toArray T' (0, 0)) := hw.ent ⟨b, cs, T', (0, 0)⟩ (List.mem_of_getElem? hi)
 refine ⟨undef, _, w.setRow b cs'.toArray, ⟨rfl, rfl⟩, hw.setRow hi cs', .inr ⟨rfl, ?_⟩⟩
 have hst := run_storeCells_at C.P b off T' vs 0 cs.toArray w hE (by simpa [hn] using hle) h1
 have hsz : v.cells.size = n := by rw [← Array.length_toList, hv, hn]
 simp only [Nat.add_zero] at hst
 have hl : List.take off cs ++ vs ++ List.drop (off + vs.length) cs = cs' := hcs
 rw [hl] at hst
 simp [execOp, ha.ev hx, ha.ev hy, Instr.storeAt, Instr.sureAddr, storeVar, hS w, hsz, hv, hst]
theorem AB {T : TypeId} {x y : Operand} {ty : TypeId} (i b n : Nat) (cs : List Value) (T' : Nat) (vs : List Value)
  (hi : L[i]? = some ⟨b, cs, T', (0, 0)⟩) (hx : ev F x = some (Ptr b 0)) (hy : ev F y = some (.agg vs.toArray)) (hS : ∀ w, (sizeOf T).run C.P w = .ok n w) (hn : vs.length = n)
  (h1 : ∀ u ∈ vs, u.oneCell' = true) (hle : 0 + n ≤ cs.length) (hcs : lay cs 0 vs = vs) :
  Step C F L (.store T x y) ty fun v L' => v = undef ∧ L' = L.set i ⟨b, vs, T', (0, 0)⟩ := BT i b 0 n cs T' (.agg vs.toArray) vs vs hi hx hy (by first | rfl | simp [Value.cells]) hS hn h1 hle hcs
theorem AS {T : TypeId} {ty : TypeId} (z : Value) (vs : List Value) (hz : ∀ w, (zeroValue T).run C.P w = .ok z w) (hv : z.cells.toList = vs) :
  Step C F L (.alloc T) ty fun v L' => ∃ nb, C.w0.heap.size ≤ nb ∧ v = Ptr nb 0 ∧ L' = L ++ [⟨nb, vs, T, (0, 0)⟩] := Step_run fun a w ha hw d pos aft g => by
 have : z.cells = vs.toArray := by rw [← hv]
 exact ⟨Ptr w.heap.size 0, _, w.alloc (.cells vs.toArray T), ⟨w.heap.size, hw.le, rfl, rfl⟩, hw.alloc vs T, .inl (by simp [execOp, Instr.alloc, hz w, newVar, newRow, newObj, Sem.run, this])⟩
theorem B2 {T : TypeId} {x : Operand} {ty : TypeId} (v : Value) (vs : List Value) (hx : ev F x = some v) (hv : v.cells.toList = vs) :
  Step C F L (.box T x) ty fun v L' => ∃ nb, C.w0.heap.size ≤ nb ∧ v = Ptr nb 0 ∧ L' = L ++ [⟨nb, vs, T, (0, 0)⟩] := Step_run fun a w ha hw d pos aft g => by
 have : v.cells = vs.toArray := by rw [← hv]
 exact ⟨Ptr w.heap.size 0, _, w.alloc (.cells vs.toArray T), ⟨w.heap.size, hw.le, rfl, rfl⟩, hw.alloc vs T, .inl (by simp [execOp, Instr.box, ha.ev hx, newVar, newRow, newObj, Sem.run, this])⟩
theorem AJ {op : Op} {ty : TypeId} (f : FuncId) (args : List Value) (res : Value)
  (hc : Cl C F L op ty f args.toArray) (hct : ∀ w, Hp C.w0 C.M L w → Calls C.P f args.toArray w (Post w [] fun v L' => v = res ∧ L' = [])) :
  Step C F L op ty fun v L' => v = res ∧ L' = L := fun a w ha hw d pos aft g Kk Q hk =>
 BE f args.toArray [] [] _ hc (by simp [take?]) hct a w ha hw d pos aft g Kk Q (by
  rintro v L' w' ⟨L'', ⟨rfl, rfl⟩, rfl⟩ hw'
  exact hk _ _ w' ⟨rfl, by simp [rest?]⟩ hw')
theorem A5 {op : Op} {ty : TypeId} (f : FuncId) (args : List Value) (R : Value → List Ent → Prop)
  (hc : Cl C F L op ty f args.toArray) (hct : ∀ w, Hp C.w0 C.M L w → Calls C.P f args.toArray w (Post w [] R)) :
  Step C F L op ty fun v L' => ∃ L'', R v L'' ∧ L' = L ++ L'' := fun a w ha hw d pos aft g Kk Q hk =>
 BE f args.toArray [] [] _ hc (by simp [take?]) hct a w ha hw d pos aft g Kk Q (by
  rintro v L' w' ⟨L'', hR, rfl⟩ hw'
  exact hk _ _ w' ⟨L'', hR, by simp [rest?]⟩ hw')
theorem BF {T len : Nat} {parts : Array (Nat × Operand)} {ty : TypeId} (e s : Nat) (z : Value) (pv : List (Nat × Value)) (vs : List Value) (hu : C.P.underlying T = some (.slice e)) (hS : ∀ w, (sizeOf e).run C.P w = .ok s w)
  (hz : ∀ w, (zeroValue e).run C.P w = .ok z w) (hp : parts.toList.map (fun x => (x.1, ev F x.2)) = pv.map (fun x => (x.1, some x.2))) (hlen : Nat.ble (len * s) (2 ^ 24) = true) (h0 : Nat.beq (len * s) 0 = false)
  (hf : Instr.fill (fun i => some (i * s, s)) ((Array.range (len * s)).map (fun j => z.cells[j % z.cells.size]!)) pv = some vs.toArray) :
  Step C F L (.buildSlice T len parts) ty fun v L' => ∃ nb, C.w0.heap.size ≤ nb ∧ v = Slc nb 0 len len ∧ L' = L ++ [⟨nb, vs, e, (0, 0)⟩] := Step_run fun a w ha hw d pos aft g => by
 have hpv : (parts.map fun (i, x) => (i, a.eval x)).toList = pv := by
  rw [Array.toList_map]
  generalize parts.toList = l at hp
  clear hf
  induction l generalizing pv with
  | nil => cases pv <;> simp_all
  | cons o l ih =>
   cases pv with
   | nil => simp at hp
   | cons v pv =>
    simp only [List.map_cons, List.cons.injEq, Prod.mk.injEq] at hp
    obtain ⟨⟨h1, h2⟩, h3⟩ := hp
    simp only [List.map_cons, ih pv h3, h1, ha.ev h2]
 refine ⟨_, _, w.alloc (.cells vs.toArray e), ⟨w.heap.size, hw.le, rfl, rfl⟩, hw.alloc vs e, .inl ?_⟩
 have hne : ¬ len * s = 0 := Nat.ne_of_beq_eq_false h0
 have hle : ¬ len * s > 2 ^ 24 := by have := Nat.le_of_ble_eq_true hlen; omega
 simp only [execOp, Instr.buildSlice, hpv, Sem.run_bind, run_underlying hu, hS w, hz w, if_neg hne, if_neg hle, hf, Result.andThen, newRow, newObj, Sem.run, Sem.run_pure, pure]
 rfl
theorem Step_buildSlice0 {T : Nat} {ty : TypeId} (e s : Nat) (hu : C.P.underlying T = some (.slice e)) (hS : ∀ w, (sizeOf e).run C.P w = .ok s w) :
  Step C F L (.buildSlice T 0 #[]) ty fun v L' => ∃ nb, C.w0.heap.size ≤ nb ∧ v = Slc nb 0 0 0 ∧ L' = L ++ [⟨nb, [], e, (0, 0)⟩] := Step_run fun a w ha hw d pos aft g => by
 refine ⟨_, _, w.alloc (.cells #[] e), ⟨w.heap.size, hw.le, rfl, rfl⟩, hw.alloc [] e, .inl ?_⟩
 simp [execOp, Instr.buildSlice, run_underlying hu, hS w, Instr.fill, newRow, newObj, Sem.run]
 rw [show Array.range 0 = #[] from by simp [Array.range]]
 simp
theorem Hp.grown {w0 w w' : World} {M : List Nat} {L : List Ent} (h : Hp w0 M L w) (g' : Option Nat) (hg : w.grownBy w' g') {m : List Bool} (hm : ∀ b, g' = some b → ∃ e ∈ take? m L, e.b = b) {g : Nat} {cs : List Value} {T : Nat}
  (hn : w'.heap[g]? = some (.cells cs.toArray T (0, 0))) (hgn : w.heap.size ≤ g ∨ ∃ e ∈ take? m L, e.b = g) : Hp w0 M (rest? m L ++ [⟨g, cs, T, (0, 0)⟩]) w' := by
 have hp := perm_mask m L
 have hlt : ∀ x ∈ L, x.b < w.heap.size := fun x hx => (Array.getElem?_eq_some_iff.1 (h.ent x hx)).1
 have hnd : ((take? m L ++ rest? m L).map Ent.b).Nodup := (hp.map Ent.b).nodup_iff.1 h.nd
 rw [List.map_append, List.nodup_append] at hnd
 obtain ⟨hn0, hnr, hdis⟩ := hnd
 have hr : ∀ x ∈ rest? m L, x ∈ L := fun x hx => hp.mem_iff.2 (List.mem_append.2 (.inr hx))
 have h0 : ∀ x ∈ take? m L, x ∈ L := fun x hx => hp.mem_iff.2 (List.mem_append.2 (.inl hx))
 have hrg : ∀ x ∈ rest? m L, ∀ y ∈ take? m L, x.b ≠ y.b := fun x hx y hy he => hdis _ (List.mem_map_of_mem hy) _ (List.mem_map_of_mem hx) he.symm
 refine ⟨hg.os.trans h.os, hg.tape.trans h.tape, hg.output.trans h.output, Nat.le_trans h.le hg.size, fun k hk hM => ?_, fun x hx => ?_, ?_, fun x hx => ?_⟩
 ·
  rw [hg.block k (by have := h.le; omega) (fun he => ?_)]; exact h.old k hk hM
  obtain ⟨e, hee, heb⟩ := hm k he.symm
  rcases h.own e (h0 e hee) with h1 | h1
  ·
   exact hM (heb ▸ h1)
  ·
   omega
 ·
  rcases List.mem_append.1 hx with h1 | h1
  ·
   rw [hg.block x.b (hlt x (hr x h1)) (fun he => ?_)]; exact h.ent x (hr x h1)
   obtain ⟨e, hee, heb⟩ := hm x.b he.symm
   exact hrg x h1 e hee heb.symm
  ·
   simp at h1; subst h1; exact hn
 ·
  rw [List.map_append, List.nodup_append]
  refine ⟨hnr, by simp, fun a ha c hc => ?_⟩
  simp at hc; subst hc
  obtain ⟨x, hx, rfl⟩ := List.mem_map.1 ha
  rcases hgn with h1 | ⟨e, hee, heb⟩
  ·
   have := hlt x (hr x hx); omega
  ·
   rw [← heb]; exact hrg x hx e hee
 ·
  rcases List.mem_append.1 hx with h1 | h1
  ·
   exact h.own x (hr x h1)
  ·
   simp at h1; subst h1
   rcases hgn with h1 | ⟨e, hee, heb⟩
   ·
    exact .inr (Nat.le_trans h.le h1)
   ·
    have := h.own e (h0 e hee); rw [heb] at this; exact this
theorem info_of {P : Program} {e : Nat} {z : Value} {s by' : Nat} (h : (P.info? e).map (fun i => (i.zero, i.size, i.bytes)) = some (some z, s, by')) : ∃ i, P.info? e = some i ∧ i.zero = some z ∧ i.size = s ∧ i.bytes = by' := by
 cases hi : P.info? e with
 | none => rw [hi] at h; simp at h
 | some i => rw [hi] at h; simp at h; exact ⟨i, rfl, h.1, h.2.1, h.2.2⟩
def SrcAt (C : Cx) (L : List Ent) (ao : Option Addr) (vs : List Value) : Prop :=
 (ao = none → vs = []) ∧ ∀ a', ao = some a' → ∀ w, Hp C.w0 C.M L w → ∀ j u, vs[j]? = some u → w.cell? (a'.add j) = some u
theorem SrcAt.mem {b off : Nat} {vs : List Value} (h : MemAt C L b off vs) : SrcAt C L (some ⟨b, off, none⟩) vs :=
 ⟨fun h => by simp at h, fun a' ha w hw j u hj => by simp at ha; subst ha; rw [FM]; exact h w hw j u hj⟩
theorem SrcAt.nil {ao : Option Addr} : SrcAt C L ao [] := ⟨fun _ => rfl, fun _ _ _ _ j u hj => by simp at hj⟩
theorem Step_append {x y : Operand} {ty : TypeId} (t e s bytes : Nat) (z : Value) (m : List Bool) (v : Value) (n : Nat) (xs news : List Value) (ao : Option Addr) (k c : Nat)
  (hu : C.P.underlying t = some (.slice e)) (hi : (C.P.info? e).map (fun i => (i.zero, i.size, i.bytes)) = some (some z, s, bytes)) (hzs : z.cells.size = s) (hs0 : 0 < s)
  (hx : ev F x = some v)
  (hv : (v = .slice none 0 0 ∧ n = 0 ∧ xs = [] ∧ take? m L = [] ∧ 0 < k) ∨ (∃ g sp cap, v = Slc g 0 n cap ∧ take? m L = [⟨g, xs ++ sp, e, (0, 0)⟩] ∧ xs.length = n * s ∧ (xs ++ sp).length = cap * s ∧ n ≤ cap ∧ cap ≤ maxLen))
  (hy : ev F y = some (.slice ao k c)) (hk : news.length = k * s) (hm : SrcAt C L ao news) (h1 : ∀ u ∈ news, u.oneCell' = true) (hmax : (n + k) * bytes ≤ 140737488355328) (hmax' : n + k ≤ maxLen) :
  Step C F L (.call { callee := .builtin .append, args := #[x, y], argTypes := #[t, t] }) ty fun v' L' => ∃ g sp cap, (C.w0.heap.size ≤ g ∨ g ∈ C.M) ∧ v' = Slc g 0 (n + k) cap ∧ L' = rest? m L ++ [⟨g, xs ++ news ++ sp, e, (0, 0)⟩] ∧ (xs ++ news).length = (n + k) * s ∧ (xs ++ news ++ sp).length = cap * s ∧ n + k ≤ cap ∧ cap ≤ maxLen :=
 Step_run fun a w ha hw d pos aft g => by
 obtain ⟨i, hi1, hi2, hi3, hi4⟩ := info_of hi
 have hp := perm_mask m L
 have h0 : ∀ x ∈ take? m L, x ∈ L := fun x hx => hp.mem_iff.2 (List.mem_append.2 (.inl hx))
 have he := ha.ev hx
 have he' := ha.ev hy
 -- what every way leaves
 have key : ∀ (v' : Value) (w' : World) (base : Nat) (row : Option Nat), (v' = .slice none 0 0 → False) → (Builtin.append_ #[t, t] ty #[v, .slice ao k c]).run C.P w = .ok v' w' → w'.ownsRow base e s v' (n + k) (xs ++ news) → w.grownBy w' row →
   (∀ b, row = some b → ∃ e ∈ take? m L, e.b = b) → (∀ g cap, v' = Slc g 0 (n + k) cap → w.heap.size ≤ g ∨ ∃ e ∈ take? m L, e.b = g) →
   ∃ v'' L' w'', (∃ g sp cap, (C.w0.heap.size ≤ g ∨ g ∈ C.M) ∧ v'' = Slc g 0 (n + k) cap ∧ L' = rest? m L ++ [⟨g, xs ++ news ++ sp, e, (0, 0)⟩] ∧ (xs ++ news).length = (n + k) * s ∧ (xs ++ news ++ sp).length = cap * s ∧ n + k ≤ cap ∧ cap ≤ maxLen) ∧ Hp C.w0 C.M L' w'' ∧
   ((execOp a.eval ⟨d, .call { callee := .builtin .append, args := #[x, y], argTypes := #[t, t] }, ty, pos, aft, g⟩).run C.P w = .ok (.value v'') w'' ∨ v'' = undef ∧ (execOp a.eval ⟨d, .call { callee := .builtin .append, args := #[x, y], argTypes := #[t, t] }, ty, pos, aft, g⟩).run C.P w = .ok .skip w'') := by
  intro v' w' base row hnn hr hown' hgr hrow hgn
  obtain ⟨hlen, hcase⟩ := hown'
  rcases hcase with ⟨h5, _⟩ | ⟨g', cap', cur, rfl, _, hh, hcap, hmaxl, hsz, htk⟩
  ·
   exact (hnn h5).elim
  ·
   have hcur : cur = (xs ++ news ++ cur.toList.drop ((n + k) * s)).toArray := by
    apply Array.toList_inj.1
    rw [← htk]; simp
   have hgn' := hgn g' cap' rfl
   refine ⟨_, _, w', ⟨g', cur.toList.drop ((n + k) * s), cap', ?_, rfl, rfl, hlen, ?_, hcap, hmaxl⟩, hw.grown row hgr hrow (by rw [← hcur]; exact hh) hgn', .inl ?_⟩
   ·
    rcases hgn' with h5 | ⟨e', he1, rfl⟩
    ·
     exact .inl (Nat.le_trans hw.le h5)
    ·
     rcases hw.own e' (h0 e' he1) with h6 | h6
     ·
      exact .inr h6
     ·
      exact .inl h6
   ·
    have := congrArg Array.size hcur
    rw [hsz] at this
    simpa using this.symm
   ·
    simp [execOp, resolve, invoke, he, he', builtin, hr]
 cases ao with
 | none =>
  -- nothing is appended
  obtain rfl := hm.1 rfl
  have hk0 : k = 0 := by
   cases k with
   | zero => rfl
   | succ k => simp only [List.length_nil, Nat.succ_mul] at hk; omega
  subst hk0
  rcases hv with ⟨rfl, rfl, rfl, htk, hkp⟩ | ⟨g1, sp, cap, rfl, ht, hl, hl2, hc, hcm⟩
  ·
   omega
  ·
   have hE := hw.ent ⟨g1, xs ++ sp, e, (0, 0)⟩ (h0 _ (by rw [ht]; simp))
   have hr : (Builtin.append_ #[t, t] ty #[Slc g1 0 n cap, .slice none 0 c]).run C.P w = .ok (Slc g1 0 n cap) w := by
    simp [Builtin.append_, run_underlying hu, sizeOf, typeInfo, hi1, Builtin.lenOf, hc, Builtin.firstCells, storeCells]
   refine key _ w 0 none (fun h => by simp at h) hr ⟨by simpa using hl, .inr ⟨g1, cap, (xs ++ sp).toArray, rfl, Nat.zero_le _, hE, hc, hcm, by simpa using hl2, by rw [Nat.add_zero, ← hl]; simp⟩⟩ ⟨rfl, rfl, rfl, Nat.le_refl _, fun _ _ _ => rfl⟩ (fun b hb => by simp at hb) fun g cap' hvv => .inr ⟨⟨g1, xs ++ sp, e, (0, 0)⟩, by rw [ht]; simp, ?_⟩
   simp at hvv; exact hvv.1
 | some ad =>
 have hsrc : ∀ j u, news[j]? = some u → w.cell? (ad.add j) = some u := fun j u hj => hm.2 ad rfl w hw j u hj
 rcases hv with ⟨rfl, rfl, rfl, htk, hkp⟩ | ⟨g1, sp, cap, rfl, ht, hl, hl2, hc, hcm⟩
 ·
  obtain ⟨v', w', hr, hown', hgr, hnil⟩ := run_append_own (P := C.P) w w.heap.size t ty e i z s bytes hu hi1 hi2 hi3 hi4 hzs hs0 _ 0 [] (World.ownsRow_nil _ _ _ _) ad k c news hk hsrc h1 hmax' hmax (Nat.le_refl _)
  have hnn : v' = .slice none 0 0 → False := fun h => by have := (hnil.1 h).2; omega
  refine key v' w' _ _ hnn hr hown' hgr (fun b hb => by simp [Value.ownBlock] at hb) fun g cap hvv => ?_
  rcases hown'.2 with ⟨h5, _⟩ | ⟨g', cap', cur, h5, h6, _⟩
  ·
   exact (hnn h5).elim
  ·
   rw [hvv] at h5; simp at h5; exact .inl (by omega)
 ·
  have hE := hw.ent ⟨g1, xs ++ sp, e, (0, 0)⟩ (h0 _ (by rw [ht]; simp))
  have hown : w.ownsRow 0 e s (Slc g1 0 n cap) n xs := ⟨hl, .inr ⟨g1, cap, (xs ++ sp).toArray, rfl, Nat.zero_le _, hE, hc, hcm, by simpa using hl2, by rw [← hl]; simp⟩⟩
  by_cases hroom : n + k ≤ cap
  ·
   obtain ⟨w', hr, hown', hgr⟩ := run_append_fits (P := C.P) w 0 t ty e i s hu hi1 hi3 g1 n cap xs hown ad k c news hk hsrc h1 hroom
   refine key _ w' _ _ (fun h => by simp at h) hr hown' hgr (fun b hb => ⟨⟨g1, xs ++ sp, e, (0, 0)⟩, by rw [ht]; simp, by simpa using hb⟩) fun g cap' hvv => .inr ⟨⟨g1, xs ++ sp, e, (0, 0)⟩, by rw [ht]; simp, ?_⟩
   simp at hvv; exact hvv.1
  ·
   obtain ⟨v', w', hr, hown', hgr⟩ := run_append_arg_grows (P := C.P) w t ty e i z s bytes hu hi1 hi2 hi3 hi4 hzs hs0 ⟨g1, 0, none⟩ n cap xs hl (fun j u hj => by
    rw [FM]
    simp only [World.cell?, hE]
    have hlt := (List.getElem?_eq_some_iff.1 hj).1
    simp [List.getElem?_append_left hlt, hj]) ad k c news hk hsrc (by omega) hmax' hmax
   have hnn : v' = .slice none 0 0 → False := fun h => by
    rcases hown'.2 with ⟨_, h5⟩ | ⟨g', cap'', cur, h5, _⟩
    ·
     omega
    ·
     rw [h] at h5; simp at h5
   refine key v' w' _ _ hnn hr hown' hgr (fun b hb => by simp at hb) fun g cap' hvv => ?_
   rcases hown'.2 with ⟨h5, _⟩ | ⟨g', cap'', cur, h5, h6, _⟩
   ·
    exact (hnn h5).elim
   ·
    rw [hvv] at h5; simp at h5; exact .inl (by omega)
theorem CP {x y : Operand} {ty : TypeId} (t t' e : Nat) (i g o dl dc : Nat) (cs : List Value) (T : Nat) (ao : Option Addr) (k c n : Nat) (news cs' : List Value)
  (hu : C.P.underlying t = some (.slice e)) (hs : (C.P.info? e).map (·.size) = some 1) (hi : L[i]? = some ⟨g, cs, T, (0, 0)⟩)
  (hx : ev F x = some (Slc g o dl dc)) (hy : ev F y = some (.slice ao k c)) (hn : Nat.min k dl = n) (hl : news.length = n) (hm : SrcAt C L ao news) (hfit : o + n ≤ cs.length) (h1 : ∀ u ∈ news, u.oneCell' = true) (hcs : lay cs o news = cs') :
  Step C F L (.call { callee := .builtin .copy, args := #[x, y], argTypes := #[t, t'] }) ty fun v' L' => v' = I64 n ∧ L' = L.set i ⟨g, cs', T, (0, 0)⟩ := Step_run fun a w ha hw d pos aft gg => by
 have hE : w.heap[g]? = some (.cells cs.toArray T (0, 0)) := hw.ent ⟨g, cs, T, (0, 0)⟩ (List.mem_of_getElem? hi)
 have he := ha.ev hx
 have he' := ha.ev hy
 refine ⟨I64 n, _, w.setRow g cs'.toArray, ⟨rfl, rfl⟩, hw.setRow hi cs', .inl ?_⟩
 have hr : (Builtin.copy_ #[t, t'] ty #[Slc g o dl dc, .slice ao k c]).run C.P w = .ok (I64 n) (w.setRow g cs'.toArray) := by
  cases ao with
  | some ad =>
   have := run_copy_row (P := C.P) w t t' ty e g o dl dc ad k c cs.toArray T news hu hs hE (by rw [hl, hn]) (fun j u hj => hm.2 ad rfl w hw j u hj) (by simpa [hl] using hfit) h1
   rw [this, hl]
   have hcs2 : List.take o cs ++ news ++ List.drop (o + n) cs = cs' := by rw [← hcs, lay, hl]
   simp only [hcs2, goInt]
  | none =>
   obtain rfl := hm.1 rfl
   have hn0 : n = 0 := by simpa using hl.symm
   subst hn0
   have hcs2 : cs' = cs := by rw [← hcs]; simp [lay]
   have hset : w.setRow g cs.toArray = w := by
    have hh : (w.setRow g cs.toArray).heap = w.heap := by
     apply Array.ext_getElem?
     intro j
     by_cases hj : j = g
     ·
      subst hj; rw [setRow_heap _ _ _ _ _ _ hE, hE]
     ·
      exact setRow_other w g j _ hj
    have h2 : w.setRow g cs.toArray = { w with heap := (w.setRow g cs.toArray).heap } := rfl
    rw [h2, hh]
   rw [hcs2, hset]
   cases hq : C.P.info? e with
   | none => simp [hq] at hs
   | some inf => simp [Builtin.copy_, run_underlying hu, Builtin.lenOf, Builtin.firstCells, sizeOf, typeInfo, hq, storeCells, hn, goInt]
 simp [execOp, resolve, invoke, he, he', builtin, hr]
end Go.Sx
namespace Go.Sx
open Go Go.RowKit
variable {C : Cx} {F : Frm} {L : List Ent}
section
variable {P : Program} {w : World}
theorem run_eqItems_u8 (d : Nat) {e : TypeId} (he : P.underlying e = some (.int .u8)) (hA : ∀ w, (isAgg e).run P w = .ok false w) (a b : List UInt8) : ∀ (is : List Nat), (∀ i ∈ is, i < a.length ∧ i < b.length) →
  (Op.eqItems (d + 1) e 1 (cu8 a).toArray (cu8 b).toArray is).run P w = .ok (is.all fun i => decide (g8 a i = g8 b i)) w
 | [], _ => by simp [Op.eqItems]
 | i :: is, h => by
  have hi := h i (by simp)
  have pa : (part e (cu8 a).toArray (i * 1)).run P w = .ok (U8 (g8 a i)) w := by
   simp [part, hA w, g8_get hi.1]
  have pb : (part e (cu8 b).toArray (i * 1)).run P w = .ok (U8 (g8 b i)) w := by
   simp [part, hA w, g8_get hi.2]
  have pe := run_equalIn_int (P := P) w d e .u8 .u8 (g8 a i).toNat (g8 b i).toNat he
  have e1 : (((g8 a i).toNat : Int) == ((g8 b i).toNat : Int)) = decide (g8 a i = g8 b i) := by rw [Bool.eq_iff_iff]; simp [← UInt8.toNat_inj]; omega
  rw [e1] at pe
  simp only [Op.eqItems, Sem.run_bind, pa, pb, pe, Result.andThen_ok, List.all_cons]
  cases hd : decide (g8 a i = g8 b i) with
  | false => simp
  | true => simpa using run_eqItems_u8 d he hA a b is (fun j hj => h j (List.mem_cons_of_mem _ hj))
theorem all_g8 {a b : List UInt8} {n : Nat} (ha : a.length = n) (hb : b.length = n) : ((List.range n).all fun i => decide (g8 a i = g8 b i)) = decide (a = b) := by
 rw [Bool.eq_iff_iff]
 simp only [List.all_eq_true, List.mem_range, decide_eq_true_eq]
 constructor
 ·
  intro h
  apply List.ext_getElem (by omega)
  intro i h1 h2
  have := h i (by omega)
  rw [g8_eq h1, g8_eq h2] at this; exact this
 ·
  rintro rfl i _; rfl
theorem equalIn_arr8 (d : Nat) {T e : TypeId} {n : Nat} (hu : P.underlying T = some (.array n e)) (he : P.underlying e = some (.int .u8)) (hA : ∀ w, (isAgg e).run P w = .ok false w) (hc : P.cellsOf e = 1) (hi : (P.info? e).isSome = true) {a b : List UInt8} (ha : a.length = n) (hb : b.length = n) :
  (Op.equalIn (d + 2) T (.agg (cu8 a).toArray) (.agg (cu8 b).toArray)).run P w = .ok (decide (a = b)) w := by
 obtain ⟨i, hi⟩ := Option.isSome_iff_exists.1 hi
 rw [run_equalIn_array (P := P) w (d + 1) _ _ hu hi, hc, run_eqItems_u8 d he hA a b _ (fun i hi => by have := List.mem_range.1 hi; omega), all_g8 ha hb]
theorem equal_arr8 {T e : TypeId} {n : Nat} (hu : P.underlying T = some (.array n e)) (he : P.underlying e = some (.int .u8)) (hA : ∀ w, (isAgg e).run P w = .ok false w) (hc : P.cellsOf e = 1) (hi : (P.info? e).isSome = true) {a b : List UInt8} (ha : a.length = n) (hb : b.length = n) :
  (Op.equal T (.agg (cu8 a).toArray) (.agg (cu8 b).toArray)).run P w = .ok (decide (a = b)) w := equalIn_arr8 9998 hu he hA hc hi ha hb
theorem eql_arr8 {T e : TypeId} {n : Nat} (hu : P.underlying T = some (.array n e)) (he : P.underlying e = some (.int .u8)) (hA : ∀ w, (isAgg e).run P w = .ok false w) (hc : P.cellsOf e = 1) (hi : (P.info? e).isSome = true) {a b : List UInt8} (ha : a.length = n) (hb : b.length = n) :
  (binOp .eql T (.agg (cu8 a).toArray) (.agg (cu8 b).toArray)).run P w = .ok (.bool (decide (a = b))) w := eql_of (by simp [binOp]) (equal_arr8 hu he hA hc hi ha hb)
theorem neq_arr8 {T e : TypeId} {n : Nat} (hu : P.underlying T = some (.array n e)) (he : P.underlying e = some (.int .u8)) (hA : ∀ w, (isAgg e).run P w = .ok false w) (hc : P.cellsOf e = 1) (hi : (P.info? e).isSome = true) {a b : List UInt8} (ha : a.length = n) (hb : b.length = n) :
  (binOp .neq T (.agg (cu8 a).toArray) (.agg (cu8 b).toArray)).run P w = .ok (.bool (!decide (a = b))) w := neq_of (by simp [binOp]) (equal_arr8 hu he hA hc hi ha hb)
end
end Go.Sx
namespace Go.Sx
open Go Go.RowKit
variable {C : Cx} {F : Frm} {L : List Ent}
theorem Seg.get1 {cs : List Value} {off n : Nat} {v : Value} (h : Seg cs off [v]) (hn : n = off) : cs[n]? = some v := by
 subst hn; simpa using h 0 v (by simp)
theorem EC {cs vs : List Value} {off o n : Nat} (h : Seg cs off vs) (hn : vs.length = n) (ho : o = off) : (cs.drop o).take n = vs := by
 subst ho
 apply List.ext_getElem?
 intro j
 rw [List.getElem?_take, List.getElem?_drop]
 split
 ·
  rename_i hj
  obtain ⟨v, hv⟩ : ∃ v, vs[j]? = some v := ⟨vs[j]'(by omega), by simp [hn, hj]⟩
  rw [hv, h j v hv]
 ·
  rw [List.getElem?_eq_none (by omega)]
theorem BP {b off o o' : Nat} {cs vs : List Value} (h : MemAt C L b off cs) (hs : Seg cs o vs) (ho : off + o = o') : MemAt C L b o' vs := fun w hw j v hj => by
 have := h w hw (o + j) v (hs j v hj)
 rw [← ho, Nat.add_assoc]; exact this
def spl {α : Type} (l : List α) (o : Nat) (v : List α) : List α := l.take o ++ v ++ l.drop (o + v.length)
theorem g8_app (a b : List UInt8) (j : Nat) : g8 (a ++ b) j = if j < a.length then g8 a j else g8 b (j - a.length) := by
 simp only [g8, List.getD_eq_getElem?_getD, List.getElem?_append]
 split <;> rfl
theorem g8_drop (l : List UInt8) (o j : Nat) : g8 (l.drop o) j = g8 l (o + j) := by
 simp [g8, List.getD_eq_getElem?_getD, List.getElem?_drop]
theorem g8_take {l : List UInt8} {n j : Nat} (h : j < n) : g8 (l.take n) j = g8 l j := by
 simp [g8, List.getD_eq_getElem?_getD, List.getElem?_take, h]
end Go.Sx
namespace Go.Sx
open Go Go.RowKit
theorem Post.law {w w' : World} {e : Ending} (h : Post w [] (fun v L => v = .bool true ∧ L = []) e w') : e = .returned (.bool true) ∧ Below w.heap.size w w' := by
 obtain ⟨v, L, he, ⟨rfl, rfl⟩, hp⟩ := h
 exact ⟨he, hp.below⟩
theorem wf_u8 {a : Int} (h : (Lit.int .u8 a).wf = true) : ∃ u : UInt8, a = (u.toNat : Int) := by
 have := bounds_u8 h
 refine ⟨UInt8.ofNat a.toNat, ?_⟩
 rw [show (UInt8.ofNat a.toNat).toNat = a.toNat from by simp; omega]
 omega
theorem wf_u32 {a : Int} (h : (Lit.int .u32 a).wf = true) : ∃ u : UInt32, a = (u.toNat : Int) := by
 have := bounds_u32 h
 refine ⟨UInt32.ofNat a.toNat, ?_⟩
 rw [show (UInt32.ofNat a.toNat).toNat = a.toNat from by simp; omega]
 omega
theorem wf_u64 {a : Int} (h : (Lit.int .u64 a).wf = true) : ∃ u : UInt64, a = (u.toNat : Int) := by
 have := bounds_u64 h
 refine ⟨UInt64.ofNat a.toNat, ?_⟩
 rw [show (UInt64.ofNat a.toNat).toNat = a.toNat from by simp; omega]
 omega
variable {C : Cx} {F : Frm} {L : List Ent}
theorem DN {T ty : TypeId} {parts : Array (Nat × Operand)} (pv : List (Nat × Value)) (v : Value) (hp : parts.toList.map (fun x => (x.1, ev F x.2)) = pv.map (fun x => (x.1, some x.2)))
  (hr : ∀ w, (Instr.build T pv.toArray).run C.P w = .ok v w) : Ev C F L (.build T parts) ty v := fun a w ha _ d pos aft g => by
 have hpv : (parts.map fun (i, x) => (i, a.eval x)) = pv.toArray := by
  apply Array.toList_inj.1
  rw [Array.toList_map]
  generalize parts.toList = l at hp
  clear hr
  induction l generalizing pv with
  | nil => cases pv <;> simp_all
  | cons o l ih =>
   cases pv with
   | nil => simp at hp
   | cons v pv =>
    simp only [List.map_cons, List.cons.injEq, Prod.mk.injEq] at hp
    obtain ⟨⟨h1, h2⟩, h3⟩ := hp
    simp [ih pv h3, h1, ha.ev h2]
 simp [execOp, hpv, hr w]
theorem Ev_assert {T A ty : TypeId} {x : Operand} {ok : Bool} (vx v : Value) (hx : ev F x = some vx) (hr : ∀ w, (Instr.typeAssert vx T A ok).run C.P w = .ok v w) : Ev C F L (.typeAssert x T A ok) ty v := fun a w ha _ d pos aft g => by
 simp [execOp, ha.ev hx, hr w]
theorem lay_left {p q vs p' : List Value} {o : Nat} (h : o + vs.length ≤ p.length) (hp : lay p o vs = p') : lay (p ++ q) o vs = p' ++ q := by
 subst hp
 simp only [lay]
 rw [List.take_append_of_le_length (by omega), List.drop_append_of_le_length (by omega)]
 simp
theorem DB {p q vs q' : List Value} {o : Nat} (n o' : Nat) (hn : p.length = n) (ho : o = n + o') (hq : lay q o' vs = q') : lay (p ++ q) o vs = p ++ q' := by
 subst hq
 subst hn
 subst ho
 simp only [lay]
 rw [List.take_append, List.take_of_length_le (by omega), Nat.add_assoc, List.drop_append, List.drop_of_length_le (by omega)]
 simp [Nat.add_sub_cancel_left]
def RdB (w : World) (M : List Nat) (ao : Option Addr) (z : List UInt8) : Prop :=
 z = [] ∨ ∃ b off, ao = some ⟨b, off, none⟩ ∧ b < w.heap.size ∧ b ∉ M ∧ ∀ j v, (cu8 z)[j]? = some v → w.cell? ⟨b, off + j, none⟩ = some v
theorem RdB.nil {w : World} {M : List Nat} {ao : Option Addr} : RdB w M ao [] := .inl rfl
theorem RdB.pos {w : World} {M : List Nat} {ao : Option Addr} {z : List UInt8} (h : RdB w M ao z) (hz : 0 < z.length) :
  ∃ b off, ao = some ⟨b, off, none⟩ ∧ b < w.heap.size ∧ b ∉ M ∧ ∀ j v, (cu8 z)[j]? = some v → w.cell? ⟨b, off + j, none⟩ = some v := by
 rcases h with rfl | h
 ·
  simp at hz
 ·
  exact h
theorem RdB.src {ao : Option Addr} {z : List UInt8} (h : RdB C.w0 C.M ao z) : SrcAt C L ao (cu8 z) := by
 rcases h with rfl | ⟨b, off, rfl, hb, hM, hm⟩
 ·
  exact SrcAt.nil
 ·
  exact SrcAt.mem (MemAt.base hb hM hm)
theorem lt_of_cell {w : World} {b o : Nat} {v : Value} (h : w.cell? ⟨b, o, none⟩ = some v) : b < w.heap.size := by
 by_cases hb : b < w.heap.size
 ·
  exact hb
 ·
  have : w.heap[b]? = none := by simp; omega
  simp [World.cell?, this] at h
theorem RdB.of {w : World} {M : List Nat} {b off : Nat} {z : List UInt8} (hw : Hp C.w0 C.M L w) (h : MemAt C L b off (cu8 z)) (hM : z ≠ [] → b ∉ M) : RdB w M (some ⟨b, off, none⟩) z := by
 by_cases hz : z = []
 ·
  exact .inl hz
 ·
  refine .inr ⟨b, off, rfl, ?_, hM hz, fun j v hj => h w hw j v hj⟩
  obtain ⟨x, r, rfl⟩ := List.exists_cons_of_ne_nil hz
  exact lt_of_cell (h w hw 0 _ (by simp [cu8]; rfl))
theorem RdB.at {w : World} {M M' : List Nat} {ao : Option Addr} {z : List UInt8} (hw : Hp C.w0 C.M L w) (h : RdB C.w0 C.M ao z) (hM : ∀ b, b < C.w0.heap.size → b ∉ C.M → b ∉ M) : RdB w M ao z := by
 rcases h with rfl | ⟨b, off, rfl, hb, hm, hc⟩
 ·
  exact .inl rfl
 ·
  exact RdB.of hw (MemAt.base hb hm hc) (fun _ => hM b hb hm)
theorem RdB.slice {w : World} {M : List Nat} {ao : Option Addr} {z : List UInt8} {c : Nat} (h : RdB w M ao z) (i j : Nat) (hj : j ≤ z.length) (hc : z.length ≤ c) : RdB w M (if c = i then ao else ao.map (·.add (i * 1))) ((z.drop i).take (j - i)) := by
 rcases h with rfl | ⟨b, off, rfl, hb, hm, hcell⟩
 ·
  exact .inl (by simp)
 ·
  by_cases hi : i < j
  ·
   rw [if_neg (by omega)]
   refine .inr ⟨b, off + i, by simp [Addr.add], hb, hm, fun k v hk => ?_⟩
   have := hcell (i + k) v (by
    simp only [cu8, List.getElem?_map, List.getElem?_take, List.getElem?_drop] at hk ⊢
    split at hk
    ·
     exact hk
    ·
     simp at hk)
   rw [Nat.add_assoc]; exact this
  ·
   exact .inl (by simp; omega)
theorem C5 {op : Op} {ty : TypeId} (f : FuncId) (args : List Value) (i : Nat) (e : Ent) (R : Value → List Ent → Prop) (S : Value → Ent → List Ent → Prop)
  (hc : Cl C F L op ty f args.toArray) (hi : L[i]? = some e) (hR : ∀ v l, R v l → ∃ e' l', l = e' :: l' ∧ e'.b = e.b ∧ S v e' l') (hct : ∀ w, Hp C.w0 C.M L w → Calls C.P f args.toArray w (Post w [e.b] R)) :
  Step C F L op ty fun v L' => ∃ e' l', S v e' l' ∧ L' = L.set i e' ++ l' := by
 have hil : i < L.length := (List.getElem?_eq_some_iff.1 hi).1
 have hie : L[i] = e := (List.getElem?_eq_some_iff.1 hi).2
 have htake : ∀ (l : List Ent) (i : Nat) (e : Ent), l[i]? = some e → take? ((List.replicate i false) ++ [true]) l = [e] ∧ rest? ((List.replicate i false) ++ [true]) l = l.eraseIdx i := by
  intro l
  induction l with
  | nil => intro i e h; simp at h
  | cons x l ih =>
   intro i e h
   cases i with
   | zero => simp at h; subst h; cases l <;> simp [take?, rest?]
   | succ i =>
    simp at h
    have := ih i e h
    simp [List.replicate_succ, take?, rest?, this.1, this.2]
 obtain ⟨ht, hr⟩ := htake L i e hi
 intro a w ha hw d pos aft g Kk Q hk
 refine BE f args.toArray _ [e.b] R hc (by rw [ht]; rfl) hct a w ha hw d pos aft g Kk Q ?_
 rintro v L' w' ⟨L'', hR', rfl⟩ hw'
 obtain ⟨e', l', rfl, hb, hS⟩ := hR v L'' hR'
 refine hk v _ w' ⟨e', l', hS, rfl⟩ (hw'.sub ?_ ?_)
 ·
  intro x hx
  rw [hr]
  rcases List.mem_append.1 hx with h | h
  ·
   obtain ⟨j, hj, rfl⟩ := List.mem_iff_getElem.1 h
   rw [List.getElem_set]
   split
   ·
    simp
   ·
    rename_i hne
    refine List.mem_append_left _ ?_
    rw [List.mem_eraseIdx_iff_getElem]
    exact ⟨j, by simpa using hj, fun h => hne h.symm, rfl⟩
  ·
   simp [h]
 ·
  have hnd := hw'.nd
  rw [hr, List.map_append, List.map_cons] at hnd
  rw [List.map_append]
  have h1 : (L.set i e').map Ent.b = L.map Ent.b := by
   rw [List.map_set, hb, ← hie]
   apply List.ext_getElem (by simp)
   intro j h1 h2
   rw [List.getElem_set]
   split
   ·
    rename_i h; subst h; simp
   ·
    rfl
  rw [h1]
  have hp : (L.map Ent.b).Perm ((L.eraseIdx i).map Ent.b ++ [e.b]) := by
   have h2 : L.Perm (L.eraseIdx i ++ [e]) := by
    have h3 : L = L.take i ++ e :: L.drop (i + 1) := by
     rw [← hie, List.getElem_cons_drop, List.take_append_drop]
    rw [List.eraseIdx_eq_take_drop_succ]
    conv => lhs; rw [h3]
    rw [List.append_assoc]
    exact List.Perm.append_left _ (List.perm_append_comm (l₁ := [e]))
   simpa using h2.map Ent.b
  have hp2 : (L.map Ent.b ++ l'.map Ent.b).Perm ((L.eraseIdx i).map Ent.b ++ e'.b :: l'.map Ent.b) := by
   have := hp.append_right (l'.map Ent.b)
   rw [List.append_assoc] at this
   rw [hb]
   exact this
  exact hp2.nodup_iff.2 hnd
end Go.Sx
namespace Go.Sx
open Go Go.RowKit
variable {C : Cx} {F : Frm} {L : List Ent}
theorem take?_sub : ∀ (m : List Bool) (L : List Ent), (take? m L).Sublist L
 | [], L => by cases L <;> simp [take?]
 | true :: m, [] => by simp [take?]
 | false :: m, [] => by simp [take?]
 | true :: m, e :: l => by simp only [take?]; exact (take?_sub m l).cons_cons e
 | false :: m, e :: l => by simp only [take?]; exact (take?_sub m l).cons e
theorem D7 {φ : Act → World → Prop} (m : List Bool) (h : K C F (take? m L) φ) : K C F L φ := fun a w ha hw =>
 h a w ha (hw.sub (fun e he => (take?_sub m L).subset he) (List.Sublist.nodup ((take?_sub m L).map Ent.b) hw.nd))
theorem Step_append8 {x y : Operand} {ty : TypeId} (t e : Nat) (m : List Bool) (v : Value) (n : Nat) (l z : List UInt8) (ao : Option Addr) (k c : Nat)
  (hu : C.P.underlying t = some (.slice e)) (hi : (C.P.info? e).map (fun i => (i.zero, i.size, i.bytes)) = some (some (.int .u8 0), 1, 1))
  (hx : ev F x = some v)
  (hv : (v = .slice none 0 0 ∧ n = 0 ∧ l = [] ∧ take? m L = [] ∧ 0 < k) ∨ (∃ g sp cap, v = Slc g 0 n cap ∧ take? m L = [⟨g, cu8 l ++ sp, e, (0, 0)⟩] ∧ l.length = n ∧ sp.length = cap - n ∧ n ≤ cap ∧ cap ≤ maxLen))
  (hy : ev F y = some (.slice ao k c)) (hk : z.length = k) (hm : SrcAt C L ao (cu8 z)) (hmax : (n + k) * 1 ≤ 140737488355328) (hmax' : n + k ≤ maxLen) :
  Step C F L (.call { callee := .builtin .append, args := #[x, y], argTypes := #[t, t] }) ty fun v' L' => ∃ g sp cap, (C.w0.heap.size ≤ g ∨ g ∈ C.M) ∧ v' = Slc g 0 (n + k) cap ∧ L' = rest? m L ++ [⟨g, cu8 (l ++ z) ++ sp, e, (0, 0)⟩] ∧ (l ++ z).length = n + k ∧ sp.length = cap - (n + k) ∧ n + k ≤ cap ∧ cap ≤ maxLen := by
 have h := Step_append (C := C) (F := F) (L := L) (x := x) (y := y) (ty := ty) t e 1 1 (.int .u8 0) m v n (cu8 l) (cu8 z) ao k c hu hi rfl (by decide) hx
  (by
   rcases hv with ⟨h1, h2, h3, h4, h5⟩ | ⟨g, sp, cap, h1, h2, h3, h4, h5, h6⟩
   ·
    exact .inl ⟨h1, h2, by subst h3; rfl, h4, h5⟩
   ·
    exact .inr ⟨g, sp, cap, h1, h2, by simp [h3], by simp [h3, h4]; omega, h5, h6⟩)
  hy (by simp [hk]) hm A6 hmax hmax'
 have hl : l.length = n := by
  rcases hv with ⟨h1, h2, h3, h4, h5⟩ | ⟨g, sp, cap, h1, h2, h3, h4, h5, h6⟩
  ·
   subst h3; simp [h2]
  ·
   exact h3
 intro a w ha hw d pos aft g Kk Q hq
 refine h a w ha hw d pos aft g Kk Q ?_
 rintro v' L' w' ⟨g, sp, cap, h1, h2, h3, h4, h5, h6, h7⟩ hw'
 refine hq v' L' w' ⟨g, sp, cap, h1, h2, by rw [h3, cu8_app], by simp [hl, hk], ?_, h6, h7⟩ hw'
 simp [hl, hk] at h5; omega
theorem Step_append64 {x y : Operand} {ty : TypeId} (t e : Nat) (m : List Bool) (v : Value) (n : Nat) (l z : List UInt64) (ao : Option Addr) (k c : Nat)
  (hu : C.P.underlying t = some (.slice e)) (hi : (C.P.info? e).map (fun i => (i.zero, i.size, i.bytes)) = some (some (.int .u64 0), 1, 8))
  (hx : ev F x = some v)
  (hv : (v = .slice none 0 0 ∧ n = 0 ∧ l = [] ∧ take? m L = [] ∧ 0 < k) ∨ (∃ g sp cap, v = Slc g 0 n cap ∧ take? m L = [⟨g, cu64 l ++ sp, e, (0, 0)⟩] ∧ l.length = n ∧ sp.length = cap - n ∧ n ≤ cap ∧ cap ≤ maxLen))
  (hy : ev F y = some (.slice ao k c)) (hk : z.length = k) (hm : SrcAt C L ao (cu64 z)) (hmax : (n + k) * 8 ≤ 140737488355328) (hmax' : n + k ≤ maxLen) :
  Step C F L (.call { callee := .builtin .append, args := #[x, y], argTypes := #[t, t] }) ty fun v' L' => ∃ g sp cap, (C.w0.heap.size ≤ g ∨ g ∈ C.M) ∧ v' = Slc g 0 (n + k) cap ∧ L' = rest? m L ++ [⟨g, cu64 (l ++ z) ++ sp, e, (0, 0)⟩] ∧ (l ++ z).length = n + k ∧ sp.length = cap - (n + k) ∧ n + k ≤ cap ∧ cap ≤ maxLen := by
 have h := Step_append (C := C) (F := F) (L := L) (x := x) (y := y) (ty := ty) t e 1 8 (.int .u64 0) m v n (cu64 l) (cu64 z) ao k c hu hi rfl (by decide) hx
  (by
   rcases hv with ⟨h1, h2, h3, h4, h5⟩ | ⟨g, sp, cap, h1, h2, h3, h4, h5, h6⟩
   ·
    exact .inl ⟨h1, h2, by subst h3; rfl, h4, h5⟩
   ·
    exact .inr ⟨g, sp, cap, h1, h2, by simp [h3], by simp [h3, h4]; omega, h5, h6⟩)
  hy (by simp [hk]) hm EB hmax hmax'
 have hl : l.length = n := by
  rcases hv with ⟨h1, h2, h3, h4, h5⟩ | ⟨g, sp, cap, h1, h2, h3, h4, h5, h6⟩
  ·
   subst h3; simp [h2]
  ·
   exact h3
 intro a w ha hw d pos aft g Kk Q hq
 refine h a w ha hw d pos aft g Kk Q ?_
 rintro v' L' w' ⟨g, sp, cap, h1, h2, h3, h4, h5, h6, h7⟩ hw'
 refine hq v' L' w' ⟨g, sp, cap, h1, h2, by rw [h3, cu64_app], by simp [hl, hk], ?_, h6, h7⟩ hw'
 simp [hl, hk] at h5; omega
end Go.Sx
namespace Go.Sx
open Go Go.RowKit
variable {C : Cx} {F : Frm} {L : List Ent}
def mid {α : Type} (l : List α) (o n : Nat) : List α := (l.drop o).take n
theorem EK {α : Type} {l : List α} {o n : Nat} (h : o + n ≤ l.length) : (mid l o n).length = n := by simp [mid]; omega
theorem CI {l : List UInt8} {n : Nat} (h : l.length = n) : (cu8 l).length = n := by simp [h]
theorem some_i64 {a b : Int} (h : a = b) : some (I64 a) = some (I64 b) := by rw [h]
theorem heap_lt {w : World} {b : Nat} {o : Obj} (h : w.heap[b]? = some o) : b < w.heap.size := by
 by_cases hb : b < w.heap.size
 ·
  exact hb
 ·
  have : w.heap[b]? = none := by simp; omega
  rw [this] at h; cases h
theorem Hp.heap {w0 w : World} {M : List Nat} {b : Nat} {o : Obj} (hw : Hp w0 M L w) (h : w0.heap[b]? = some o) (hM : b ∉ M) : w.heap[b]? = some o := by
 rw [hw.old b (heap_lt h) hM]; exact h
theorem MemAt.heap {b T : Nat} {cs : List Value} (h : C.w0.heap[b]? = some (.cells cs.toArray T (0, 0))) (hM : b ∉ C.M) : MemAt C L b 0 cs :=
 MemAt.base (heap_lt h) hM fun j v hj => by
  rw [Nat.zero_add]
  simp only [World.cell?, h]
  simpa using hj
def RdA (w : World) (b off : Nat) (vs : List Value) : Prop := b < w.heap.size ∧ ∀ j v, vs[j]? = some v → w.cell? ⟨b, off + j, none⟩ = some v
theorem RdA.mem {b off : Nat} {vs : List Value} (h : RdA C.w0 b off vs) (hM : b ∉ C.M) : MemAt C L b off vs := MemAt.base h.1 hM h.2
theorem RdA.of {w : World} {b off : Nat} {vs : List Value} (hw : Hp C.w0 C.M L w) (h : MemAt C L b off vs) (hz : 0 < vs.length) : RdA w b off vs :=
 ⟨lt_of_cell (h w hw 0 vs[0] (by simp [hz])), fun j v hj => h w hw j v hj⟩
def zr8 (n : Nat) : List UInt8 := List.replicate n 0
abbrev V4 : List Value := V2 0 0 0 none 0 0 none 0 0 0 (zr8 16)
abbrev V5 : List Value := V1 0 0 none 0 0 0 0 0 0 0 none 0 0 none 0 0 0 (zr8 16) 0
abbrev V6 : List Value := V0 0 0 0 none 0 0 false 0 0 0 none 0 0 none 0 0 0 (zr8 16) none 0 0 none 0 0
abbrev V7 : List Value := V3 false 0 (zr8 32) (zr8 16)
theorem AN (n : Nat) : (zr8 n).length = n := by simp [zr8]
theorem segm_u8 {l : List UInt8} (o n : Nat) (h : o + n ≤ l.length) : Seg (cu8 l) o (cu8 (mid l o n)) := seg_u8_mid o n h
theorem g8_mid {l : List UInt8} {o n j : Nat} (h : j < n) : g8 (mid l o n) j = g8 l (o + j) := by rw [mid, g8_take h, g8_drop]
end Go.Sx
namespace Go.Sx
open Go Go.RowKit
variable {C : Cx} {F : Frm} {L : List Ent}
def pick : List Nat → List Ent → List Ent
 | [], _ => []
 | i :: p, L => match L[i]? with
  | some e => e :: pick p L
  | none => pick p L
theorem mem_pick : ∀ (p : List Nat) (L : List Ent) (e : Ent), e ∈ pick p L → ∃ i ∈ p, L[i]? = some e
 | [], L, e, h => by simp [pick] at h
 | i :: p, L, e, h => by
  simp only [pick] at h
  split at h
  ·
   rename_i x hx
   rcases List.mem_cons.1 h with rfl | h
   ·
    exact ⟨i, by simp, hx⟩
   ·
    obtain ⟨j, hj, he⟩ := mem_pick p L e h
    exact ⟨j, List.mem_cons_of_mem _ hj, he⟩
  ·
   obtain ⟨j, hj, he⟩ := mem_pick p L e h
   exact ⟨j, List.mem_cons_of_mem _ hj, he⟩
theorem nd_pick : ∀ (p : List Nat) (L : List Ent), p.Nodup → (L.map Ent.b).Nodup → ((pick p L).map Ent.b).Nodup
 | [], L, _, _ => by simp [pick]
 | i :: p, L, hp, hL => by
  have hp' := List.nodup_cons.1 hp
  simp only [pick]
  split
  ·
   rename_i x hx
   rw [List.map_cons, List.nodup_cons]
   refine ⟨fun hm => ?_, nd_pick p L hp'.2 hL⟩
   obtain ⟨e, he, hb⟩ := List.mem_map.1 hm
   obtain ⟨j, hj, hje⟩ := mem_pick p L e he
   obtain ⟨hi1, hi2⟩ := List.getElem?_eq_some_iff.1 hx
   obtain ⟨hj1, hj2⟩ := List.getElem?_eq_some_iff.1 hje
   have : (L.map Ent.b)[i]'(by simpa using hi1) = (L.map Ent.b)[j]'(by simpa using hj1) := by simp [hi2, hj2, hb]
   have hij := (List.getElem_inj hL).1 this
   subst hij
   exact hp'.1 hj
  ·
   exact nd_pick p L hp'.2 hL
theorem K_pick {φ : Act → World → Prop} (p : List Nat) (hp : p.Nodup) (h : K C F (pick p L) φ) : K C F L φ := fun a w ha hw =>
 h a w ha (hw.sub (fun e he => by obtain ⟨i, _, hi⟩ := mem_pick p L e he; exact List.mem_of_getElem? hi) (nd_pick p L hp hw.nd))
theorem Hp.pick {w0 w : World} {M : List Nat} (p : List Nat) (hp : p.Nodup) (hw : Hp w0 M L w) : Hp w0 M (Sx.pick p L) w :=
 hw.sub (fun e he => by obtain ⟨i, _, hi⟩ := mem_pick p L e he; exact List.mem_of_getElem? hi) (nd_pick p L hp hw.nd)
theorem eqGuard_nn {P : Program} {w : World} (op : BinOp) (t : TypeId) (x : Operand) (v : Value) : (eqGuard op t x (.const v) .nilIface .nilIface).run P w = .ok () w := by cases op <;> simp [eqGuard]
end Go.Sx
namespace Go.Sx
open Go Go.RowKit
open Go.ChangeShapes Go.WideShapes
section
variable {H : Type} {enc : TypeId × Value → H} {P : Program} {w : World} {base : Nat} {spare : Nat → Bool} {held : Bool} {r : Reach} {b0 : Nat}
theorem all_u8 : ∀ (L : List Value), (∀ i, i < L.length → ∃ u : UInt8, L[i]? = some (.int .u8 u.toNat)) → ∃ l : List UInt8, L = cu8 l
 | [], _ => ⟨[], rfl⟩
 | x :: L, h => by
  obtain ⟨u, hu⟩ := h 0 (by simp)
  simp at hu
  obtain ⟨l, hl⟩ := all_u8 L (fun i hi => by have := h (i + 1) (by simp; omega); simpa using this)
  exact ⟨u :: l, by rw [hl, hu]; rfl⟩
end
end Go.Sx
namespace Go.Sx
open Go Go.RowKit
variable {C : Cx} {F : Frm} {L L0 : List Ent} {Q : Exit → Act → World → Prop} {ops : Array Oper}
theorem Hp.far {w0 w : World} {M : List Nat} {l : Nat} (hw : Hp w0 M L w) (h0 : l < w0.heap.size) (hM : l ∉ M) : ∀ e ∈ L, e.b ≠ l := fun e he h => by
 rcases hw.own e he with h1 | h1
 ·
  exact hM (h ▸ h1)
 ·
  omega
theorem Hp.putObj {w0 w : World} {M : List Nat} {D : Nat} (hw : Hp w0 M L w) (o : Obj) (hD : w0.heap.size ≤ D) (hL : ∀ e ∈ L, e.b ≠ D) : Hp w0 M L (w.putObj D o) :=
  ⟨hw.os, hw.tape, hw.output, by simpa using hw.le, fun b hb hM => by
    rw [World.putObj_heap_other (by omega)]; exact hw.old b hb hM,
   fun e he => by rw [World.putObj_heap_other (hL e he)]; exact hw.ent e he, hw.nd, hw.own⟩
theorem Hp.next {w0 w w' : World} {M : List Nat} {A S S' : List Ent} (h : Hp w0 M (A ++ S) w) (h' : Hp w (S.map Ent.b) S' w') : Hp w0 M (A ++ S') w' :=
 h.call h' List.perm_append_comm rfl
theorem Hp.then {w0 w w' : World} {M : List Nat} {L' : List Ent} (h : Hp w0 M L w) (h' : Hp w (L.map Ent.b) L' w') : Hp w0 M L' w' := by
 simpa using Hp.next (A := []) h h'
end Go.Sx
namespace Go.Sx
open Go Go.RowKit
variable {C : Cx} {F : Frm} {L : List Ent} {ty T T' : TypeId} {x y : Operand}
theorem Ev_makeFunc {f : Nat} {cap : Array Operand} {vs : List Value} (hc : cap.toList.map (ev F) = vs.map some) (hr : ∀ (w : World) (ps : Array Value), (Instr.makeFunc (.func f) #[] ps).run C.P w = .ok (.func (.func f) #[] ps) w) :
  Ev C F L (.makeFunc (.func f) #[] cap) ty (.func (.func f) #[] vs.toArray) := fun a w ha _ d pos aft g => by
 have hargs : cap.map a.eval = vs.toArray := by
  apply Array.toList_inj.1
  rw [Array.toList_map]
  generalize cap.toList = l at hc
  clear hr
  induction l generalizing vs with
  | nil => cases vs <;> simp_all
  | cons o l ih =>
   cases vs with
   | nil => simp at hc
   | cons v vs =>
    simp only [List.map_cons, List.cons.injEq] at hc
    simp [ha.ev hc.1, ih hc.2]
 simp [execOp, hargs, hr]
theorem Ev_min {t1 t2 : TypeId} {a b r : Int} (hx : ev F x = some (I64 a)) (hy : ev F y = some (I64 b)) (hr : min a b = r) :
  Ev C F L (.call { callee := .builtin .min, args := #[x, y], argTypes := #[t1, t2] }) ty (I64 r) := fun a' w ha _ d pos aft g => by
 have e1 := ha.ev hx
 have e2 := ha.ev hy
 subst hr
 simp [execOp, resolve, invoke, e1, e2, builtin, Builtin.min_, Builtin.min2]
 split <;> omega
theorem BK {ao : Option Addr} {b off l c : Nat} {i : Int} {k : IntKind} (e s : Nat) (o : Nat) (hu : C.P.underlying T = some (.slice e)) (hS : ∀ w, (sizeOf e).run C.P w = .ok s w) (hx : ev F x = some (.slice ao l c)) (hao : ao = some ⟨b, off, none⟩) (hy : ev F y = some (.int k i))
  (h0 : 0 ≤ i) (h1 : i < l) (ho : off + i.toNat * s = o) : Ev C F L (.indexAddr T x y) ty (Ptr b o) := by
 subst hao; exact Ev_indexSl e s o hu hS hx hy h0 h1 ho
theorem FD {x y : Operand} {ty : TypeId} (t e : Nat) (m : List Bool) (v : Value) (n : Nat) (l z : List UInt8) (ao : Option Addr) (k c tot : Nat)
  (hu : C.P.underlying t = some (.slice e)) (hi : (C.P.info? e).map (fun i => (i.zero, i.size, i.bytes)) = some (some (.int .u8 0), 1, 1))
  (hx : ev F x = some v)
  (hv : (v = .slice none 0 0 ∧ n = 0 ∧ l = [] ∧ take? m L = [] ∧ 0 < k) ∨ (∃ g sp cap, v = Slc g 0 n cap ∧ take? m L = [⟨g, cu8 l ++ sp, e, (0, 0)⟩] ∧ l.length = n ∧ sp.length = cap - n ∧ n ≤ cap ∧ cap ≤ maxLen))
  (hy : ev F y = some (.slice ao k c)) (hk : z.length = k) (hm : SrcAt C L ao (cu8 z)) (hmax : (n + k) * 1 ≤ 140737488355328) (hmax' : n + k ≤ maxLen) (htot : n + k = tot) :
  Step C F L (.call { callee := .builtin .append, args := #[x, y], argTypes := #[t, t] }) ty fun v' L' => ∃ g sp cap, (C.w0.heap.size ≤ g ∨ g ∈ C.M) ∧ v' = Slc g 0 tot cap ∧ L' = rest? m L ++ [⟨g, cu8 (l ++ z) ++ sp, e, (0, 0)⟩] ∧ (l ++ z).length = tot ∧ sp.length = cap - tot ∧ tot ≤ cap ∧ cap ≤ maxLen := by
 subst htot
 exact Step_append8 t e m v n l z ao k c hu hi hx hv hy hk hm hmax hmax'
theorem E9 {x y : Operand} {ty : TypeId} (t e : Nat) (m : List Bool) (v : Value) (n : Nat) (l z : List UInt64) (ao : Option Addr) (k c tot : Nat)
  (hu : C.P.underlying t = some (.slice e)) (hi : (C.P.info? e).map (fun i => (i.zero, i.size, i.bytes)) = some (some (.int .u64 0), 1, 8))
  (hx : ev F x = some v)
  (hv : (v = .slice none 0 0 ∧ n = 0 ∧ l = [] ∧ take? m L = [] ∧ 0 < k) ∨ (∃ g sp cap, v = Slc g 0 n cap ∧ take? m L = [⟨g, cu64 l ++ sp, e, (0, 0)⟩] ∧ l.length = n ∧ sp.length = cap - n ∧ n ≤ cap ∧ cap ≤ maxLen))
  (hy : ev F y = some (.slice ao k c)) (hk : z.length = k) (hm : SrcAt C L ao (cu64 z)) (hmax : (n + k) * 8 ≤ 140737488355328) (hmax' : n + k ≤ maxLen) (htot : n + k = tot) :
  Step C F L (.call { callee := .builtin .append, args := #[x, y], argTypes := #[t, t] }) ty fun v' L' => ∃ g sp cap, (C.w0.heap.size ≤ g ∨ g ∈ C.M) ∧ v' = Slc g 0 tot cap ∧ L' = rest? m L ++ [⟨g, cu64 (l ++ z) ++ sp, e, (0, 0)⟩] ∧ (l ++ z).length = tot ∧ sp.length = cap - tot ∧ tot ≤ cap ∧ cap ≤ maxLen := by
 subst htot
 exact Step_append64 t e m v n l z ao k c hu hi hx hv hy hk hm hmax hmax'
theorem Hp.right {w0 w : World} {M : List Nat} {A S : List Ent} (h : Hp w0 M (A ++ S) w) : Hp w0 M S w :=
 h.sub (fun _ he => List.mem_append.2 (.inr he)) (List.Sublist.nodup ((List.sublist_append_right A S).map Ent.b) h.nd)
end Go.Sx
namespace Go.Sx
open Go Go.RowKit
open Go.ChangeShapes Go.WideShapes
section
variable {H : Type} {enc : TypeId × Value → H} {P : Program} {w : World} {base : Nat} {spare : Nat → Bool} {held : Bool}
theorem spot_none {a : Addr} {v : Value} (h : w.cell? a = some v) : a.spot = none := by
 unfold World.cell? at h
 split at h
 ·
  split at h
  ·
   simp at h
  ·
   rename_i hs; simpa using hs
 ·
  simp at h
theorem addr_of_cell {a : Addr} {v : Value} (h : w.cell? a = some v) : a = ⟨a.block, a.off, none⟩ := by
 have := spot_none h
 cases a; simp_all
theorem cell_off {a : Addr} {v : Value} {i : Nat} (h0 : a = ⟨a.block, a.off, none⟩) (h : w.cell? (a.add i) = some v) : w.cell? ⟨a.block, a.off + i, none⟩ = some v := by
 rw [h0, FM] at h; exact h
theorem open_rd_u8 {t e : TypeId} {ao : Option Addr} {n c : Nat} {d : DataW H} {ps : List MemPlace} (ht : P.underlying t = some (.slice e)) (he : P.underlying e = some (.int .u8)) (hc : P.cellsOf e = 1)
  (hd : DataW.Trod enc P w base spare held t (.slice ao n c) d ps) : ∃ z : List UInt8, z.length = n ∧ n ≤ c ∧ c ≤ maxLen ∧ RdB w [] ao z := by
 obtain ⟨fuel, hf⟩ := hd
 rcases open_ints ht he hc hf with ⟨h1, _⟩ | ⟨a, len, cap, zs, h1, _, hlc, hcm, hzl, _, hcell, hwf⟩
 ·
  have h1' : (Value.slice ao n c) = .slice none 0 0 := by simpa [Value.cells] using h1
  cases h1'
  exact ⟨[], rfl, Nat.le_refl _, by unfold maxLen; omega, RdB.nil⟩
 ·
  have h1' : (Value.slice ao n c) = .slice (some a) len cap := by simpa [Value.cells] using h1
  cases h1'
  have hle : n ≤ zs.length := by rw [hzl]; split <;> omega
  refine ⟨(zs.take n).map fun z => UInt8.ofNat z.toNat, by simp; omega, hlc, hcm, ?_⟩
  by_cases hn : n = 0
  ·
   subst hn; exact .inl (by simp)
  ·
   have h0 := hcell 0 (by omega)
   have hadd0 : a.add 0 = a := by simp [Addr.add]
   rw [hadd0] at h0
   have ha := addr_of_cell h0
   refine .inr ⟨a.block, a.off, by rw [← ha], lt_of_cell (ha ▸ h0), by simp, fun j v hj => ?_⟩
   have hjn : j < n := by
    have := (List.getElem?_eq_some_iff.1 hj).1
    simp [cu8] at this; omega
   have hcj := hcell j (by omega)
   have hmem : zs.getD j 0 ∈ zs := by
    rw [List.getD_eq_getElem?_getD, List.getElem?_eq_getElem (by omega)]
    exact List.getElem_mem _
   obtain ⟨u, hu⟩ := wf_u8 (hwf _ hmem)
   rw [hu] at hcj
   have hj2 : (cu8 ((zs.take n).map fun z => UInt8.ofNat z.toNat))[j]? = some (U8 u) := by
    simp only [cu8, List.getElem?_map, List.getElem?_take, if_pos hjn]
    rw [List.getD_eq_getElem?_getD] at hu
    rw [List.getElem?_eq_getElem (by omega)] at hu ⊢
    simp only [Option.getD_some] at hu
    simp [hu]
   rw [hj2] at hj
   cases hj
   exact cell_off ha hcj
end
end Go.Sx
namespace Go.Sx
open Go Go.RowKit
variable {C : Cx} {Q : Exit → Act → World → Prop} {F F0 : Frm} {L : List Ent}
def CutQ {ι : Type} (C : Cx) (Q : Exit → Act → World → Prop) (FI : ι → Frm) (LI : ι → List Ent) (Pre : ι → Prop) : Exit → Act → World → Prop := fun e a w =>
 (e = .normal ∧ ∃ x, Pre x ∧ Fr (FI x) C a ∧ Hp C.w0 C.M (LI x) w) ∨ (e ≠ .normal ∧ Q e a w)
theorem ED {ι : Type} {c : Code} (FI : ι → Frm) (LI : ι → List Ent) (Pre : ι → Prop) (h1 : JC C (CutQ C Q FI LI Pre) c F L) (h2 : ∀ x, Pre x → JQ C Q .normal (FI x) (LI x)) : JC C Q c F L := fun a w ha hw => wpIn_mono (h1 a w ha hw) (by
 rintro e a w (⟨rfl, x, hp, ha, hw⟩ | ⟨_, h⟩)
 ·
  exact h2 x hp a w ha hw
 ·
  exact h)
theorem BU {ι : Type} {FI : ι → Frm} {LI : ι → List Ent} {Pre : ι → Prop} (x : ι) (hp : Pre x) (hF : Sub (FI x) F) (hL : LI x = L) : JQ C (CutQ C Q FI LI Pre) .normal F L := fun a w ha hw => .inl ⟨rfl, x, hp, ha.weaken hF, hL ▸ hw⟩
variable {ops : Array Oper} {Vl : Vals}
end Go.Sx
namespace Go.Sx
open Go Go.RowKit
def errV (T e : Nat) : Value := if e = 0 then .nilIface else .iface T (I64 e)
theorem errV_pos {T e : Nat} (h : e ≠ 0) : errV T e = .iface T (I64 e) := if_neg h
theorem errV_one {T e : Nat} : ∀ u ∈ [errV T e], u.oneCell' = true := by
 intro u hu
 obtain rfl : u = errV T e := by simpa using hu
 unfold errV
 split <;> simp [Value.oneCell']
theorem errV_cells {T e : Nat} : (errV T e).cells.toList = [errV T e] := by
 unfold errV
 split <;> rfl
section
variable {P : Program} {w : World}
theorem BL (op : BinOp) (t : TypeId) (x : Operand) (v : Value) (T e : Nat) : (eqGuard op t x (.const v) (errV T e) .nilIface).run P w = .ok () w := by
 unfold errV
 split
 ·
  exact eqGuard_nilc op t x v
 ·
  exact eqGuard_if op t x _ _ _
theorem eql_errV {t : TypeId} {ms : Array (String × TypeId)} (hu : P.underlying t = some (.interface ms)) (T e : Nat) : (binOp .eql t (errV T e) .nilIface).run P w = .ok (.bool (decide (e = 0))) w := by
 by_cases h : e = 0
 ·
  subst h; exact eql_if_nil_nil hu
 ·
  rw [errV_pos h, decide_eq_false h]; exact eql_if_nil hu
theorem CW {t : TypeId} {ms : Array (String × TypeId)} (hu : P.underlying t = some (.interface ms)) (T e : Nat) : (binOp .neq t (errV T e) .nilIface).run P w = .ok (.bool (!(decide (e = 0)))) w := by
 by_cases h : e = 0
 ·
  subst h; exact neq_if_nil_nil hu
 ·
  rw [errV_pos h, decide_eq_false h]; exact neq_if_nil hu
end
end Go.Sx
namespace Go.Proofs.YtkdpdgpphpngeaaDoor
open Go Go.Sx
open Go.Value renaming slice → SL
abbrev AM := @Tryd.underlying43
abbrev AP := @Tryd.sizeOf107
abbrev AV := @Tryd.underlying45
abbrev AW := @Tryd.sizeOf5
abbrev AZ := @Tryd.underlying27
abbrev A3 := @Tryd.zeroValue107
abbrev BB := @Tryd.underlying23
abbrev BC := @Tryd.sizeOf161
abbrev BD := @Tryd.isAgg22
abbrev BH := @Tryd.sizeOf29
abbrev BJ := @Tryd.sizeOf22
abbrev BQ := @Tryd.underlying22
abbrev BS := @Tryd.underlying5
abbrev BW := @Tryd.sizeOf164
abbrev BY := @Tryd.sizeOf54
abbrev B7 := @Tryd.underlying69
abbrev B8 := @Tryd.sizeOf38
abbrev B9 := @Tryd.isAgg65
abbrev CA := @Tryd.call109
abbrev CD := @Tryd.underlying67
abbrev CE := @Tryd.underlying34
abbrev CJ := @Tryd.underlying159
abbrev CK := @Tryd.zeroValue54
abbrev CM := @Tryd.isAgg5
abbrev CN := @Tryd.sizeOf163
abbrev CO := @Tryd.sizeOf27
abbrev CQ := @Tryd.isAgg29
abbrev CR := @Tryd.call118
abbrev CT := @Tryd.isAgg161
abbrev CU := @Tryd.isAgg27
abbrev CV := @Tryd.call126
abbrev CX := @Tryd.sizeOf26
abbrev CZ := @Tryd.sizeOf3
abbrev C0 := @Tryd.underlying64
abbrev C4 := @Tryd.sizeOf31
abbrev C6 := @Tryd.sizeOf167
abbrev C7 := @Tryd.call61
abbrev C9 := @Tryd.underlying65
abbrev DA := @Tryd.underlying24
abbrev DC := @Tryd.underlying168
abbrev DD := @Tryd.sizeOf67
abbrev DE := @Tryd.call121
abbrev DF := @Tryd.call63
abbrev DG := @Tryd.isAgg54
abbrev DI := @Tryd.sizeOf40
abbrev DK := @Tryd.underlying54
abbrev DM := @Tryd.underlying3
abbrev DO := @Tryd.zeroValue164
abbrev DQ := @Tryd.isAgg26
abbrev DU := @Tryd.sizeOf4
abbrev DW := @Tryd.sizeOf159
abbrev DX := @Tryd.zeroValue167
abbrev DY := @Tryd.zeroValue163
abbrev D1 := @Tryd.sizeOf71
abbrev D2 := @Tryd.sizeOf65
abbrev D3 := @Tryd.isAgg159
theorem ext8n {a b : List UInt8} (hl : a.length = b.length) (h : ∀ i, i < a.length → g8 a i = g8 b i) : a = b :=
 List.ext_getElem hl fun i h1 h2 => by
  have := h i h1
  rwa [g8_eq h1, g8_eq h2] at this
theorem g8_mr {f : Nat → UInt8} {n i : Nat} (h : i < n) : g8 ((List.range n).map f) i = f i := by
 rw [g8_eq (by simpa using h)]; simp
def numK (k : Nat) (x : UInt64) (j : Nat) : List UInt8 := (List.range j).map fun i => (x >>> UInt64.ofNat (8*k - 8*i - 8)).toUInt8
theorem BI (k : Nat) (x : UInt64) (j : Nat) : (numK k x j).length = j := by simp [numK]
theorem numK_zero (k : Nat) (x : UInt64) : numK k x 0 = [] := rfl
theorem numK_succ (k : Nat) (x : UInt64) (j : Nat) : numK k x (j + 1) = numK k x j ++ [(x >>> UInt64.ofNat (8*k - 8*j - 8)).toUInt8] := by
 simp [numK, List.range_succ]
theorem shr_divK (x : UInt64) (j : Nat) (h : j ≤ 7) : (x >>> UInt64.ofNat (8*j)).toNat = x.toNat / 256 ^ j := by
 have : (UInt64.ofNat (8*j)).toNat = 8*j := by rw [UInt64.toNat_ofNat']; exact Nat.mod_eq_of_lt (by omega)
 rw [UInt64.toNat_shiftRight, this, Nat.mod_eq_of_lt (by omega), Nat.shiftRight_eq_div_pow, Nat.pow_mul]
def valK (l : List UInt8) : Nat → UInt64
 | 0 => 0
 | j + 1 => (valK l j <<< 8) ||| (g8 l j).toUInt64
def rvalK (l : List UInt8) : Nat → UInt64
 | 0 => 0
 | j + 1 => rvalK l j * 256 + (g8 l j).toUInt64
theorem or_nat (a b : Nat) (hb : b < 256) : ((a * 256) ||| b) = a * 256 + b := by
 have h := Nat.shiftLeft_add_eq_or_of_lt (i := 8) (b := b) (by simpa using hb) a
 rw [Nat.shiftLeft_eq] at h
 exact h.symm
theorem shl_or (x : UInt64) (b : UInt8) : (x <<< 8) ||| b.toUInt64 = x * 256 + b.toUInt64 := by
 apply UInt64.toNat_inj.1
 have hx := UInt64.toNat_lt x
 have hb := UInt8.toNat_lt b
 rw [UInt64.toNat_or, UInt64.toNat_shiftLeft, UInt64.toNat_add, UInt64.toNat_mul, UInt8.toNat_toUInt64]
 show (x.toNat <<< (8 % 64)) % 2 ^ 64 ||| b.toNat = (x.toNat * 256 % 2 ^ 64 + b.toNat) % 2 ^ 64
 rw [Nat.shiftLeft_eq]
 have e : x.toNat * 2 ^ (8 % 64) % 2 ^ 64 = (x.toNat % 2 ^ 56) * 256 := by
  show x.toNat * 256 % 2 ^ 64 = _
  omega
 rw [e, or_nat _ _ (by omega)]
 omega
theorem rvalK_eq (l : List UInt8) : ∀ j, rvalK l j = valK l j
 | 0 => rfl
 | j + 1 => by rw [rvalK, valK, shl_or, rvalK_eq l j]
theorem valK_num (k : Nat) (x : UInt64) (hk : k ≤ 8) (hx : x.toNat / 256 ^ k = 0) : ∀ j, j ≤ k → (valK (numK k x k) j).toNat = x.toNat / 256 ^ (k - j)
 | 0, _ => by simp only [valK, Nat.sub_zero, hx]; rfl
 | j + 1, h => by
  have ih := valK_num k x hk hx j (by omega)
  have hl := UInt64.toNat_lt x
  rw [valK, shl_or, UInt64.toNat_add, UInt64.toNat_mul, ih, UInt8.toNat_toUInt64, numK, g8_mr (by omega), UInt64.toNat_toUInt8]
  have e : 8*k - 8*j - 8 = 8*(k - 1 - j) := by omega
  rw [e, shr_divK x _ (by omega)]
  have e2 : 256 ^ (k - j) = 256 ^ (k - 1 - j) * 256 := by rw [← Nat.pow_succ]; congr 1; omega
  have e3 : k - (j + 1) = k - 1 - j := by omega
  rw [e2, e3, ← Nat.div_div_eq_div_mul]
  have h4 : x.toNat / 256 ^ (k - 1 - j) ≤ x.toNat := Nat.div_le_self _ _
  generalize x.toNat / 256 ^ (k - 1 - j) = y at *
  show ((y / 256) * 256 % 2 ^ 64 + y % 2 ^ 8) % 2 ^ 64 = y
  omega
theorem valK_back (k : Nat) (x : UInt64) (hk : k ≤ 8) (hx : x.toNat / 256 ^ k = 0) : valK (numK k x k) k = x :=
 UInt64.toNat_inj.1 (by rw [valK_num k x hk hx k (Nat.le_refl _)]; simp)
theorem valK_congr {a b : List UInt8} : ∀ j, (∀ i, i < j → g8 a i = g8 b i) → valK a j = valK b j
 | 0, _ => rfl
 | j + 1, h => by rw [valK, valK, valK_congr j (fun i hi => h i (by omega)), h j (by omega)]
def erN (e k : Nat) : Nat := if e = 0 then k else e
def bitU (b : Bool) : UInt64 := if b then 1 else 0
def Szd (s : Int) : Prop := s = 1 ∨ s = 2 ∨ s = 4 ∨ s = 8
end Go.Proofs.YtkdpdgpphpngeaaDoor
namespace Go.Sx
open Go Go.RowKit
variable {C : Cx} {F : Frm} {L : List Ent}
theorem Hp.apart {w0 w : World} {M : List Nat} {L : List Ent} (h : Hp w0 M L w) (is M' : List Nat) (hM : M' = is.filterMap (fun i => (L[i]?).map Ent.b)) : ∀ b, b < w0.heap.size → b ∉ M → b ∉ M' := fun b h1 h2 h3 => by
 subst hM
 obtain ⟨i, _, hi⟩ := List.mem_filterMap.1 h3
 obtain ⟨e, he, rfl⟩ := Option.map_eq_some_iff.1 hi
 rcases h.own e (List.mem_of_getElem? he) with h4 | h4
 ·
  exact h2 h4
 ·
  omega
theorem Ev_sliceHi {T : Nat} {x hi : Operand} {ty : TypeId} {ao : Option Addr} {l c : Nat} (e s j : Nat) (hu : C.P.underlying T = some (.slice e)) (hS : ∀ w, (sizeOf e).run C.P w = .ok s w) (hx : ev F x = some (.slice ao l c))
  (hh : ev F hi = some (I64 j)) (h2 : j ≤ c) : Ev C F L (.slice T x none (some hi) none) ty (.slice ao j c) := by
 have h := Ev_sliceG (ty := ty) (L := L) (lo := none) (hi := some hi) e s 0 j hu hS hx rfl hh (Nat.zero_le _) h2
 rw [Nat.zero_mul, addr_map, ite_self, Nat.sub_zero, Nat.sub_zero] at h
 exact h
theorem Ev_sliceLo {T : Nat} {x lo : Operand} {ty : TypeId} {ao : Option Addr} {l c : Nat} (e i n' c' : Nat) (hu : C.P.underlying T = some (.slice e)) (hS : ∀ w, (sizeOf e).run C.P w = .ok 1 w) (hx : ev F x = some (.slice ao l c))
  (hl : ev F lo = some (I64 i)) (h1 : i ≤ l) (h2 : l ≤ c) (hn : l - i = n') (hc : c - i = c') : Ev C F L (.slice T x (some lo) none none) ty (.slice (if c = i then ao else ao.map (·.add (i * 1))) n' c') := by
 subst hn; subst hc
 exact Ev_sliceG (ty := ty) (L := L) (lo := some lo) (hi := none) e 1 i l hu hS hx hl rfl h1 h2
theorem ET (cs : List Value) (o : Nat) : lay cs o [] = cs := by simp [lay]
theorem ES : ∀ u ∈ ([] : List Value), u.oneCell' = true := fun u hu => by cases hu
end Go.Sx
namespace Go.Proofs.YtkdpdgpphpngeaaDoor
open Go Go.Sx
open Go.Value renaming slice → SL
theorem Tryd.mixed : Tryd.prog.follows .mixedOrders = true := by kernel_rfl
theorem FC : (Tryd.prog.info? 5).map (fun i => (i.zero, i.size, i.bytes)) = some (some (.int .u8 0), 1, 1) := by kernel_rfl
theorem BZ : (Tryd.prog.info? 5).map (·.size) = some 1 := by kernel_rfl
theorem DT : Tryd.prog.cellsOf 5 = 1 := by kernel_rfl
theorem D9 : (Tryd.prog.info? 5).isSome = true := by kernel_rfl
theorem E8 : (Tryd.prog.info? 22).map (fun i => (i.zero, i.size, i.bytes)) = some (some (.int .u64 0), 1, 8) := by kernel_rfl
theorem ZO {p : Prop} (h : p := by omega) : p := h
theorem ZM {p : Prop} (h : p := by simp) : p := h
theorem ZD {p : Prop} (h : p := by decide) : p := h
theorem ZK {p : Prop} (h : p := by decide +kernel) : p := h
theorem ZR {p : Prop} (h : p := by kernel_rfl) : p := h
theorem ZC {p : Prop} (h : p := by first | (simp [Value.oneCell']; done) | fail) : p := h
theorem ZS {p : Prop} (h : p := by first | (simp [AN]; done) | (simp [AN, BG]; done) | fail) : p := h
theorem ZT {p : Prop} (h : p := by first | exact rfl | (simp; done) | (simp [AN, *]; done) | (simp [AN, BG, *]; done) | fail) : p := h
theorem ZU {p : Prop} (h : p := by unfold Szd; omega) : p := h
theorem ZX {p : Prop} (h : p := by unfold maxLen; omega) : p := h
theorem ZA {C : Cx} {T : TypeId} {b : Bool} (h : ∀ w, (isAgg T).run C.P w = .ok b w := by first | with_reducible exact Tryd.isAgg3 | with_reducible exact BD | with_reducible exact Tryd.isAgg107 | with_reducible exact Tryd.isAgg4 | with_reducible exact Tryd.isAgg23 | with_reducible exact B9 | with_reducible exact CQ | with_reducible exact Tryd.isAgg69 | with_reducible exact Tryd.isAgg267 | with_reducible exact Tryd.isAgg24 | with_reducible exact CM | with_reducible exact Tryd.isAgg38 | with_reducible exact Tryd.isAgg67 | with_reducible exact Tryd.isAgg43 | with_reducible exact CU | with_reducible exact DG | with_reducible exact Tryd.isAgg34 | with_reducible exact CT | with_reducible exact Tryd.isAgg71 | with_reducible exact Tryd.isAgg31 | with_reducible exact Tryd.isAgg164 | with_reducible exact Tryd.isAgg40 | with_reducible exact Tryd.isAgg64 | with_reducible exact DQ | with_reducible exact Tryd.isAgg163 | with_reducible exact D3 | with_reducible exact Tryd.isAgg45 | with_reducible exact Tryd.isAgg262 | with_reducible exact Tryd.isAgg36 | with_reducible exact Tryd.isAgg268 | with_reducible exact Tryd.isAgg167 | with_reducible exact Tryd.isAgg168 | with_reducible exact Tryd.isAgg9 | with_reducible exact Tryd.isAgg282 | fail) : ∀ w, (isAgg T).run C.P w = .ok b w := h
theorem ZH {C : Cx} {T T' n : Nat} (h : ∀ w, (sizeOf T').run C.P w = .ok n w) (hT : T = T') : ∀ w, (sizeOf T).run C.P w = .ok n w := hT ▸ h
theorem ZF {C : Cx} {T n : Nat} (h : ∀ w, (sizeOf T).run C.P w = .ok n w := by first | exact ZH CZ rfl | exact ZH AP rfl | exact ZH BJ rfl | exact ZH AW rfl | exact ZH BH rfl | exact ZH DU rfl | exact ZH CO rfl | exact ZH Tryd.sizeOf23 rfl | exact ZH D2 rfl | exact ZH Tryd.sizeOf69 rfl | exact ZH BY rfl | exact ZH B8 rfl | exact ZH CX rfl | exact ZH BC rfl | exact ZH Tryd.sizeOf43 rfl | exact ZH Tryd.sizeOf267 rfl | exact ZH Tryd.sizeOf36 rfl | exact ZH Tryd.sizeOf24 rfl | exact ZH BW rfl | exact ZH DD rfl | exact ZH D1 rfl | exact ZH C4 rfl | exact ZH Tryd.sizeOf34 rfl | exact ZH CN rfl | exact ZH DI rfl | exact ZH C6 rfl | exact ZH Tryd.sizeOf64 rfl | exact ZH DW rfl | exact ZH Tryd.sizeOf168 rfl | exact ZH Tryd.sizeOf268 rfl | exact ZH Tryd.sizeOf45 rfl | exact ZH Tryd.sizeOf262 rfl | exact ZH Tryd.sizeOf147 rfl | exact ZH Tryd.sizeOf9 rfl | exact ZH Tryd.sizeOf282 rfl | fail) : ∀ w, (sizeOf T).run C.P w = .ok n w := h
theorem ZG {C : Cx} {T : TypeId} {d : TypeDesc} (h : C.P.underlying T = some d := by first | with_reducible exact AM | with_reducible exact Tryd.underlying26 | with_reducible exact Tryd.underlying71 | with_reducible exact CD | with_reducible exact DM | with_reducible exact Tryd.underlying29 | with_reducible exact Tryd.underlying40 | with_reducible exact BQ | with_reducible exact Tryd.underlying31 | with_reducible exact BS | with_reducible exact Tryd.underlying38 | with_reducible exact Tryd.underlying36 | with_reducible exact BB | with_reducible exact Tryd.underlying107 | with_reducible exact AV | with_reducible exact B7 | with_reducible exact DC | with_reducible exact AZ | with_reducible exact Tryd.underlying50 | with_reducible exact C9 | with_reducible exact DK | with_reducible exact C0 | with_reducible exact Tryd.underlying163 | with_reducible exact Tryd.underlying282 | with_reducible exact CE | with_reducible exact Tryd.underlying149 | with_reducible exact Tryd.underlying268 | with_reducible exact DA | with_reducible exact Tryd.underlying161 | with_reducible exact Tryd.underlying164 | with_reducible exact Tryd.underlying167 | with_reducible exact CJ | with_reducible exact Tryd.underlying204 | with_reducible exact Tryd.underlying147 | with_reducible exact Tryd.underlying145 | with_reducible exact Tryd.underlying230 | with_reducible exact Tryd.underlying267 | with_reducible exact Tryd.underlying4 | with_reducible exact Tryd.underlying110 | with_reducible exact Tryd.underlying262 | with_reducible exact Tryd.underlying117 | with_reducible exact Tryd.underlying217 | with_reducible exact Tryd.underlying9 | fail) : C.P.underlying T = some d := h
theorem ZI {C : Cx} {L : List Ent} {b off : Nat} {v : Value} (h : MemAt C L b off [v] := by first | exact A0 0 rfl (Seg.get rfl) | exact A0 1 rfl (Seg.get rfl) | exact A0 2 rfl (Seg.get rfl) | exact A0 3 rfl (Seg.get rfl) | exact A0 4 rfl (Seg.get rfl) | exact A0 5 rfl (Seg.get rfl) | exact A0 6 rfl (Seg.get rfl) | exact A0 7 rfl (Seg.get rfl) | exact A0 8 rfl (Seg.get rfl) | exact A0 9 rfl (Seg.get rfl) | exact A0 10 rfl (Seg.get rfl) | fail) : MemAt C L b off [v] := h
theorem ZJ {C : Cx} {L : List Ent} {b : Nat} {vs : List Value} (h : MemAt C L b 0 vs := by first | exact A0 0 rfl (AG _) | exact A0 1 rfl (AG _) | exact A0 2 rfl (AG _) | exact A0 3 rfl (AG _) | exact A0 4 rfl (AG _) | exact A0 5 rfl (AG _) | exact A0 6 rfl (AG _) | exact A0 7 rfl (AG _) | exact A0 8 rfl (AG _) | exact A0 9 rfl (AG _) | exact A0 10 rfl (AG _) | fail) : MemAt C L b 0 vs := h
theorem Z3 {C : Cx} {L : List Ent} {T b off n : Nat} {vs : List Value} (h : MemAt C L b off vs) (hA : ∀ w, (isAgg T).run C.P w = .ok true w) (hS : ∀ w, (sizeOf T).run C.P w = .ok n w) (hn : vs.length = n) : Ld C L T b off (.agg vs.toArray) := BV hA hS hn h
theorem A8 {C : Cx} {Q : Exit → Act → World → Prop} {F : Frm} {L : List Ent} {e : Exit} (m : List Bool) (h : JQ C Q e F (take? m L)) : JQ C Q e F L := D7 m h
theorem DZ {C : Cx} {Q : Exit → Act → World → Prop} {F : Frm} {L : List Ent} {e : Exit} (p : List Nat) (hp : p.Nodup) (h : JQ C Q e F (pick p L)) : JQ C Q e F L := K_pick p hp h
theorem JC_mask {C : Cx} {Q : Exit → Act → World → Prop} {F : Frm} {L : List Ent} {c : Code} (m : List Bool) (h : JC C Q c F (take? m L)) : JC C Q c F L := D7 m h
theorem JC_pick {C : Cx} {Q : Exit → Act → World → Prop} {F : Frm} {L : List Ent} {c : Code} (p : List Nat) (hp : p.Nodup) (h : JC C Q c F (pick p L)) : JC C Q c F L := K_pick p hp h
theorem ZL {p : Prop} (h : p := by first | (show _ = true; first | with_reducible assumption | exact bnotF (by with_reducible assumption) | fail) | (show _ = false; first | with_reducible assumption | exact bnotT (by with_reducible assumption) | fail) | exact rfl | fail) : p := h
theorem ZN {a b : Nat} (h : a = b := by (conv => lhs; whnf); first | done | exact rfl | fail) : a = b := h
theorem Zf0 {C : Cx} {F : Frm} {L : List Ent} {T : TypeId} {x : Operand} {ty : TypeId} {b i fo fo' ZH n : Nat} {fs : Array Field} (hu : C.P.underlying T = some (.struct fs)) (hx : ev F x = some (Ptr b 0)) (hf : (fs[i]?).map (fun f => (f.offset, f.type)) = some (fo', ZH)) (ho : fo' = fo) (hS : ∀ w, (sizeOf ZH).run C.P w = .ok n w) (hn : Nat.beq n 0 = false) : Ev C F L (.fieldAddr T x i) ty (Ptr b (@OfNat.ofNat Nat fo (instOfNatNat fo))) := by
 subst ho
 have h := BX (ty := ty) (L := L) fo' ZH n hu hf hS hn hx
 rwa [Nat.zero_add] at h
theorem Zf1 {C : Cx} {F : Frm} {L : List Ent} {off : Nat} {T : TypeId} {x : Operand} {ty : TypeId} {b i fo fo' ZH n : Nat} {fs : Array Field} (hu : C.P.underlying T = some (.struct fs)) (hx : ev F x = some (Ptr b off)) (hf : (fs[i]?).map (fun f => (f.offset, f.type)) = some (fo', ZH)) (ho : fo' = fo) (hS : ∀ w, (sizeOf ZH).run C.P w = .ok n w) (hn : Nat.beq n 0 = false) : Ev C F L (.fieldAddr T x i) ty (Ptr b (off + @OfNat.ofNat Nat fo (instOfNatNat fo))) := by
 subst ho
 have h := BX (ty := ty) (L := L) fo' ZH n hu hf hS hn hx
 exact h
theorem Zf2 {C : Cx} {F : Frm} {L : List Ent} {off : Nat} {T : TypeId} {x : Operand} {ty : TypeId} {b i o fo fT n : Nat} {fs : Array Field} (hu : C.P.underlying T = some (.struct fs)) (hx : ev F x = some (Ptr b off)) (hf : (fs[i]?).map (fun f => (f.offset, f.type)) = some (fo, fT)) (ho : off + fo = o) (hS : ∀ w, (sizeOf fT).run C.P w = .ok n w) (hn : Nat.beq n 0 = false) : Ev C F L (.fieldAddr T x i) ty (Ptr b o) := by
 subst ho
 exact BX fo fT n hu hf hS hn hx
theorem Zx0 {C : Cx} {F : Frm} {L : List Ent} {x : Operand} {ty : TypeId} {v0 : Value} {r : List Value} (hx : ev F x = some (.tuple (List.toArray (v0 :: r)))) : Ev C F L (.extract x 0) ty v0 := Ev_extract hx rfl
theorem Zx1 {C : Cx} {F : Frm} {L : List Ent} {x : Operand} {ty : TypeId} {v0 v1 : Value} {r : List Value} (hx : ev F x = some (.tuple (List.toArray (v0 :: v1 :: r)))) : Ev C F L (.extract x 1) ty v1 := Ev_extract hx rfl
theorem Zx2 {C : Cx} {F : Frm} {L : List Ent} {x : Operand} {ty : TypeId} {v0 v1 v2 : Value} {r : List Value} (hx : ev F x = some (.tuple (List.toArray (v0 :: v1 :: v2 :: r)))) : Ev C F L (.extract x 2) ty v2 := Ev_extract hx rfl
theorem Zx3 {C : Cx} {F : Frm} {L : List Ent} {x : Operand} {ty : TypeId} {v0 v1 v2 v3 : Value} {r : List Value} (hx : ev F x = some (.tuple (List.toArray (v0 :: v1 :: v2 :: v3 :: r)))) : Ev C F L (.extract x 3) ty v3 := Ev_extract hx rfl
theorem Zi0 {C : Cx} {F : Frm} {L : List Ent} {x : Operand} {ty : TypeId} {v : Value} (h : Ev C F L (.move x) ty v) : Ev C F L (.move x) ty v := h
theorem Zi1 {C : Cx} {F : Frm} {L : List Ent} {x : Operand} {ty : TypeId} {v : Value} (h : Ev C F L (.assign x) ty v) : Ev C F L (.assign x) ty v := h
theorem Zi2 {C : Cx} {F : Frm} {L : List Ent} {T : TypeId} {x : Operand} {i : Nat} {ty : TypeId} {v : Value} (h : Ev C F L (.fieldAddr T x i) ty v) : Ev C F L (.fieldAddr T x i) ty v := h
theorem Zi3 {C : Cx} {F : Frm} {L : List Ent} {T : TypeId} {x : Operand} {ty : TypeId} {v : Value} (h : Ev C F L (.load T x) ty v) : Ev C F L (.load T x) ty v := h
theorem Zi4 {C : Cx} {F : Frm} {L : List Ent} {x : Operand} {i : Nat} {ty : TypeId} {v : Value} (h : Ev C F L (.extract x i) ty v) : Ev C F L (.extract x i) ty v := h
theorem Zi5 {C : Cx} {F : Frm} {L : List Ent} {b : BinOp} {T T' : TypeId} {x y : Operand} {ty : TypeId} {v : Value} (h : Ev C F L (.binOp b T x y T') ty v) : Ev C F L (.binOp b T x y T') ty v := h
theorem Zi6 {C : Cx} {F : Frm} {L : List Ent} {c x y : Operand} {ty : TypeId} {v : Value} (h : Ev C F L (.pick c x y) ty v) : Ev C F L (.pick c x y) ty v := h
theorem Zi7 {C : Cx} {F : Frm} {L : List Ent} {T : TypeId} {x : Operand} {ty : TypeId} {v : Value} (h : Ev C F L (.unOp .not T x) ty v) : Ev C F L (.unOp .not T x) ty v := h
theorem Zi8 {C : Cx} {F : Frm} {L : List Ent} {T : TypeId} {x : Operand} {ty : TypeId} {v : Value} (h : Ev C F L (.makeInterface T x) ty v) : Ev C F L (.makeInterface T x) ty v := h
theorem Zi9 {C : Cx} {F : Frm} {L : List Ent} {x : Operand} {ty : TypeId} {v : Value} (h : Ev C F L (.nilCheck x) ty v) : Ev C F L (.nilCheck x) ty v := h
theorem Zi10 {C : Cx} {F : Frm} {L : List Ent} {T : TypeId} {q : Array (Nat × Operand)} {ty : TypeId} {v : Value} (h : Ev C F L (.build T q) ty v) : Ev C F L (.build T q) ty v := h
theorem Zi11 {C : Cx} {F : Frm} {L : List Ent} {s d : TypeId} {x : Operand} {ty : TypeId} {v : Value} (h : Ev C F L (.convert s d x) ty v) : Ev C F L (.convert s d x) ty v := h
theorem Zi12 {C : Cx} {F : Frm} {L : List Ent} {c : Call} {ty : TypeId} {v : Value} (h : Ev C F L (.call c) ty v) : Ev C F L (.call c) ty v := h
theorem ZE {C : Cx} {F : Frm} {L : List Ent} {op : Op} {ty : TypeId} {v : Value} (h : Ev C F L op ty v := by first | ((with_reducible apply Zi0); exact Ev_move rfl) | ((with_reducible apply Zi1); exact Ev_assign rfl) | ((with_reducible apply Zi2); first | exact Zf0 ZG rfl rfl ZN ZF rfl | exact Zf1 ZG rfl rfl ZN ZF rfl | exact Zf2 ZG rfl rfl rfl ZF rfl | fail) | ((with_reducible apply Zi3); first | exact AR rfl (B1 ZA ZI) | exact AR rfl (Z3 ZJ ZA ZF ZT) | fail) | ((with_reducible apply Zi4); first | exact Zx0 rfl | exact Zx1 rfl | exact Zx2 rfl | exact Zx3 rfl | exact Ev_extract rfl rfl | fail) | ((with_reducible apply Zi5); first | exact AT rfl rfl fun _ => bin_eql_i _ _ | exact AT rfl rfl fun _ => bin_neq_i _ _ | exact AT rfl rfl fun _ => bin_lss_i _ _ | exact AT rfl rfl fun _ => bin_gtr_i _ _ | exact AT rfl rfl fun _ => bin_leq_i _ _ | exact AT rfl rfl fun _ => bin_geq_i _ _ | fail) | ((with_reducible apply Zi6); first | exact CC _ rfl ZL rfl | exact BO _ rfl ZL rfl | fail) | ((with_reducible apply Zi7); exact Ev_not rfl) | ((with_reducible apply Zi8); exact Ev_iface ZG rfl rfl) | ((with_reducible apply Zi9); exact B3 rfl) | ((with_reducible apply Zi10); exact DN [] _ rfl (fun _ => by kernel_rfl)) | ((with_reducible apply Zi11); exact EW _ _ rfl fun _ => conv_u64_i64 (by rw [BQ]; rfl) ZG _ _ rfl ZO) | ((with_reducible apply Zi12); exact Ev_len ZG rfl) | fail) : Ev C F L op ty v := h
theorem Ze {C : Cx} {F : Frm} {L : List Ent} {op : Op} {ty : TypeId} {v : Value} (h : Ev C F L op ty v := by exact ZE) : Ev C F L op ty v := h
theorem ZQ {C : Cx} {ops : Array Oper} {Q : Exit → Act → World → Prop} {F0 : Frm} {Vl : Vals} {L : List Ent} {q : List Nat} (h : QAll C ops Q F0 Vl L q := by repeat first | exact trivial | refine ⟨by first | exact BM rfl rfl rfl | exact AA rfl rfl ZE | fail, ?_⟩ | fail) : QAll C ops Q F0 Vl L q := h
theorem Z5 {C : Cx} {ops : Array Oper} {Q : Exit → Act → World → Prop} {F0 : Frm} {Vl : Vals} {L : List Ent} {k : Nat} {pre av : List Nat} (p : Ph) (h : JQ C Q .normal (endF ops Vl F0) L) (hp : p.pre = pre := by exact rfl) (ha : (av.all fun i => p.av.contains i) = true := by exact rfl) (hc : p.chk ops = true := by decide +kernel) (hcs : p.cs = [] := by exact rfl) (hq : QAll C ops Q F0 Vl L p.q := by exact ZQ) : DP C ops Q F0 (k + 1) pre av Vl L := DP_end p hp ha hc hcs hq h
theorem Z6 {C : Cx} {ops : Array Oper} {Q : Exit → Act → World → Prop} {F0 : Frm} {Vl : Vals} {L : List Ent} {k : Nat} {pre av : List Nat} {b : Value} {M : List Ent} (p : Ph) (c : Nat) (hR : Cok C ops Q (frmOf ops Vl F0 c) L c fun v L' => v = b ∧ L' = M) (h : DP C ops Q F0 k (pre ++ [c]) p.av (Vl ++ (c, b) :: []) M) (hp : p.pre = pre := by exact rfl) (ha : (av.all fun i => p.av.contains i) = true := by exact rfl) (hc : p.chk ops = true := by decide +kernel) (hcs : p.cs = [c] := by exact rfl) (hq : QAll C ops Q F0 Vl L p.q := by exact ZQ) (hV : (lk Vl c).isNone = true := by exact rfl) : DP C ops Q F0 (k + 1) pre av Vl L := DP_oneE p c hp ha hc hcs hq hV hR h
theorem Z7 {C : Cx} {ops : Array Oper} {Q : Exit → Act → World → Prop} {F0 : Frm} {Vl : Vals} {L : List Ent} {k : Nat} {pre av : List Nat} {R : Value → List Ent → Prop} (p : Ph) (c : Nat) (hR : Cok C ops Q (frmOf ops Vl F0 c) L c R) (h : ∀ v L', R v L' → ∃ ex, DP C ops Q F0 k (pre ++ [c]) p.av (Vl ++ (c, v) :: ex) L') (hp : p.pre = pre := by exact rfl) (ha : (av.all fun i => p.av.contains i) = true := by exact rfl) (hc : p.chk ops = true := by decide +kernel) (hcs : p.cs = [c] := by exact rfl) (hq : QAll C ops Q F0 Vl L p.q := by exact ZQ) (hV : (lk Vl c).isNone = true := by exact rfl) : DP C ops Q F0 (k + 1) pre av Vl L := DP_one p c R hp ha hc hcs hq hV hR h
theorem Z8 {C : Cx} {Q : Exit → Act → World → Prop} {F : Frm} {L : List Ent} {id : Nat} {l : List Oper} (n k : Nat) (Vl : Vals) (h : DP C l.toArray Q F k [] [] Vl L) (hm : C.P.follows .mixedOrders = true := by exact Tryd.mixed) (hn : C.n = n := by exact rfl) (h0 : chk0 l.toArray n = true := by decide +kernel) : JC C Q (.region id l.toArray true) F L := JC_draw n k Vl hm hn h0 h
theorem Zs0 {a0 e : Ent} {r : List Ent} : List.set (a0 :: r) 0 e = e :: r := rfl
theorem Zs1 {a0 a1 e : Ent} {r : List Ent} : List.set (a0 :: a1 :: r) 1 e = a0 :: e :: r := rfl
theorem Zs2 {a0 a1 a2 e : Ent} {r : List Ent} : List.set (a0 :: a1 :: a2 :: r) 2 e = a0 :: a1 :: e :: r := rfl
theorem Zs3 {a0 a1 a2 a3 e : Ent} {r : List Ent} : List.set (a0 :: a1 :: a2 :: a3 :: r) 3 e = a0 :: a1 :: a2 :: e :: r := rfl
theorem Zs4 {a0 a1 a2 a3 a4 e : Ent} {r : List Ent} : List.set (a0 :: a1 :: a2 :: a3 :: a4 :: r) 4 e = a0 :: a1 :: a2 :: a3 :: e :: r := rfl
theorem Zs5 {a0 a1 a2 a3 a4 a5 e : Ent} {r : List Ent} : List.set (a0 :: a1 :: a2 :: a3 :: a4 :: a5 :: r) 5 e = a0 :: a1 :: a2 :: a3 :: a4 :: e :: r := rfl
theorem Zs6 {a0 a1 a2 a3 a4 a5 a6 e : Ent} {r : List Ent} : List.set (a0 :: a1 :: a2 :: a3 :: a4 :: a5 :: a6 :: r) 6 e = a0 :: a1 :: a2 :: a3 :: a4 :: a5 :: e :: r := rfl
theorem Zs7 {a0 a1 a2 a3 a4 a5 a6 a7 e : Ent} {r : List Ent} : List.set (a0 :: a1 :: a2 :: a3 :: a4 :: a5 :: a6 :: a7 :: r) 7 e = a0 :: a1 :: a2 :: a3 :: a4 :: a5 :: a6 :: e :: r := rfl
theorem Zs8 {a0 a1 a2 a3 a4 a5 a6 a7 a8 e : Ent} {r : List Ent} : List.set (a0 :: a1 :: a2 :: a3 :: a4 :: a5 :: a6 :: a7 :: a8 :: r) 8 e = a0 :: a1 :: a2 :: a3 :: a4 :: a5 :: a6 :: a7 :: e :: r := rfl
theorem Zs9 {a0 a1 a2 a3 a4 a5 a6 a7 a8 a9 e : Ent} {r : List Ent} : List.set (a0 :: a1 :: a2 :: a3 :: a4 :: a5 :: a6 :: a7 :: a8 :: a9 :: r) 9 e = a0 :: a1 :: a2 :: a3 :: a4 :: a5 :: a6 :: a7 :: a8 :: e :: r := rfl
theorem Zs10 {a0 a1 a2 a3 a4 a5 a6 a7 a8 a9 a10 e : Ent} {r : List Ent} : List.set (a0 :: a1 :: a2 :: a3 :: a4 :: a5 :: a6 :: a7 :: a8 :: a9 :: a10 :: r) 10 e = a0 :: a1 :: a2 :: a3 :: a4 :: a5 :: a6 :: a7 :: a8 :: a9 :: e :: r := rfl
theorem ZB0 {a0 v : Value} {r : List Value} : lay (a0 :: r) 0 [v] = v :: r := rfl
theorem ZB1 {a0 a1 v : Value} {r : List Value} : lay (a0 :: a1 :: r) 1 [v] = a0 :: v :: r := rfl
theorem ZB2 {a0 a1 a2 v : Value} {r : List Value} : lay (a0 :: a1 :: a2 :: r) 2 [v] = a0 :: a1 :: v :: r := rfl
theorem ZB3 {a0 a1 a2 a3 v : Value} {r : List Value} : lay (a0 :: a1 :: a2 :: a3 :: r) 3 [v] = a0 :: a1 :: a2 :: v :: r := rfl
theorem ZB4 {a0 a1 a2 a3 a4 v : Value} {r : List Value} : lay (a0 :: a1 :: a2 :: a3 :: a4 :: r) 4 [v] = a0 :: a1 :: a2 :: a3 :: v :: r := rfl
theorem ZB5 {a0 a1 a2 a3 a4 a5 v : Value} {r : List Value} : lay (a0 :: a1 :: a2 :: a3 :: a4 :: a5 :: r) 5 [v] = a0 :: a1 :: a2 :: a3 :: a4 :: v :: r := rfl
theorem ZB6 {a0 a1 a2 a3 a4 a5 a6 v : Value} {r : List Value} : lay (a0 :: a1 :: a2 :: a3 :: a4 :: a5 :: a6 :: r) 6 [v] = a0 :: a1 :: a2 :: a3 :: a4 :: a5 :: v :: r := rfl
theorem ZB7 {a0 a1 a2 a3 a4 a5 a6 a7 v : Value} {r : List Value} : lay (a0 :: a1 :: a2 :: a3 :: a4 :: a5 :: a6 :: a7 :: r) 7 [v] = a0 :: a1 :: a2 :: a3 :: a4 :: a5 :: a6 :: v :: r := rfl
theorem ZB8 {a0 a1 a2 a3 a4 a5 a6 a7 a8 v : Value} {r : List Value} : lay (a0 :: a1 :: a2 :: a3 :: a4 :: a5 :: a6 :: a7 :: a8 :: r) 8 [v] = a0 :: a1 :: a2 :: a3 :: a4 :: a5 :: a6 :: a7 :: v :: r := rfl
theorem ZB9 {a0 a1 a2 a3 a4 a5 a6 a7 a8 a9 v : Value} {r : List Value} : lay (a0 :: a1 :: a2 :: a3 :: a4 :: a5 :: a6 :: a7 :: a8 :: a9 :: r) 9 [v] = a0 :: a1 :: a2 :: a3 :: a4 :: a5 :: a6 :: a7 :: a8 :: v :: r := rfl
theorem ZB10 {a0 a1 a2 a3 a4 a5 a6 a7 a8 a9 a10 v : Value} {r : List Value} : lay (a0 :: a1 :: a2 :: a3 :: a4 :: a5 :: a6 :: a7 :: a8 :: a9 :: a10 :: r) 10 [v] = a0 :: a1 :: a2 :: a3 :: a4 :: a5 :: a6 :: a7 :: a8 :: a9 :: v :: r := rfl
theorem ZB11 {a0 a1 a2 a3 a4 a5 a6 a7 a8 a9 a10 a11 v : Value} {r : List Value} : lay (a0 :: a1 :: a2 :: a3 :: a4 :: a5 :: a6 :: a7 :: a8 :: a9 :: a10 :: a11 :: r) 11 [v] = a0 :: a1 :: a2 :: a3 :: a4 :: a5 :: a6 :: a7 :: a8 :: a9 :: a10 :: v :: r := rfl
theorem ZY {a : Nat} {cs : List Value} (h : a ≤ cs.length := by first | exact Nat.le_of_ble_eq_true rfl | exact ZT | fail) : a ≤ cs.length := h
theorem ZZ {cs vs : List Value} (h : lay cs 0 vs = vs := by first | exact AI rfl | exact AI ZT | fail) : lay cs 0 vs = vs := h
theorem Zl {cs vs cs' : List Value} {o : Nat} (h : lay cs o vs = cs' := by first | exact ZB0 | exact ZB1 | exact ZB2 | exact ZB3 | exact ZB4 | exact ZB5 | exact ZB6 | exact ZB7 | exact ZB8 | exact ZB9 | exact ZB10 | exact ZB11 | fail) : lay cs o vs = cs' := h
theorem Zm {cs vs cs' : List Value} {o : Nat} (h : lay cs o vs = cs' := by first | exact lay_left ZY Zl | exact Zl | fail) : lay cs o vs = cs' := h
theorem ZB {cs vs cs' : List Value} {o : Nat} (h : lay cs o vs = cs' := by first | exact lay_left ZY Zm | exact Zl | fail) : lay cs o vs = cs' := h
theorem Z4 {C : Cx} {F : Frm} {L : List Ent} {T : TypeId} {x y : Operand} {ty : TypeId} {b off T' : Nat} {cs cs' : List Value} {v : Value} (i : Nat) (hi : L[i]? = some ⟨b, cs, T', (0, 0)⟩) (hx : ev F x = some (Ptr b off)) (hy : ev F y = some v) (hv : v.cells.toList = [v]) (hS : ∀ w, (sizeOf T).run C.P w = .ok 1 w) (h1 : v.oneCell' = true) (hle : off + 1 ≤ cs.length) (hcs : lay cs off [v] = cs') : Step C F L (.store T x y) ty fun u L' => u = undef ∧ L' = L.set i ⟨b, cs', T', (0, 0)⟩ := BT i b off 1 cs T' v [v] cs' hi hx hy hv hS rfl (by simpa using h1) hle hcs
theorem ZW {C : Cx} {F : Frm} {L : List Ent} {T : TypeId} {x y : Operand} {ty : TypeId} {b : Value} {M : List Ent} (h : Step C F L (.store T x y) ty fun v L' => v = b ∧ L' = M := by first | exact AB 0 _ _ _ _ _ rfl rfl rfl ZF ZT ZC ZY ZZ | exact AB 1 _ _ _ _ _ rfl rfl rfl ZF ZT ZC ZY ZZ | exact AB 2 _ _ _ _ _ rfl rfl rfl ZF ZT ZC ZY ZZ | exact AB 3 _ _ _ _ _ rfl rfl rfl ZF ZT ZC ZY ZZ | exact AB 4 _ _ _ _ _ rfl rfl rfl ZF ZT ZC ZY ZZ | exact AB 5 _ _ _ _ _ rfl rfl rfl ZF ZT ZC ZY ZZ | exact AB 6 _ _ _ _ _ rfl rfl rfl ZF ZT ZC ZY ZZ | exact AB 7 _ _ _ _ _ rfl rfl rfl ZF ZT ZC ZY ZZ | exact AB 8 _ _ _ _ _ rfl rfl rfl ZF ZT ZC ZY ZZ | exact AB 9 _ _ _ _ _ rfl rfl rfl ZF ZT ZC ZY ZZ | exact AB 10 _ _ _ _ _ rfl rfl rfl ZF ZT ZC ZY ZZ | exact Z4 0 rfl rfl rfl rfl ZF rfl ZY ZB | exact Z4 1 rfl rfl rfl rfl ZF rfl ZY ZB | exact Z4 2 rfl rfl rfl rfl ZF rfl ZY ZB | exact Z4 3 rfl rfl rfl rfl ZF rfl ZY ZB | exact Z4 4 rfl rfl rfl rfl ZF rfl ZY ZB | exact Z4 5 rfl rfl rfl rfl ZF rfl ZY ZB | exact Z4 6 rfl rfl rfl rfl ZF rfl ZY ZB | exact Z4 7 rfl rfl rfl rfl ZF rfl ZY ZB | exact Z4 8 rfl rfl rfl rfl ZF rfl ZY ZB | exact Z4 9 rfl rfl rfl rfl ZF rfl ZY ZB | exact Z4 10 rfl rfl rfl rfl ZF rfl ZY ZB | fail) : Step C F L (.store T x y) ty fun v L' => v = b ∧ L' = M := h
theorem ZV {C : Cx} {F : Frm} {L : List Ent} {r : ResultVar} {v : Value} (h : RV C F L r v := by first | exact EP rfl | exact EV rfl (Z3 ZJ ZA ZF ZT) | exact EV rfl (B1 ZA ZI) | fail) : RV C F L r v := h
theorem ZP {C : Cx} {F : Frm} {L : List Ent} {fn : Func} {v : Value} (h : ∀ a w, Fr F C a → Hp C.w0 C.M L w → (results fn a.tmps).run C.P w = .ok v w := by first | exact res1 rfl ZV | exact res2 rfl ZV ZV | exact res3 rfl ZV ZV ZV | exact res0 rfl | fail) : ∀ a w, Fr F C a → Hp C.w0 C.M L w → (results fn a.tmps).run C.P w = .ok v w := h
theorem Z1 {C : Cx} {F : Frm} {L : List Ent} {fn : Func} {R : Ending → World → Prop} {v : Value} (h : ∀ w, Hp C.w0 C.M L w → R (.returned v) w) (hr : ∀ a w, Fr F C a → Hp C.w0 C.M L w → (results fn a.tmps).run C.P w = .ok v w := by exact ZP) (hdf : C.df = [] := by rfl) : JQ C (bodyPost C.P fn R) .ret F L := DR v hr h hdf
structure Zb (P : Prop) : Prop where
 h : P
structure Zw (n : Nat) (P : Prop) : Prop where
 h : P
theorem Zw.stop {P : Prop} (k : Zb P) : Zw 0 P := ⟨k.h⟩
theorem Zw.v {C : Cx} {Q : Exit → Act → World → Prop} {F : Frm} {L : List Ent} {ops : Array Oper} {l : List Oper} {n : Nat} {d : Nat} {op : Op} {ty : TypeId} {pos : String} {aft : Array Edge} {v : Value} (h : Ev C F L op ty v) (hd : Nat.blt d C.n = true) (k : Zw n (JL C Q ops l ((d, v) :: F) L)) : Zw (n + 1) (JL C Q ops (⟨some d, op, ty, pos, aft, none⟩ :: l) F L) := ⟨AE v h hd k.h⟩
theorem Zw.g {C : Cx} {Q : Exit → Act → World → Prop} {F : Frm} {L : List Ent} {ops : Array Oper} {l : List Oper} {n : Nat} {d : Nat} {op : Op} {ty : TypeId} {pos : String} {aft : Array Edge} {P : Prop} {j : Nat} {want : Bool} (h : P → JL C Q ops (⟨some d, op, ty, pos, aft, some (j, want)⟩ :: l) F L) (k : Zw n P) : Zw (n + 1) (JL C Q ops (⟨some d, op, ty, pos, aft, some (j, want)⟩ :: l) F L) := ⟨h k.h⟩
theorem Zw.s {C : Cx} {Q : Exit → Act → World → Prop} {F : Frm} {L : List Ent} {ops : Array Oper} {l : List Oper} {n : Nat} {T : TypeId} {x y : Operand} {ty : TypeId} {pos : String} {aft : Array Edge} {b : Value} {M M' : List Ent} (h : Step C F L (.store T x y) ty fun v L' => v = b ∧ L' = M) (hM : M = M') (k : Zw n (JL C Q ops l F M')) : Zw (n + 1) (JL C Q ops (⟨none, .store T x y, ty, pos, aft, none⟩ :: l) F L) := ⟨AC h rfl (hM ▸ k.h)⟩
theorem Zw.n {C : Cx} {Q : Exit → Act → World → Prop} {F : Frm} {L : List Ent} {ops : Array Oper} {n : Nat} (k : Zw n (JQ C Q .normal F L)) : Zw (n + 1) (JL C Q ops [] F L) := ⟨A1 k.h⟩
theorem Zw.c {C : Cx} {Q : Exit → Act → World → Prop} {F : Frm} {L : List Ent} {n : Nat} {c : Code} {P : Prop} (h : P → JC C Q c F L) (k : Zw n P) : Zw (n + 1) (JC C Q c F L) := ⟨h k.h⟩
theorem Zw.q {C : Cx} {Q : Exit → Act → World → Prop} {F : Frm} {L : List Ent} {n : Nat} {e : Exit} {P : Prop} (h : P → JQ C Q e F L) (k : Zw n P) : Zw (n + 1) (JQ C Q e F L) := ⟨h k.h⟩
theorem Z2 {P Q : Prop} (n : Nat) (k : Q) (h : Zb Q → Zw n P := by intro k; (repeat first | ((with_reducible apply Zw.v); (case h => exact ZE); (case hd => exact rfl)) | (with_reducible apply Zw.n) | ((with_reducible apply Zw.c); case h => first | exact A4 | exact AO | exact JC_block | exact CY | exact CH | exact JC_exit | fail) | ((with_reducible apply Zw.q); case h => first | exact AK | exact C2 | exact JQ_in_ret | exact DH | exact JQ_in_same | exact DV | exact JQ_in_other rfl | fail) | ((with_reducible apply Zw.g); case h => first | exact fun k => AD _ _ _ _ _ rfl rfl ZL ZE rfl k | exact fun k => JL_gskip _ _ _ _ rfl rfl ZL rfl k | exact fun k => JL_gskipU _ _ _ rfl rfl rfl k | fail) | ((with_reducible apply Zw.s); (case h => exact ZW); case hM => first | exact Zs0 | exact Zs1 | exact Zs2 | exact Zs3 | exact Zs4 | exact Zs5 | exact Zs6 | exact Zs7 | exact Zs8 | exact Zs9 | exact Zs10 | fail) | fail); exact Zw.stop k) : P := (h ⟨k⟩).h
attribute [local irreducible] mid zr8 numK valK rvalK JL JC JQ DP Ev Ld MemAt Seg Step Cl RV Qok Cok
theorem sizedT_c (s : Int) (w : World) (hs : Szd s) : Calls Tryd.prog 143 #[I64 (s)] w (Post w [] (fun v L => v = .bool true ∧ L = [])) := by
 refine enter w [] 17 [] [I64 (s)] Tryd.func143 rfl rfl ZM (A2 ZM ZM ZM) ?_
 show JC _ _ _ [_] _
 refine Z2 10 ?_
 rcases Bool.eq_false_or_eq_true (decide ((s) = (1:Int))) with hb1 | hb1
 ·
  have hp1 := of_decide_eq_true hb1
  refine Z2 15 ?_
  refine Z1 fun w1 hw1 => ?_
  exact ⟨_, [], rfl, ⟨by rw [show (true) = true from rfl], rfl⟩, hw1.no⟩
 have hp1 := of_decide_eq_false hb1
 refine Z2 4 ?_
 rcases Bool.eq_false_or_eq_true (decide ((s) = (2:Int))) with hb2 | hb2
 ·
  have hp2 := of_decide_eq_true hb2
  refine Z2 11 ?_
  refine Z1 fun w1 hw1 => ?_
  exact ⟨_, [], rfl, ⟨by rw [show (true) = true from rfl], rfl⟩, hw1.no⟩
 have hp2 := of_decide_eq_false hb2
 refine Z2 4 ?_
 rcases Bool.eq_false_or_eq_true (decide ((s) = (4:Int))) with hb3 | hb3
 ·
  have hp3 := of_decide_eq_true hb3
  refine Z2 7 ?_
  refine Z1 fun w1 hw1 => ?_
  exact ⟨_, [], rfl, ⟨by rw [show (true) = true from rfl], rfl⟩, hw1.no⟩
 have hp3 := of_decide_eq_false hb3
 refine Z2 7 ?_
 refine Z1 fun w1 hw1 => ?_
 exact ⟨_, [], rfl, ⟨congrArg Value.bool (decide_eq_true (by unfold Szd at hs; omega)), rfl⟩, hw1.no⟩
theorem sizedF_c (s : Int) (w : World) (hs : ¬ Szd s) : Calls Tryd.prog 143 #[I64 (s)] w (Post w [] (fun v L => v = .bool false ∧ L = [])) := by
 refine enter w [] 17 [] [I64 (s)] Tryd.func143 rfl rfl ZM (A2 ZM ZM ZM) ?_
 show JC _ _ _ [_] _
 refine Z2 10 ?_
 rcases Bool.eq_false_or_eq_true (decide ((s) = (1:Int))) with hb1 | hb1
 ·
  have hp1 := of_decide_eq_true hb1
  refine Z2 15 ?_
  refine Z1 fun w1 hw1 => ?_
  refine ⟨_, [], rfl, ⟨?_, rfl⟩, hw1.no⟩
  first | (exfalso; apply hs; unfold Szd; omega; done) | exact congrArg Value.bool (decide_eq_false (fun h => hs ZU))
 have hp1 := of_decide_eq_false hb1
 refine Z2 4 ?_
 rcases Bool.eq_false_or_eq_true (decide ((s) = (2:Int))) with hb2 | hb2
 ·
  have hp2 := of_decide_eq_true hb2
  refine Z2 11 ?_
  refine Z1 fun w1 hw1 => ?_
  refine ⟨_, [], rfl, ⟨?_, rfl⟩, hw1.no⟩
  first | (exfalso; apply hs; unfold Szd; omega; done) | exact congrArg Value.bool (decide_eq_false (fun h => hs ZU))
 have hp2 := of_decide_eq_false hb2
 refine Z2 4 ?_
 rcases Bool.eq_false_or_eq_true (decide ((s) = (4:Int))) with hb3 | hb3
 ·
  have hp3 := of_decide_eq_true hb3
  refine Z2 7 ?_
  refine Z1 fun w1 hw1 => ?_
  refine ⟨_, [], rfl, ⟨?_, rfl⟩, hw1.no⟩
  first | (exfalso; apply hs; unfold Szd; omega; done) | exact congrArg Value.bool (decide_eq_false (fun h => hs ZU))
 have hp3 := of_decide_eq_false hb3
 refine Z2 7 ?_
 refine Z1 fun w1 hw1 => ?_
 refine ⟨_, [], rfl, ⟨?_, rfl⟩, hw1.no⟩
 first | (exfalso; apply hs; unfold Szd; omega; done) | exact congrArg Value.bool (decide_eq_false (fun h => hs ZU))
theorem failR_c (wb e k : Nat) (sv : Value) (w : World) (h0 : w.heap[wb]? = some (.cells [errV 50 e, sv].toArray 204 (0, 0))) : Calls Tryd.prog 144 #[Ptr wb 0, errV 50 k] w (Post w [wb] (fun v L => v = .tuple #[] ∧ L = [(Ez wb [errV 50 (erN e k), sv] 204)])) := by
 refine enter w [wb] 13 [(Ez wb [errV 50 e, sv] 204)] [Ptr wb 0, errV 50 k] Tryd.func144 rfl rfl ZM (A2 (by simpa using h0) ZM ZM) ?_
 show JC _ _ _ [_, _] _
 refine Z2 3 ?_
 refine AE _ (B3 rfl) rfl ?_
 refine Z2 2 ?_
 refine AE (.bool (decide (e = 0))) (CG _ _ _ rfl rfl (fun _ => BL ..) fun _ => eql_errV AV _ _) rfl ?_
 refine A1 (AK (AX _ rfl (fun hb1 => ?_) (fun hb1 => ?_)))
 ·
  have hp1 := of_decide_eq_true hb1
  refine Z2 3 ?_
  refine AE _ (B3 rfl) rfl ?_
  refine Z2 1 ?_
  refine AC (BT 0 wb 0 1 _ 204 (errV 50 k) ([errV 50 k]) ([errV 50 k, sv]) rfl rfl rfl errV_cells Tryd.sizeOf45 rfl errV_one (Nat.le_of_ble_eq_true rfl) (rfl)) rfl ?_
  show JL _ _ _ _ _ [_]
  refine A1 (JQ_end (.tuple #[]) (res0 Tryd.results144 ) fun w1 hw1 => ?_)
  refine ⟨_, [_], rfl, ⟨rfl, ?_⟩, hw1⟩
  rw [erN]
  first | rw [if_pos hp1] | rw [if_neg hp1]
 have hp1 := of_decide_eq_false hb1
 refine CY (JQ_end (.tuple #[]) (res0 Tryd.results144 ) fun w1 hw1 => ?_)
 refine ⟨_, [_], rfl, ⟨rfl, ?_⟩, hw1⟩
 rw [erN]
 first | rw [if_pos hp1] | rw [if_neg hp1]
theorem numN_c (wb tot : Nat) (ev : Value) (nv : UInt64) (k : Nat)  (w : World) (h0 : w.heap[wb]? = some (.cells [ev, SL none 0 0].toArray 149 (0, 0))) (hs : Szd (k:Int)) (hx : k < 8 → nv >>> UInt64.ofNat (8*k) = 0) (ht : k = tot) : Calls Tryd.prog 81 #[Ptr wb 0, U64 nv, I64 k] w (Post w [wb] (fun v L => v = Ptr wb 0 ∧ ∃ g sp cap, L = [(Ez wb [ev, Slc g 0 tot cap] 149), (Ez g (cu8 (numK k nv k) ++ sp) 5)] ∧ sp.length = cap - tot ∧ tot ≤ cap ∧ cap ≤ maxLen)) := by
 have hmx : maxLen = 9223372036854775807 := rfl
 have hs4 : k = 1 ∨ k = 2 ∨ k = 4 ∨ k = 8 := by unfold Szd at hs; omega
 refine enter w [wb] 51 [(Ez wb [ev, SL none 0 0] 149)] [Ptr wb 0, U64 nv, I64 k] Tryd.func81 rfl rfl ZM (A2 (by simpa using h0) ZM ZM) ?_
 show JC _ _ _ [_, _, _] _
 refine Z2 9 ?_
 refine AE (.bool false) (CG _ _ _ rfl rfl (fun _ => EQ ..) fun _ => EX Tryd.underlying145) rfl ?_
 refine A1 (AK (AY _ rfl rfl ?_))
 refine Z2 6 ?_
 refine AC (AJ 143 _ (.bool true) (AH _ Tryd.call143 rfl) (fun w1 _ => sizedT_c ((k:Int)) w1 hs)) rfl ?_
 show JL _ _ _ _ (_ :: _) [_]
 refine Z2 5 ?_
 rcases Bool.eq_false_or_eq_true (decide (((k:Int)) < (8:Int))) with hb1 | hb1
 ·
  have hp1 := of_decide_eq_true hb1
  refine Z2 2 ?_
  refine AD 6 16 true _ (I64 (8*(k:Int))) rfl rfl hb1 (AT rfl rfl fun _ => bin_mul_i _ _ (8*(k:Int)) ZO ZO) rfl ?_
  refine AD 6 16 true _ (U64 (nv >>> UInt64.ofNat (8*k))) rfl rfl hb1 (AT rfl rfl fun _ => EY nv _ _ (8*k) ZO ZO) rfl ?_
  refine AD 6 16 true _ (.bool (decide ((nv >>> UInt64.ofNat (8*k)) ≠ (0:UInt64)))) rfl rfl hb1 (AT rfl rfl fun _ => CL (nv >>> UInt64.ofNat (8*k)) (0:UInt64)) rfl ?_
  refine Z2 4 ?_
  refine AY _ rfl (decide_eq_false (fun h => h (hx ZO))) ?_
  refine Z2 6 ?_
  refine AE (I64 ((k:Int) - 1)) (AT rfl rfl fun _ => EU _ _ ((k:Int) - 1) ZO ZO) rfl ?_
  refine Z2 4 ?_
  refine C3 (ι := (Unit) ⊕ (Nat × List UInt8 × Nat × List Value × Nat)) (fun x => match x with | .inl _ => [(0, Ptr wb 0), (1, U64 nv), (6, .pointer none), (7, I64 ((k:Int) - 1))] | .inr ⟨q, oq, gq, spq, cpq⟩ => [(0, Ptr wb 0), (1, U64 nv), (6, .pointer none), (7, I64 ((k:Int) - (q:Int) - 1))]) (fun x => match x with | .inl _ => [(Ez wb [ev, SL none 0 0] 149)] | .inr ⟨q, oq, gq, spq, cpq⟩ => [(Ez wb [ev, Slc gq 0 q cpq] 149), (Ez gq (cu8 oq ++ spq) 5)]) (fun x => match x with | .inl _ => True | .inr ⟨q, oq, gq, spq, cpq⟩ => 1 ≤ q ∧ q ≤ k ∧ oq = numK k nv q ∧ oq.length = q ∧ spq.length = cpq - (q) ∧ q ≤ cpq ∧ cpq ≤ maxLen) (fun x => match x with | .inl _ => k + 1 | .inr ⟨q, oq, gq, spq, cpq⟩ => k - q) (.inl ()) trivial (Sub.all rfl) rfl ?_
  rintro (_ | ⟨q, oq, gq, spq, cpq⟩) hx
  ·
   obtain _ := hx
   show JC _ _ _ [_, _, _, _] [_]
   refine Z2 7 ?_
   refine A7 _ rfl (decide_eq_true ZO) ?_
   refine CY (AK (A4 (JC_block (Z8 51 4 [(0, Ptr wb 0), (1, Ptr wb 0), (2, Ptr wb 0), (3, Ptr wb 1), (4, SL none 0 0), (5, U64 nv), (6, I64 ((k:Int) - 1)), (7, I64 (8*(k:Int) - 8)), (8, U64 (nv >>> UInt64.ofNat (8*k - 8))), (9, U8 ((nv >>> UInt64.ofNat (8*k - 8)).toUInt8))] ?_))))
   refine Z7 ⟨[], [0, 1, 2, 3, 4, 5, 6, 7, 8, 9], [], [0, 1, 2, 3, 4, 5, 6, 7, 8, 9], [10]⟩ 10 (hq := ⟨BM rfl rfl rfl, BM rfl rfl rfl, AA rfl rfl (B3 rfl), AA rfl rfl ZE, AA rfl rfl ZE, BM rfl rfl rfl, BM rfl rfl rfl, AA rfl rfl (AT rfl rfl fun _ => bin_mul_i _ _ (8*(k:Int) - 8) ZO ZO), AA rfl rfl (AT rfl rfl fun _ => EY nv _ _ (8*k - 8) ZO ZO), AA rfl rfl (EW _ _ rfl fun _ => conv_u64_u8 (by rw [BQ]; rfl) BS _), trivial⟩) (AL rfl (BF 5 1 _ [(0, U8 ((nv >>> UInt64.ofNat (8*k - 8)).toUInt8))] (cu8 ([(nv >>> UInt64.ofNat (8*k - 8)).toUInt8])) AM AW Tryd.zeroValue5 rfl rfl rfl ZR)) ?_
   rintro v1 L1 ⟨nb1, hnb1, rfl, rfl⟩
   refine ⟨[], ?_⟩
   show DP _ _ _ _ _ _ _ _ [_, _]
   refine Z7 ⟨[10], [0, 1, 2, 3, 4, 5, 6, 7, 8, 9], [5, 6, 7, 8, 9], [0, 1, 2, 3, 4], [11]⟩ 11 (hq := ⟨BM rfl rfl rfl, BM rfl rfl rfl, AA rfl rfl (B3 rfl), AA rfl rfl ZE, AA rfl rfl ZE, trivial⟩) (AL rfl (FD 43 5 [false, false] (SL none 0 0) 0 ([] : List UInt8) ([(nv >>> UInt64.ofNat (8*k - 8)).toUInt8]) (some ⟨nb1, 0, none⟩) 1 1 1 AM FC rfl (.inl ⟨rfl, rfl, rfl, rfl, ZO⟩) rfl ZM (SrcAt.mem (A0 1 rfl (AG _))) ZO ZX ZO)) ?_
   rintro v1 L1 ⟨nb2, sp1, cp1, hg1, rfl, rfl, ha1, ha2, ha3, ha4⟩
   refine ⟨[(12, Ptr wb 0), (13, Ptr wb 1)], ?_⟩
   show DP _ _ _ _ _ _ _ _ [_, _, _]
   refine Z6 ⟨[10, 11], [0, 1, 2, 3, 4, 5, 6, 7, 8, 9, 12, 13], [1, 2, 3, 4, 5, 6, 7, 8, 9], [0, 12, 13], [14]⟩ 14 (hq := ⟨BM rfl rfl rfl, AA rfl rfl (B3 rfl), AA rfl rfl ZE, trivial⟩) (AL rfl ZW) ?_
   show DP _ _ _ _ _ _ _ _ [_, _, _]
   refine Z5 ⟨[10, 11, 14], [0, 1, 2, 3, 4, 5, 6, 7, 8, 9, 12, 13], [0, 1, 2, 3, 4, 5, 6, 7, 8, 9, 12, 13], [], []⟩ ?_
   refine A9 (F' := [(36, Ptr wb 0), (37, Ptr wb 0), (38, Ptr wb 0), (39, Ptr wb 1), (40, SL none 0 0), (41, U64 nv), (42, I64 ((k:Int) - 1)), (43, I64 (8*(k:Int) - 8)), (44, U64 (nv >>> UInt64.ofNat (8*k - 8))), (45, U8 ((nv >>> UInt64.ofNat (8*k - 8)).toUInt8)), (46, Slc nb1 0 1 1), (47, Slc nb2 0 1 cp1), (48, Ptr wb 0), (49, Ptr wb 1), (0, Ptr wb 0), (1, U64 nv), (6, .pointer none), (7, I64 ((k:Int) - 1)), (32, I64 ((k:Int) - 1)), (33, .bool (decide ((0:Int) ≤ ((k:Int) - 1))))]) ZR ?_
   refine Z2 4 ?_
   refine AE (I64 ((k:Int) - 2)) (AT rfl rfl fun _ => EU _ _ ((k:Int) - 2) ZO ZO) rfl ?_
   refine Z2 2 ?_
   refine B5 (D7 [true, false, true] ?_)
   show K _ _ [_, _] _
   refine C1 (.inr (1, ([] : List UInt8) ++ ([(nv >>> UInt64.ofNat (8*k - 8)).toUInt8]), nb2, sp1, cp1)) ⟨ZO, ZO, by rw [numK_succ, numK_zero]; rfl, (ha1).trans (by first | rfl | simp +arith), (ha2).trans (by first | rfl | simp +arith), ZO, ha4⟩ (by first | (simp; omega) | simp | (dsimp only; omega) | omega) (Sub.cons rfl (Sub.cons rfl (Sub.cons rfl (Sub.cons (some_i64 ZO) (Sub.nil))))) rfl
  obtain ⟨hx0, hx1, hx2, hoq, hx4, hx5, hx6⟩ := hx
  show JC _ _ _ [_, _, _, _] [_, _]
  refine Z2 7 ?_
  refine AX _ rfl (fun hb2 => ?_) (fun hb2 => ?_)
  ·
   have hp2 := of_decide_eq_true hb2
   refine CY (AK (A4 (JC_block (Z8 51 4 [(0, Ptr wb 0), (1, Ptr wb 0), (2, Ptr wb 0), (3, Ptr wb 1), (4, Slc gq 0 q cpq), (5, U64 nv), (6, I64 ((k:Int) - (q:Int) - 1)), (7, I64 (8*(k:Int) - 8*(q:Int) - 8)), (8, U64 (nv >>> UInt64.ofNat (8*k - 8*q - 8))), (9, U8 ((nv >>> UInt64.ofNat (8*k - 8*q - 8)).toUInt8))] ?_))))
   refine Z7 ⟨[], [0, 1, 2, 3, 4, 5, 6, 7, 8, 9], [], [0, 1, 2, 3, 4, 5, 6, 7, 8, 9], [10]⟩ 10 (hq := ⟨BM rfl rfl rfl, BM rfl rfl rfl, AA rfl rfl (B3 rfl), AA rfl rfl ZE, AA rfl rfl ZE, BM rfl rfl rfl, BM rfl rfl rfl, AA rfl rfl (AT rfl rfl fun _ => bin_mul_i _ _ (8*(k:Int) - 8*(q:Int) - 8) ZO ZO), AA rfl rfl (AT rfl rfl fun _ => EY nv _ _ (8*k - 8*q - 8) ZO ZO), AA rfl rfl (EW _ _ rfl fun _ => conv_u64_u8 (by rw [BQ]; rfl) BS _), trivial⟩) (AL rfl (BF 5 1 _ [(0, U8 ((nv >>> UInt64.ofNat (8*k - 8*q - 8)).toUInt8))] (cu8 ([(nv >>> UInt64.ofNat (8*k - 8*q - 8)).toUInt8])) AM AW Tryd.zeroValue5 rfl rfl rfl ZR)) ?_
   rintro v1 L1 ⟨nb3, hnb3, rfl, rfl⟩
   refine ⟨[], ?_⟩
   show DP _ _ _ _ _ _ _ _ [_, _, _]
   refine Z7 ⟨[10], [0, 1, 2, 3, 4, 5, 6, 7, 8, 9], [5, 6, 7, 8, 9], [0, 1, 2, 3, 4], [11]⟩ 11 (hq := ⟨BM rfl rfl rfl, BM rfl rfl rfl, AA rfl rfl (B3 rfl), AA rfl rfl ZE, AA rfl rfl ZE, trivial⟩) (AL rfl (FD 43 5 [false, true, false] (Slc gq 0 q cpq) q oq ([(nv >>> UInt64.ofNat (8*k - 8*q - 8)).toUInt8]) (some ⟨nb3, 0, none⟩) 1 1 (q + 1) AM FC rfl (.inr ⟨gq, spq, cpq, rfl, rfl, (by first | exact hoq | simp [hoq]), hx4, ZO, ZO⟩) rfl ZM (SrcAt.mem (A0 2 rfl (AG _))) ZO ZX ZO)) ?_
   rintro v1 L1 ⟨nb4, sp2, cp2, hg2, rfl, rfl, ha5, ha6, ha7, ha8⟩
   refine ⟨[(12, Ptr wb 0), (13, Ptr wb 1)], ?_⟩
   show DP _ _ _ _ _ _ _ _ [_, _, _]
   refine Z6 ⟨[10, 11], [0, 1, 2, 3, 4, 5, 6, 7, 8, 9, 12, 13], [1, 2, 3, 4, 5, 6, 7, 8, 9], [0, 12, 13], [14]⟩ 14 (hq := ⟨BM rfl rfl rfl, AA rfl rfl (B3 rfl), AA rfl rfl ZE, trivial⟩) (AL rfl ZW) ?_
   show DP _ _ _ _ _ _ _ _ [_, _, _]
   refine Z5 ⟨[10, 11, 14], [0, 1, 2, 3, 4, 5, 6, 7, 8, 9, 12, 13], [0, 1, 2, 3, 4, 5, 6, 7, 8, 9, 12, 13], [], []⟩ ?_
   refine A9 (F' := [(36, Ptr wb 0), (37, Ptr wb 0), (38, Ptr wb 0), (39, Ptr wb 1), (40, Slc gq 0 q cpq), (41, U64 nv), (42, I64 ((k:Int) - (q:Int) - 1)), (43, I64 (8*(k:Int) - 8*(q:Int) - 8)), (44, U64 (nv >>> UInt64.ofNat (8*k - 8*q - 8))), (45, U8 ((nv >>> UInt64.ofNat (8*k - 8*q - 8)).toUInt8)), (46, Slc nb3 0 1 1), (47, Slc nb4 0 (q + 1) cp2), (48, Ptr wb 0), (49, Ptr wb 1), (0, Ptr wb 0), (1, U64 nv), (6, .pointer none), (7, I64 ((k:Int) - (q:Int) - 1)), (32, I64 ((k:Int) - (q:Int) - 1)), (33, .bool (decide ((0:Int) ≤ ((k:Int) - (q:Int) - 1))))]) ZR ?_
   refine Z2 4 ?_
   refine AE (I64 ((k:Int) - (q:Int) - 2)) (AT rfl rfl fun _ => EU _ _ ((k:Int) - (q:Int) - 2) ZO ZO) rfl ?_
   refine Z2 2 ?_
   refine B5 (D7 [true, false, true] ?_)
   show K _ _ [_, _] _
   refine C1 (.inr (q + 1, oq ++ ([(nv >>> UInt64.ofNat (8*k - 8*q - 8)).toUInt8]), nb4, sp2, cp2)) ⟨ZO, ZO, by rw [numK_succ, ← hx2], (ha5).trans (by first | rfl | simp +arith), (ha6).trans (by first | rfl | simp +arith), ZO, ha8⟩ (by first | (simp; omega) | simp | (dsimp only; omega) | omega) (Sub.cons rfl (Sub.cons rfl (Sub.cons rfl (Sub.cons (some_i64 ZO) (Sub.nil))))) rfl
  have hp2 := of_decide_eq_false hb2
  refine Z2 12 ?_
  refine Z1 fun w1 hw1 => ?_
  have e1 : q = k := by omega
  rw [hx2, e1] at hw1
  obtain rfl : tot = k := by omega
  exact ⟨_, _, rfl, ⟨rfl, gq, spq, cpq, rfl, ZO, ZO, hx6⟩, hw1⟩
 have hp1 := of_decide_eq_false hb1
 refine Z2 9 ?_
 refine AY _ rfl rfl ?_
 refine Z2 6 ?_
 refine AE (I64 ((k:Int) - 1)) (AT rfl rfl fun _ => EU _ _ ((k:Int) - 1) ZO ZO) rfl ?_
 refine Z2 4 ?_
 refine C3 (ι := (Unit) ⊕ (Nat × List UInt8 × Nat × List Value × Nat)) (fun x => match x with | .inl _ => [(0, Ptr wb 0), (1, U64 nv), (6, .pointer none), (7, I64 ((k:Int) - 1))] | .inr ⟨q, oq, gq, spq, cpq⟩ => [(0, Ptr wb 0), (1, U64 nv), (6, .pointer none), (7, I64 ((k:Int) - (q:Int) - 1))]) (fun x => match x with | .inl _ => [(Ez wb [ev, SL none 0 0] 149)] | .inr ⟨q, oq, gq, spq, cpq⟩ => [(Ez wb [ev, Slc gq 0 q cpq] 149), (Ez gq (cu8 oq ++ spq) 5)]) (fun x => match x with | .inl _ => True | .inr ⟨q, oq, gq, spq, cpq⟩ => 1 ≤ q ∧ q ≤ k ∧ oq = numK k nv q ∧ oq.length = q ∧ spq.length = cpq - (q) ∧ q ≤ cpq ∧ cpq ≤ maxLen) (fun x => match x with | .inl _ => k + 1 | .inr ⟨q, oq, gq, spq, cpq⟩ => k - q) (.inl ()) trivial (Sub.all rfl) rfl ?_
 rintro (_ | ⟨q, oq, gq, spq, cpq⟩) hx
 ·
  obtain _ := hx
  show JC _ _ _ [_, _, _, _] [_]
  refine Z2 7 ?_
  refine A7 _ rfl (decide_eq_true ZO) ?_
  refine Z2 4 ?_
  refine Z8 51 4 [(0, Ptr wb 0), (1, Ptr wb 0), (2, Ptr wb 0), (3, Ptr wb 1), (4, SL none 0 0), (5, U64 nv), (6, I64 ((k:Int) - 1)), (7, I64 (8*(k:Int) - 8)), (8, U64 (nv >>> UInt64.ofNat (8*k - 8))), (9, U8 ((nv >>> UInt64.ofNat (8*k - 8)).toUInt8))] ?_
  refine Z7 ⟨[], [0, 1, 2, 3, 4, 5, 6, 7, 8, 9], [], [0, 1, 2, 3, 4, 5, 6, 7, 8, 9], [10]⟩ 10 (hq := ⟨BM rfl rfl rfl, BM rfl rfl rfl, AA rfl rfl (B3 rfl), AA rfl rfl ZE, AA rfl rfl ZE, BM rfl rfl rfl, BM rfl rfl rfl, AA rfl rfl (AT rfl rfl fun _ => bin_mul_i _ _ (8*(k:Int) - 8) ZO ZO), AA rfl rfl (AT rfl rfl fun _ => EY nv _ _ (8*k - 8) ZO ZO), AA rfl rfl (EW _ _ rfl fun _ => conv_u64_u8 (by rw [BQ]; rfl) BS _), trivial⟩) (AL rfl (BF 5 1 _ [(0, U8 ((nv >>> UInt64.ofNat (8*k - 8)).toUInt8))] (cu8 ([(nv >>> UInt64.ofNat (8*k - 8)).toUInt8])) AM AW Tryd.zeroValue5 rfl rfl rfl ZR)) ?_
  rintro v1 L1 ⟨nb5, hnb5, rfl, rfl⟩
  refine ⟨[], ?_⟩
  show DP _ _ _ _ _ _ _ _ [_, _]
  refine Z7 ⟨[10], [0, 1, 2, 3, 4, 5, 6, 7, 8, 9], [5, 6, 7, 8, 9], [0, 1, 2, 3, 4], [11]⟩ 11 (hq := ⟨BM rfl rfl rfl, BM rfl rfl rfl, AA rfl rfl (B3 rfl), AA rfl rfl ZE, AA rfl rfl ZE, trivial⟩) (AL rfl (FD 43 5 [false, false] (SL none 0 0) 0 ([] : List UInt8) ([(nv >>> UInt64.ofNat (8*k - 8)).toUInt8]) (some ⟨nb5, 0, none⟩) 1 1 1 AM FC rfl (.inl ⟨rfl, rfl, rfl, rfl, ZO⟩) rfl ZM (SrcAt.mem (A0 1 rfl (AG _))) ZO ZX ZO)) ?_
  rintro v1 L1 ⟨nb6, sp3, cp3, hg3, rfl, rfl, ha9, ha10, ha11, ha12⟩
  refine ⟨[(12, Ptr wb 0), (13, Ptr wb 1)], ?_⟩
  show DP _ _ _ _ _ _ _ _ [_, _, _]
  refine Z6 ⟨[10, 11], [0, 1, 2, 3, 4, 5, 6, 7, 8, 9, 12, 13], [1, 2, 3, 4, 5, 6, 7, 8, 9], [0, 12, 13], [14]⟩ 14 (hq := ⟨BM rfl rfl rfl, AA rfl rfl (B3 rfl), AA rfl rfl ZE, trivial⟩) (AL rfl ZW) ?_
  show DP _ _ _ _ _ _ _ _ [_, _, _]
  refine Z5 ⟨[10, 11, 14], [0, 1, 2, 3, 4, 5, 6, 7, 8, 9, 12, 13], [0, 1, 2, 3, 4, 5, 6, 7, 8, 9, 12, 13], [], []⟩ ?_
  refine A9 (F' := [(36, Ptr wb 0), (37, Ptr wb 0), (38, Ptr wb 0), (39, Ptr wb 1), (40, SL none 0 0), (41, U64 nv), (42, I64 ((k:Int) - 1)), (43, I64 (8*(k:Int) - 8)), (44, U64 (nv >>> UInt64.ofNat (8*k - 8))), (45, U8 ((nv >>> UInt64.ofNat (8*k - 8)).toUInt8)), (46, Slc nb5 0 1 1), (47, Slc nb6 0 1 cp3), (48, Ptr wb 0), (49, Ptr wb 1), (0, Ptr wb 0), (1, U64 nv), (6, .pointer none), (7, I64 ((k:Int) - 1)), (32, I64 ((k:Int) - 1)), (33, .bool (decide ((0:Int) ≤ ((k:Int) - 1))))]) ZR ?_
  refine Z2 4 ?_
  refine AE (I64 ((k:Int) - 2)) (AT rfl rfl fun _ => EU _ _ ((k:Int) - 2) ZO ZO) rfl ?_
  refine Z2 2 ?_
  refine B5 (D7 [true, false, true] ?_)
  show K _ _ [_, _] _
  refine C1 (.inr (1, ([] : List UInt8) ++ ([(nv >>> UInt64.ofNat (8*k - 8)).toUInt8]), nb6, sp3, cp3)) ⟨ZO, ZO, by rw [numK_succ, numK_zero]; rfl, (ha9).trans (by first | rfl | simp +arith), (ha10).trans (by first | rfl | simp +arith), ZO, ha12⟩ (by first | (simp; omega) | simp | (dsimp only; omega) | omega) (Sub.cons rfl (Sub.cons rfl (Sub.cons rfl (Sub.cons (some_i64 ZO) (Sub.nil))))) rfl
 obtain ⟨hx0, hx1, hx2, hoq, hx4, hx5, hx6⟩ := hx
 show JC _ _ _ [_, _, _, _] [_, _]
 refine Z2 7 ?_
 refine AX _ rfl (fun hb3 => ?_) (fun hb3 => ?_)
 ·
  have hp3 := of_decide_eq_true hb3
  refine Z2 4 ?_
  refine Z8 51 4 [(0, Ptr wb 0), (1, Ptr wb 0), (2, Ptr wb 0), (3, Ptr wb 1), (4, Slc gq 0 q cpq), (5, U64 nv), (6, I64 ((k:Int) - (q:Int) - 1)), (7, I64 (8*(k:Int) - 8*(q:Int) - 8)), (8, U64 (nv >>> UInt64.ofNat (8*k - 8*q - 8))), (9, U8 ((nv >>> UInt64.ofNat (8*k - 8*q - 8)).toUInt8))] ?_
  refine Z7 ⟨[], [0, 1, 2, 3, 4, 5, 6, 7, 8, 9], [], [0, 1, 2, 3, 4, 5, 6, 7, 8, 9], [10]⟩ 10 (hq := ⟨BM rfl rfl rfl, BM rfl rfl rfl, AA rfl rfl (B3 rfl), AA rfl rfl ZE, AA rfl rfl ZE, BM rfl rfl rfl, BM rfl rfl rfl, AA rfl rfl (AT rfl rfl fun _ => bin_mul_i _ _ (8*(k:Int) - 8*(q:Int) - 8) ZO ZO), AA rfl rfl (AT rfl rfl fun _ => EY nv _ _ (8*k - 8*q - 8) ZO ZO), AA rfl rfl (EW _ _ rfl fun _ => conv_u64_u8 (by rw [BQ]; rfl) BS _), trivial⟩) (AL rfl (BF 5 1 _ [(0, U8 ((nv >>> UInt64.ofNat (8*k - 8*q - 8)).toUInt8))] (cu8 ([(nv >>> UInt64.ofNat (8*k - 8*q - 8)).toUInt8])) AM AW Tryd.zeroValue5 rfl rfl rfl ZR)) ?_
  rintro v1 L1 ⟨nb7, hnb7, rfl, rfl⟩
  refine ⟨[], ?_⟩
  show DP _ _ _ _ _ _ _ _ [_, _, _]
  refine Z7 ⟨[10], [0, 1, 2, 3, 4, 5, 6, 7, 8, 9], [5, 6, 7, 8, 9], [0, 1, 2, 3, 4], [11]⟩ 11 (hq := ⟨BM rfl rfl rfl, BM rfl rfl rfl, AA rfl rfl (B3 rfl), AA rfl rfl ZE, AA rfl rfl ZE, trivial⟩) (AL rfl (FD 43 5 [false, true, false] (Slc gq 0 q cpq) q oq ([(nv >>> UInt64.ofNat (8*k - 8*q - 8)).toUInt8]) (some ⟨nb7, 0, none⟩) 1 1 (q + 1) AM FC rfl (.inr ⟨gq, spq, cpq, rfl, rfl, (by first | exact hoq | simp [hoq]), hx4, ZO, ZO⟩) rfl ZM (SrcAt.mem (A0 2 rfl (AG _))) ZO ZX ZO)) ?_
  rintro v1 L1 ⟨nb8, sp4, cp4, hg4, rfl, rfl, ha13, ha14, ha15, ha16⟩
  refine ⟨[(12, Ptr wb 0), (13, Ptr wb 1)], ?_⟩
  show DP _ _ _ _ _ _ _ _ [_, _, _]
  refine Z6 ⟨[10, 11], [0, 1, 2, 3, 4, 5, 6, 7, 8, 9, 12, 13], [1, 2, 3, 4, 5, 6, 7, 8, 9], [0, 12, 13], [14]⟩ 14 (hq := ⟨BM rfl rfl rfl, AA rfl rfl (B3 rfl), AA rfl rfl ZE, trivial⟩) (AL rfl ZW) ?_
  show DP _ _ _ _ _ _ _ _ [_, _, _]
  refine Z5 ⟨[10, 11, 14], [0, 1, 2, 3, 4, 5, 6, 7, 8, 9, 12, 13], [0, 1, 2, 3, 4, 5, 6, 7, 8, 9, 12, 13], [], []⟩ ?_
  refine A9 (F' := [(36, Ptr wb 0), (37, Ptr wb 0), (38, Ptr wb 0), (39, Ptr wb 1), (40, Slc gq 0 q cpq), (41, U64 nv), (42, I64 ((k:Int) - (q:Int) - 1)), (43, I64 (8*(k:Int) - 8*(q:Int) - 8)), (44, U64 (nv >>> UInt64.ofNat (8*k - 8*q - 8))), (45, U8 ((nv >>> UInt64.ofNat (8*k - 8*q - 8)).toUInt8)), (46, Slc nb7 0 1 1), (47, Slc nb8 0 (q + 1) cp4), (48, Ptr wb 0), (49, Ptr wb 1), (0, Ptr wb 0), (1, U64 nv), (6, .pointer none), (7, I64 ((k:Int) - (q:Int) - 1)), (32, I64 ((k:Int) - (q:Int) - 1)), (33, .bool (decide ((0:Int) ≤ ((k:Int) - (q:Int) - 1))))]) ZR ?_
  refine Z2 4 ?_
  refine AE (I64 ((k:Int) - (q:Int) - 2)) (AT rfl rfl fun _ => EU _ _ ((k:Int) - (q:Int) - 2) ZO ZO) rfl ?_
  refine Z2 2 ?_
  refine B5 (D7 [true, false, true] ?_)
  show K _ _ [_, _] _
  refine C1 (.inr (q + 1, oq ++ ([(nv >>> UInt64.ofNat (8*k - 8*q - 8)).toUInt8]), nb8, sp4, cp4)) ⟨ZO, ZO, by rw [numK_succ, ← hx2], (ha13).trans (by first | rfl | simp +arith), (ha14).trans (by first | rfl | simp +arith), ZO, ha16⟩ (by first | (simp; omega) | simp | (dsimp only; omega) | omega) (Sub.cons rfl (Sub.cons rfl (Sub.cons rfl (Sub.cons (some_i64 ZO) (Sub.nil))))) rfl
 have hp3 := of_decide_eq_false hb3
 refine Z2 12 ?_
 refine Z1 fun w1 hw1 => ?_
 have e1 : q = k := by omega
 rw [hx2, e1] at hw1
 obtain rfl : tot = k := by omega
 exact ⟨_, _, rfl, ⟨rfl, gq, spq, cpq, rfl, ZO, ZO, hx6⟩, hw1⟩
theorem numO_c (wb gb n cap0 tot : Nat) (ev : Value) (o : List UInt8) (sp0 : List Value) (nv : UInt64) (k : Nat)  (w : World) (h0 : w.heap[wb]? = some (.cells [ev, Slc gb 0 n cap0].toArray 149 (0, 0))) (h1 : w.heap[gb]? = some (.cells (cu8 o ++ sp0).toArray 5 (0, 0))) (hne : wb ≠ gb) (ho : o.length = n) (hsp : sp0.length = cap0 - n) (hca : n ≤ cap0) (hcm : cap0 ≤ maxLen) (hn : n ≤ 1000000000) (hs : Szd (k:Int)) (hx : k < 8 → nv >>> UInt64.ofNat (8*k) = 0) (ht : n + k = tot) : Calls Tryd.prog 81 #[Ptr wb 0, U64 nv, I64 k] w (Post w [wb, gb] (fun v L => v = Ptr wb 0 ∧ ∃ g sp cap, L = [(Ez wb [ev, Slc g 0 tot cap] 149), (Ez g (cu8 (o ++ numK k nv k) ++ sp) 5)] ∧ sp.length = cap - tot ∧ tot ≤ cap ∧ cap ≤ maxLen)) := by
 have hmx : maxLen = 9223372036854775807 := rfl
 have hs4 : k = 1 ∨ k = 2 ∨ k = 4 ∨ k = 8 := by unfold Szd at hs; omega
 refine enter w [wb, gb] 51 [(Ez wb [ev, Slc gb 0 n cap0] 149), (Ez gb (cu8 o ++ sp0) 5)] [Ptr wb 0, U64 nv, I64 k] Tryd.func81 rfl rfl ZM (A2 (by simp; exact ⟨h0, h1⟩) (by simp; exact hne) ZM) ?_
 show JC _ _ _ [_, _, _] _
 refine Z2 9 ?_
 refine AE (.bool false) (CG _ _ _ rfl rfl (fun _ => EQ ..) fun _ => EX Tryd.underlying145) rfl ?_
 refine A1 (AK (AY _ rfl rfl ?_))
 refine Z2 6 ?_
 refine AC (AJ 143 _ (.bool true) (AH _ Tryd.call143 rfl) (fun w1 _ => sizedT_c ((k:Int)) w1 hs)) rfl ?_
 show JL _ _ _ _ (_ :: _) [_, _]
 refine Z2 5 ?_
 rcases Bool.eq_false_or_eq_true (decide (((k:Int)) < (8:Int))) with hb1 | hb1
 ·
  have hp1 := of_decide_eq_true hb1
  refine Z2 2 ?_
  refine AD 6 16 true _ (I64 (8*(k:Int))) rfl rfl hb1 (AT rfl rfl fun _ => bin_mul_i _ _ (8*(k:Int)) ZO ZO) rfl ?_
  refine AD 6 16 true _ (U64 (nv >>> UInt64.ofNat (8*k))) rfl rfl hb1 (AT rfl rfl fun _ => EY nv _ _ (8*k) ZO ZO) rfl ?_
  refine AD 6 16 true _ (.bool (decide ((nv >>> UInt64.ofNat (8*k)) ≠ (0:UInt64)))) rfl rfl hb1 (AT rfl rfl fun _ => CL (nv >>> UInt64.ofNat (8*k)) (0:UInt64)) rfl ?_
  refine Z2 4 ?_
  refine AY _ rfl (decide_eq_false (fun h => h (hx ZO))) ?_
  refine Z2 6 ?_
  refine AE (I64 ((k:Int) - 1)) (AT rfl rfl fun _ => EU _ _ ((k:Int) - 1) ZO ZO) rfl ?_
  refine Z2 4 ?_
  refine C3 (ι := Nat × List UInt8 × Nat × List Value × Nat) (fun ⟨q, oq, gq, spq, cpq⟩ => [(0, Ptr wb 0), (1, U64 nv), (6, .pointer none), (7, I64 ((k:Int) - (q:Int) - 1))]) (fun ⟨q, oq, gq, spq, cpq⟩ => [(Ez wb [ev, Slc gq 0 (n + q) cpq] 149), (Ez gq (cu8 oq ++ spq) 5)]) (fun ⟨q, oq, gq, spq, cpq⟩ => q ≤ k ∧ oq = o ++ numK k nv q ∧ oq.length = (n + q) ∧ spq.length = cpq - ((n + q)) ∧ (n + q) ≤ cpq ∧ cpq ≤ maxLen) (fun ⟨q, oq, gq, spq, cpq⟩ => k - q) (0, o, gb, sp0, cap0) ⟨ZO, by rw [numK_zero, List.append_nil], ZO, ZO, ZO, hcm⟩ (Sub.cons rfl (Sub.cons rfl (Sub.cons rfl (Sub.cons (some_i64 ZO) (Sub.nil))))) rfl ?_
  rintro ⟨q, oq, gq, spq, cpq⟩ ⟨hx1, hx2, hoq, hx4, hx5, hx6⟩
  show JC _ _ _ [_, _, _, _] [_, _]
  refine Z2 7 ?_
  refine AX _ rfl (fun hb2 => ?_) (fun hb2 => ?_)
  ·
   have hp2 := of_decide_eq_true hb2
   refine CY (AK (A4 (JC_block (Z8 51 4 [(0, Ptr wb 0), (1, Ptr wb 0), (2, Ptr wb 0), (3, Ptr wb 1), (4, Slc gq 0 (n + q) cpq), (5, U64 nv), (6, I64 ((k:Int) - (q:Int) - 1)), (7, I64 (8*(k:Int) - 8*(q:Int) - 8)), (8, U64 (nv >>> UInt64.ofNat (8*k - 8*q - 8))), (9, U8 ((nv >>> UInt64.ofNat (8*k - 8*q - 8)).toUInt8))] ?_))))
   refine Z7 ⟨[], [0, 1, 2, 3, 4, 5, 6, 7, 8, 9], [], [0, 1, 2, 3, 4, 5, 6, 7, 8, 9], [10]⟩ 10 (hq := ⟨BM rfl rfl rfl, BM rfl rfl rfl, AA rfl rfl (B3 rfl), AA rfl rfl ZE, AA rfl rfl ZE, BM rfl rfl rfl, BM rfl rfl rfl, AA rfl rfl (AT rfl rfl fun _ => bin_mul_i _ _ (8*(k:Int) - 8*(q:Int) - 8) ZO ZO), AA rfl rfl (AT rfl rfl fun _ => EY nv _ _ (8*k - 8*q - 8) ZO ZO), AA rfl rfl (EW _ _ rfl fun _ => conv_u64_u8 (by rw [BQ]; rfl) BS _), trivial⟩) (AL rfl (BF 5 1 _ [(0, U8 ((nv >>> UInt64.ofNat (8*k - 8*q - 8)).toUInt8))] (cu8 ([(nv >>> UInt64.ofNat (8*k - 8*q - 8)).toUInt8])) AM AW Tryd.zeroValue5 rfl rfl rfl ZR)) ?_
   rintro v1 L1 ⟨nb1, hnb1, rfl, rfl⟩
   refine ⟨[], ?_⟩
   show DP _ _ _ _ _ _ _ _ [_, _, _]
   refine Z7 ⟨[10], [0, 1, 2, 3, 4, 5, 6, 7, 8, 9], [5, 6, 7, 8, 9], [0, 1, 2, 3, 4], [11]⟩ 11 (hq := ⟨BM rfl rfl rfl, BM rfl rfl rfl, AA rfl rfl (B3 rfl), AA rfl rfl ZE, AA rfl rfl ZE, trivial⟩) (AL rfl (FD 43 5 [false, true, false] (Slc gq 0 (n + q) cpq) (n + q) oq ([(nv >>> UInt64.ofNat (8*k - 8*q - 8)).toUInt8]) (some ⟨nb1, 0, none⟩) 1 1 (n + q + 1) AM FC rfl (.inr ⟨gq, spq, cpq, rfl, rfl, (by first | exact hoq | simp [hoq]), hx4, ZO, ZO⟩) rfl ZM (SrcAt.mem (A0 2 rfl (AG _))) ZO ZX ZO)) ?_
   rintro v1 L1 ⟨nb2, sp1, cp1, hg1, rfl, rfl, ha1, ha2, ha3, ha4⟩
   refine ⟨[(12, Ptr wb 0), (13, Ptr wb 1)], ?_⟩
   show DP _ _ _ _ _ _ _ _ [_, _, _]
   refine Z6 ⟨[10, 11], [0, 1, 2, 3, 4, 5, 6, 7, 8, 9, 12, 13], [1, 2, 3, 4, 5, 6, 7, 8, 9], [0, 12, 13], [14]⟩ 14 (hq := ⟨BM rfl rfl rfl, AA rfl rfl (B3 rfl), AA rfl rfl ZE, trivial⟩) (AL rfl ZW) ?_
   show DP _ _ _ _ _ _ _ _ [_, _, _]
   refine Z5 ⟨[10, 11, 14], [0, 1, 2, 3, 4, 5, 6, 7, 8, 9, 12, 13], [0, 1, 2, 3, 4, 5, 6, 7, 8, 9, 12, 13], [], []⟩ ?_
   refine A9 (F' := [(36, Ptr wb 0), (37, Ptr wb 0), (38, Ptr wb 0), (39, Ptr wb 1), (40, Slc gq 0 (n + q) cpq), (41, U64 nv), (42, I64 ((k:Int) - (q:Int) - 1)), (43, I64 (8*(k:Int) - 8*(q:Int) - 8)), (44, U64 (nv >>> UInt64.ofNat (8*k - 8*q - 8))), (45, U8 ((nv >>> UInt64.ofNat (8*k - 8*q - 8)).toUInt8)), (46, Slc nb1 0 1 1), (47, Slc nb2 0 (n + q + 1) cp1), (48, Ptr wb 0), (49, Ptr wb 1), (0, Ptr wb 0), (1, U64 nv), (6, .pointer none), (7, I64 ((k:Int) - (q:Int) - 1)), (32, I64 ((k:Int) - (q:Int) - 1)), (33, .bool (decide ((0:Int) ≤ ((k:Int) - (q:Int) - 1))))]) ZR ?_
   refine Z2 4 ?_
   refine AE (I64 ((k:Int) - (q:Int) - 2)) (AT rfl rfl fun _ => EU _ _ ((k:Int) - (q:Int) - 2) ZO ZO) rfl ?_
   refine Z2 2 ?_
   refine B5 (D7 [true, false, true] ?_)
   show K _ _ [_, _] _
   refine C1 (q + 1, oq ++ ([(nv >>> UInt64.ofNat (8*k - 8*q - 8)).toUInt8]), nb2, sp1, cp1) ⟨ZO, by rw [numK_succ, ← List.append_assoc, ← hx2], (ha1).trans (by first | rfl | simp +arith), (ha2).trans (by first | rfl | simp +arith), ZO, ha4⟩ (by first | (simp; omega) | simp | (dsimp only; omega) | omega) (Sub.cons rfl (Sub.cons rfl (Sub.cons rfl (Sub.cons (some_i64 ZO) (Sub.nil))))) rfl
  have hp2 := of_decide_eq_false hb2
  refine Z2 12 ?_
  refine Z1 fun w1 hw1 => ?_
  have e1 : q = k := by omega
  rw [hx2, e1] at hw1
  obtain rfl : tot = n + k := by omega
  exact ⟨_, _, rfl, ⟨rfl, gq, spq, cpq, rfl, ZO, ZO, hx6⟩, hw1⟩
 have hp1 := of_decide_eq_false hb1
 refine Z2 9 ?_
 refine AY _ rfl rfl ?_
 refine Z2 6 ?_
 refine AE (I64 ((k:Int) - 1)) (AT rfl rfl fun _ => EU _ _ ((k:Int) - 1) ZO ZO) rfl ?_
 refine Z2 4 ?_
 refine C3 (ι := Nat × List UInt8 × Nat × List Value × Nat) (fun ⟨q, oq, gq, spq, cpq⟩ => [(0, Ptr wb 0), (1, U64 nv), (6, .pointer none), (7, I64 ((k:Int) - (q:Int) - 1))]) (fun ⟨q, oq, gq, spq, cpq⟩ => [(Ez wb [ev, Slc gq 0 (n + q) cpq] 149), (Ez gq (cu8 oq ++ spq) 5)]) (fun ⟨q, oq, gq, spq, cpq⟩ => q ≤ k ∧ oq = o ++ numK k nv q ∧ oq.length = (n + q) ∧ spq.length = cpq - ((n + q)) ∧ (n + q) ≤ cpq ∧ cpq ≤ maxLen) (fun ⟨q, oq, gq, spq, cpq⟩ => k - q) (0, o, gb, sp0, cap0) ⟨ZO, by rw [numK_zero, List.append_nil], ZO, ZO, ZO, hcm⟩ (Sub.cons rfl (Sub.cons rfl (Sub.cons rfl (Sub.cons (some_i64 ZO) (Sub.nil))))) rfl ?_
 rintro ⟨q, oq, gq, spq, cpq⟩ ⟨hx1, hx2, hoq, hx4, hx5, hx6⟩
 show JC _ _ _ [_, _, _, _] [_, _]
 refine Z2 7 ?_
 refine AX _ rfl (fun hb3 => ?_) (fun hb3 => ?_)
 ·
  have hp3 := of_decide_eq_true hb3
  refine Z2 4 ?_
  refine Z8 51 4 [(0, Ptr wb 0), (1, Ptr wb 0), (2, Ptr wb 0), (3, Ptr wb 1), (4, Slc gq 0 (n + q) cpq), (5, U64 nv), (6, I64 ((k:Int) - (q:Int) - 1)), (7, I64 (8*(k:Int) - 8*(q:Int) - 8)), (8, U64 (nv >>> UInt64.ofNat (8*k - 8*q - 8))), (9, U8 ((nv >>> UInt64.ofNat (8*k - 8*q - 8)).toUInt8))] ?_
  refine Z7 ⟨[], [0, 1, 2, 3, 4, 5, 6, 7, 8, 9], [], [0, 1, 2, 3, 4, 5, 6, 7, 8, 9], [10]⟩ 10 (hq := ⟨BM rfl rfl rfl, BM rfl rfl rfl, AA rfl rfl (B3 rfl), AA rfl rfl ZE, AA rfl rfl ZE, BM rfl rfl rfl, BM rfl rfl rfl, AA rfl rfl (AT rfl rfl fun _ => bin_mul_i _ _ (8*(k:Int) - 8*(q:Int) - 8) ZO ZO), AA rfl rfl (AT rfl rfl fun _ => EY nv _ _ (8*k - 8*q - 8) ZO ZO), AA rfl rfl (EW _ _ rfl fun _ => conv_u64_u8 (by rw [BQ]; rfl) BS _), trivial⟩) (AL rfl (BF 5 1 _ [(0, U8 ((nv >>> UInt64.ofNat (8*k - 8*q - 8)).toUInt8))] (cu8 ([(nv >>> UInt64.ofNat (8*k - 8*q - 8)).toUInt8])) AM AW Tryd.zeroValue5 rfl rfl rfl ZR)) ?_
  rintro v1 L1 ⟨nb3, hnb3, rfl, rfl⟩
  refine ⟨[], ?_⟩
  show DP _ _ _ _ _ _ _ _ [_, _, _]
  refine Z7 ⟨[10], [0, 1, 2, 3, 4, 5, 6, 7, 8, 9], [5, 6, 7, 8, 9], [0, 1, 2, 3, 4], [11]⟩ 11 (hq := ⟨BM rfl rfl rfl, BM rfl rfl rfl, AA rfl rfl (B3 rfl), AA rfl rfl ZE, AA rfl rfl ZE, trivial⟩) (AL rfl (FD 43 5 [false, true, false] (Slc gq 0 (n + q) cpq) (n + q) oq ([(nv >>> UInt64.ofNat (8*k - 8*q - 8)).toUInt8]) (some ⟨nb3, 0, none⟩) 1 1 (n + q + 1) AM FC rfl (.inr ⟨gq, spq, cpq, rfl, rfl, (by first | exact hoq | simp [hoq]), hx4, ZO, ZO⟩) rfl ZM (SrcAt.mem (A0 2 rfl (AG _))) ZO ZX ZO)) ?_
  rintro v1 L1 ⟨nb4, sp2, cp2, hg2, rfl, rfl, ha5, ha6, ha7, ha8⟩
  refine ⟨[(12, Ptr wb 0), (13, Ptr wb 1)], ?_⟩
  show DP _ _ _ _ _ _ _ _ [_, _, _]
  refine Z6 ⟨[10, 11], [0, 1, 2, 3, 4, 5, 6, 7, 8, 9, 12, 13], [1, 2, 3, 4, 5, 6, 7, 8, 9], [0, 12, 13], [14]⟩ 14 (hq := ⟨BM rfl rfl rfl, AA rfl rfl (B3 rfl), AA rfl rfl ZE, trivial⟩) (AL rfl ZW) ?_
  show DP _ _ _ _ _ _ _ _ [_, _, _]
  refine Z5 ⟨[10, 11, 14], [0, 1, 2, 3, 4, 5, 6, 7, 8, 9, 12, 13], [0, 1, 2, 3, 4, 5, 6, 7, 8, 9, 12, 13], [], []⟩ ?_
  refine A9 (F' := [(36, Ptr wb 0), (37, Ptr wb 0), (38, Ptr wb 0), (39, Ptr wb 1), (40, Slc gq 0 (n + q) cpq), (41, U64 nv), (42, I64 ((k:Int) - (q:Int) - 1)), (43, I64 (8*(k:Int) - 8*(q:Int) - 8)), (44, U64 (nv >>> UInt64.ofNat (8*k - 8*q - 8))), (45, U8 ((nv >>> UInt64.ofNat (8*k - 8*q - 8)).toUInt8)), (46, Slc nb3 0 1 1), (47, Slc nb4 0 (n + q + 1) cp2), (48, Ptr wb 0), (49, Ptr wb 1), (0, Ptr wb 0), (1, U64 nv), (6, .pointer none), (7, I64 ((k:Int) - (q:Int) - 1)), (32, I64 ((k:Int) - (q:Int) - 1)), (33, .bool (decide ((0:Int) ≤ ((k:Int) - (q:Int) - 1))))]) ZR ?_
  refine Z2 4 ?_
  refine AE (I64 ((k:Int) - (q:Int) - 2)) (AT rfl rfl fun _ => EU _ _ ((k:Int) - (q:Int) - 2) ZO ZO) rfl ?_
  refine Z2 2 ?_
  refine B5 (D7 [true, false, true] ?_)
  show K _ _ [_, _] _
  refine C1 (q + 1, oq ++ ([(nv >>> UInt64.ofNat (8*k - 8*q - 8)).toUInt8]), nb4, sp2, cp2) ⟨ZO, by rw [numK_succ, ← List.append_assoc, ← hx2], (ha5).trans (by first | rfl | simp +arith), (ha6).trans (by first | rfl | simp +arith), ZO, ha8⟩ (by first | (simp; omega) | simp | (dsimp only; omega) | omega) (Sub.cons rfl (Sub.cons rfl (Sub.cons rfl (Sub.cons (some_i64 ZO) (Sub.nil))))) rfl
 have hp3 := of_decide_eq_false hb3
 refine Z2 12 ?_
 refine Z1 fun w1 hw1 => ?_
 have e1 : q = k := by omega
 rw [hx2, e1] at hw1
 obtain rfl : tot = n + k := by omega
 exact ⟨_, _, rfl, ⟨rfl, gq, spq, cpq, rfl, ZO, ZO, hx6⟩, hw1⟩
theorem rawO_c (wb gb n cap0 tot : Nat) (ev : Value) (o : List UInt8) (sp0 : List Value) (ax : Option Addr) (p cx : Nat) (z : List UInt8) (w : World) (h0 : w.heap[wb]? = some (.cells [ev, Slc gb 0 n cap0].toArray 149 (0, 0))) (h1 : w.heap[gb]? = some (.cells (cu8 o ++ sp0).toArray 5 (0, 0))) (hne : wb ≠ gb) (ho : o.length = n) (hsp : sp0.length = cap0 - n) (hca : n ≤ cap0) (hcm : cap0 ≤ maxLen) (hn : n ≤ 1000000000) (hz : z.length = p) (hm : p ≤ 1000000000) (hr : RdB w [wb, gb] ax z) (ht : n + p = tot) : Calls Tryd.prog 82 #[Ptr wb 0, SL ax p cx] w (Post w [wb, gb] (fun v L => v = Ptr wb 0 ∧ ∃ g sp cap, L = [(Ez wb [ev, Slc g 0 tot cap] 149), (Ez g (cu8 (o ++ z) ++ sp) 5)] ∧ sp.length = cap - tot ∧ tot ≤ cap ∧ cap ≤ maxLen)) := by
 have hmx : maxLen = 9223372036854775807 := rfl
 refine enter w [wb, gb] 17 [(Ez wb [ev, Slc gb 0 n cap0] 149), (Ez gb (cu8 o ++ sp0) 5)] [Ptr wb 0, SL ax p cx] Tryd.func82 rfl rfl ZM (A2 (by simp; exact ⟨h0, h1⟩) (by simp; exact hne) ZM) ?_
 show JC _ _ _ [_, _] _
 refine Z2 9 ?_
 refine AE (.bool false) (CG _ _ _ rfl rfl (fun _ => EQ ..) fun _ => EX Tryd.underlying145) rfl ?_
 refine A1 (AK (AY _ rfl rfl ?_))
 refine Z2 6 ?_
 refine AE _ (B3 rfl) rfl ?_
 refine Z2 3 ?_
 refine AF (FD 43 5 [false, true] (Slc gb 0 n cap0) n o z ax p cx (n + p) AM FC rfl (.inr ⟨gb, sp0, cap0, rfl, rfl, (by first | exact ho | simp [ho]), hsp, ZO, ZO⟩) rfl (by first | exact hz | simp [hz]; try omega) (hr.src) ZO ZX ZO) rfl ?_
 rintro v1 L1 ⟨nb1, sp1, cp1, hg1, rfl, rfl, ha1, ha2, ha3, ha4⟩
 show JL _ _ _ _ (_ :: _) [_, _]
 refine AE _ (B3 rfl) rfl ?_
 refine Z2 11 ?_
 refine Z1 fun w1 hw1 => ?_
 obtain rfl : tot = (n + p) := by omega
 exact ⟨_, _, rfl, ⟨rfl, nb1, sp1, cp1, rfl, ha2, ha3, ha4⟩, hw1⟩
end Go.Proofs.YtkdpdgpphpngeaaDoor
namespace Go.Proofs.YtkdpdgpphpngeaaDoor
open Go Go.Sx
open Go.Value renaming slice → SL
attribute [local irreducible] mid zr8 JL JC JQ DP Ev Ld MemAt Seg Step Cl RV Qok Cok
def constL : List UInt32 := [1116352408, 1899447441, 3049323471, 3921009573, 961987163, 1508970993, 2453635748, 2870763221, 3624381080, 310598401, 607225278, 1426881987, 1925078388, 2162078206, 2614888103, 3248222580, 3835390401, 4022224774, 264347078, 604807628, 770255983, 1249150122, 1555081692, 1996064986, 2554220882, 2821834349, 2952996808, 3210313671, 3336571891, 3584528711, 113926993, 338241895, 666307205, 773529912, 1294757372, 1396182291, 1695183700, 1986661051, 2177026350, 2456956037, 2730485921, 2820302411, 3259730800, 3345764771, 3516065817, 3600352804, 4094571909, 275423344, 430227734, 506948616, 659060556, 883997877, 958139571, 1322822218, 1537002063, 1747873779, 1955562222, 2024104815, 2227730452, 2361852424, 2428436474, 2756734187, 3204031479, 3329325298]
def initL : List UInt32 := [1779033703, 3144134277, 1013904242, 2773480762, 1359893119, 2600822924, 528734635, 1541459225]
theorem constL_len : constL.length = 64 := rfl
theorem initL_len : initL.length = 8 := rfl
def GLs (w : World) : Prop := RdA w 5 0 (cu32 constL) ∧ RdA w 3 0 (cu32 initL)
def GLr (w : World) : Prop := RdA w 2 0 (cu32 constL)
def GLi (w : World) : Prop := RdA w 1 0 (cu32 initL)
theorem RdA_at {C : Cx} {L : List Ent} {w : World} {b off : Nat} {vs : List Value} (hw : Hp C.w0 C.M L w) (h : RdA C.w0 b off vs) (hz : 0 < vs.length) (hM : b ∉ C.M) : RdA w b off vs := RdA.of hw (h.mem hM) hz
theorem GLs.at {C : Cx} {L : List Ent} {w : World} (hw : Hp C.w0 C.M L w) (h : GLs C.w0) (h1 : 5 ∉ C.M := by simp) (h2 : 3 ∉ C.M := by simp) : GLs w := ⟨RdA_at hw h.1 (by simp [constL_len]) h1, RdA_at hw h.2 (by simp [initL_len]) h2⟩
theorem GLr.at {C : Cx} {L : List Ent} {w : World} (hw : Hp C.w0 C.M L w) (h : GLr C.w0) (h1 : 2 ∉ C.M := by simp) : GLr w := RdA_at hw h (by simp [constL_len]) h1
theorem GLi.at {C : Cx} {L : List Ent} {w : World} (hw : Hp C.w0 C.M L w) (h : GLi C.w0) (h1 : 1 ∉ C.M := by simp) : GLi w := RdA_at hw h (by simp [initL_len]) h1
attribute [local irreducible] constL initL
theorem scloneNil_c  (w : World) : Calls Tryd.prog 108 #[SL none 0 0] w (Post w [] (fun v L => v = SL none 0 0 ∧ L = [])) := by
 refine enter w [] 8 [] [SL none 0 0] Tryd.func108 rfl rfl ZM (A2 ZM ZM ZM) ?_
 show JC _ _ _ [_] _
 refine Z2 9 ?_
 refine AE (.bool true) (CG _ _ _ rfl rfl (fun _ => eqGuard_sl ..) fun _ => eql_sl_nil_nil AM) rfl ?_
 refine A1 (AK (A7 _ rfl rfl ?_))
 refine Z2 7 ?_
 refine Z1 fun w1 hw1 => ?_
 exact ⟨_, [], rfl, ⟨rfl, rfl⟩, hw1.no⟩
theorem sclone_c (ao : Option Addr) (n cb : Nat) (b : List UInt8) (w : World) (ha : ao.isNone = false) (hb : b.length = n) (hn : n ≤ 35184372088832) (hr : RdB w [] ao b) : Calls Tryd.prog 108 #[SL ao n cb] w (Post w [] (fun v L => ∃ g sp cap, v = Slc g 0 n cap ∧ L = [(Ez g (cu8 (b) ++ sp) 5)] ∧ sp.length = cap - n ∧ n ≤ cap ∧ cap ≤ maxLen)) := by
 refine enter w [] 8 [] [SL ao n cb] Tryd.func108 rfl rfl ZM (A2 ZM ZM ZM) ?_
 show JC _ _ _ [_] _
 refine Z2 9 ?_
 refine AE (.bool ao.isNone) (CG _ _ _ rfl rfl (fun _ => eqGuard_sl ..) fun _ => eql_sl_any AM) rfl ?_
 refine A1 (AK (AY _ rfl ha ?_))
 refine Z2 4 ?_
 refine AF (Step_buildSlice0 5 1 AM AW) rfl ?_
 rintro v1 L1 ⟨nb1, hnb1, rfl, rfl⟩
 show JL _ _ _ _ (_ :: _) [_]
 refine Z2 1 ?_
 refine AF (FD 43 5 [true] (Slc nb1 0 0 0) 0 ([] : List UInt8) b ao n cb n AM FC rfl (.inr ⟨nb1, [], 0, rfl, (by simp [take?, cu8, cu32, cu64]), rfl, ZM, ZO, ZX⟩) rfl (by first | exact hb | simp [hb]; try omega) (hr.src) ZO ZX ZO) rfl ?_
 rintro v1 L1 ⟨nb2, sp1, cp1, hg1, rfl, rfl, ha1, ha2, ha3, ha4⟩
 show JL _ _ _ _ (_ :: _) [_]
 refine Z2 4 ?_
 refine Z1 fun w1 hw1 => ?_
 exact ⟨_, _, rfl, ⟨nb2, sp1, cp1, rfl, rfl, ha2, ha3, ha4⟩, hw1⟩
theorem GLs.round {w W : World} {M S : List Nat} {l : Nat} {o : Obj} (h : GLs w) (hB : ∀ b, b < w.heap.size → b ∉ M → W.heap[b]? = w.heap[b]? ∧ b ∉ S ∧ b ≠ l) (h1 : 5 ∉ M := by simp) (h2 : 3 ∉ M := by simp) : GLs (W.putObj l o) ∧ 5 ∉ S ∧ 3 ∉ S := by
 have key : ∀ b vs, b ∉ M → RdA w b 0 vs → RdA (W.putObj l o) b 0 vs ∧ b ∉ S := by
  intro b vs hM hr
  obtain ⟨e1, e2, e3⟩ := hB b hr.1 hM
  have e4 : (W.putObj l o).heap[b]? = w.heap[b]? := (World.putObj_heap_other e3).trans e1
  refine ⟨⟨?_, fun j v hj => ?_⟩, e2⟩
  ·
   have : w.heap[b]? ≠ none := by simp; exact hr.1
   rw [← e4] at this
   simp at this
   simpa using this
  ·
   have := hr.2 j v hj
   simp only [World.cell?, e4] at this ⊢
   exact this
 exact ⟨⟨(key _ _ h1 h.1).1, (key _ _ h2 h.2).1⟩, (key _ _ h1 h.1).2, (key _ _ h2 h.2).2⟩
end Go.Proofs.YtkdpdgpphpngeaaDoor
namespace Go.Proofs.YtkdpdgpphpngeaaDoor
open Go Go.Sx
open Go.Value renaming slice → SL
attribute [local irreducible] mid zr8 numK valK rvalK JL JC JQ DP Ev Ld MemAt Seg Step Cl RV Qok Cok
theorem doneO_c (wb e gb n cap0 : Nat) (o : List UInt8) (w : World) (hw : RdA w wb 0 [errV 50 e, Slc gb 0 n cap0]) (he : e = 0) (ho : o.length = n) (hn : n ≤ 2000000000) (hr : RdB w [] (some ⟨gb, 0, none⟩) o) : Calls Tryd.prog 83 #[Ptr wb 0] w (Post w [] (fun v L => ∃ g sp cap, v = .tuple #[Slc g 0 n cap, .nilIface] ∧ L = [(Ez g (cu8 o ++ sp) 5)] ∧ sp.length = cap - n ∧ n ≤ cap ∧ cap ≤ maxLen)) := by
 refine enter w [] 25 [] [Ptr wb 0] Tryd.func83 rfl rfl ZM (A2 ZM ZM ZM) ?_
 show JC _ _ _ [_] _
 refine Z2 11 ?_
 refine AE (.bool false) (CG _ _ _ rfl rfl (fun _ => EQ ..) fun _ => EX Tryd.underlying145) rfl ?_
 refine Z2 3 ?_
 refine AY _ rfl rfl ?_
 refine Z2 3 ?_
 refine AE _ (B3 rfl) rfl ?_
 refine Z2 2 ?_
 refine AE _ (AR rfl (B1 Tryd.isAgg45 (BP (hw.mem ZM) (Seg.head) (by first | omega | (simp; done) | (simp; omega))))) rfl ?_
 refine AE (.bool (!(decide (e = 0)))) (CG _ _ _ rfl rfl (fun _ => BL ..) fun _ => CW AV _ _) rfl ?_
 refine Z2 3 ?_
 refine AY _ rfl (by rw [show (decide (e = 0)) = true from (decide_eq_true he)] <;> rfl) ?_
 refine Z2 6 ?_
 refine AE _ (B3 rfl) rfl ?_
 refine Z2 1 ?_
 refine AE _ (AR rfl (B1 Tryd.isAgg43 (BP (hw.mem ZM) (B0 (Seg.head)) (by first | omega | (simp; done) | (simp; omega))))) rfl ?_
 refine AF (A5 108 _ _ (AH _ Tryd.call108 rfl) (fun w1 hw1 => sclone_c (some ⟨gb, 0, none⟩) n cap0 o w1 rfl ho ZO (hr.at (M' := []) hw1 ZM))) rfl ?_
 rintro v1 L1 ⟨_, ⟨nb1, sp1, cp1, rfl, rfl, hc1, hc2, hc3⟩, rfl⟩
 show JL _ _ _ _ (_ :: _) [_]
 refine Z2 5 ?_
 refine Z1 fun w1 hw1 => ?_
 exact ⟨_, _, rfl, ⟨nb1, sp1, cp1, rfl, rfl, hc1, hc2, hc3⟩, hw1.sub ZM ZM⟩
theorem errNo_c  (w : World) : Calls Tryd.prog 29 #[.nilIface] w (Post w [] (fun v L => v = I64 0 ∧ L = [])) := by
 refine enter w [] 18 [] [.nilIface] Tryd.func29 rfl rfl ZM (A2 ZM ZM ZM) ?_
 show JC _ _ _ [_] _
 refine Z2 9 ?_
 refine AE (.bool true) (CG _ _ _ rfl rfl (fun _ => eqGuard_nn ..) fun _ => eql_if_nil_nil AV) rfl ?_
 refine A1 (AK (A7 _ rfl rfl ?_))
 refine Z2 7 ?_
 refine Z1 fun w1 hw1 => ?_
 exact ⟨_, [], rfl, ⟨rfl, rfl⟩, hw1.no⟩
theorem errSome_c (e : Nat) (w : World) (he : e ≠ 0) : Calls Tryd.prog 29 #[.iface 50 (I64 e)] w (Post w [] (fun v L => v = I64 (e : Int) ∧ L = [])) := by
 refine enter w [] 18 [] [.iface 50 (I64 e)] Tryd.func29 rfl rfl ZM (A2 ZM ZM ZM) ?_
 show JC _ _ _ [_] _
 refine Z2 9 ?_
 refine AE (.bool false) (CG _ _ _ rfl rfl (fun _ => eqGuard_if ..) fun _ => eql_if_nil AV) rfl ?_
 refine A1 (AK (AY _ rfl rfl ?_))
 refine Z2 6 ?_
 refine AE (.tuple #[I64 e, .bool true]) (Ev_assert _ _ rfl (fun _ => by kernel_rfl)) rfl ?_
 refine Z2 16 ?_
 refine A7 _ rfl (decide_eq_true ZO) ?_
 refine Z2 8 ?_
 refine Z1 fun w1 hw1 => ?_
 exact ⟨_, [], rfl, ⟨rfl, rfl⟩, hw1.no⟩
theorem errNum_w (e : Nat) (w : World) : Calls Tryd.prog 29 #[errV 50 e] w (Post w [] (fun v L => v = I64 (e : Int) ∧ L = [])) := by
 by_cases he : e = 0
 ·
  subst he; exact errNo_c w
 ·
  rw [errV_pos he]; exact errSome_c e w he
theorem is_c (e k : Nat) (w : World) : Calls Tryd.prog 23 #[errV 50 e, I64 k] w (Post w [] (fun v L => v = .bool (decide ((e:Int) = (k:Int))) ∧ L = [])) := by
 refine enter w [] 9 [] [errV 50 e, I64 k] Tryd.func23 rfl rfl ZM (A2 ZM ZM ZM) ?_
 show JC _ _ _ [_, _] _
 refine Z2 8 ?_
 refine AC (AJ 29 _ (I64 e) (AH _ Tryd.call29 rfl) (fun w1 hw1 => errNum_w e w1)) rfl ?_
 show JL _ _ _ _ (_ :: _) []
 refine Z2 6 ?_
 refine Z1 fun w1 hw1 => ?_
 exact ⟨_, [], rfl, ⟨rfl, rfl⟩, hw1.no⟩
end Go.Proofs.YtkdpdgpphpngeaaDoor
namespace Go.Proofs.YtkdpdgpphpngeaaDoor
open Go Go.Sx
open Go.Value renaming slice → SL
def putL (e : UInt64) (d t : List UInt8) : List UInt8 := (numK 8 e 8 ++ d) ++ t
theorem putL_len {e : UInt64} {d t : List UInt8} (hd : d.length = 32) (ht : t.length = 16) : (putL e d t).length = 56 := by
 unfold putL; rw [List.length_append, List.length_append, BI, hd, ht]
end Go.Proofs.YtkdpdgpphpngeaaDoor
namespace Go.Sx
open Go Go.RowKit
open Go.ChangeShapes Go.WideShapes
section
variable {H : Type} {enc : TypeId × Value → H} {P : Program} {w : World} {base : Nat} {spare : Nat → Bool} {held : Bool} {sz : Bool}
def TD (enc : TypeId × Value → H) (P : Program) (w : World) (base : Nat) (spare : Nat → Bool) (held sz : Bool) (t : TypeId) (cs : List Value) : Prop :=
 ∃ fuel d ps, DataW.trod enc P w base spare held fuel t cs = some (d, ps) ∧ (sz = true → (d.weights P t).all (· ≤ reachBytes) = true)
theorem TD.of {t : TypeId} {v : Value} {d : DataW H} {ps : List MemPlace} (h : DataW.Trod enc P w base spare held t v d ps) (hw : sz = true → (d.weights P t).all (· ≤ reachBytes) = true) : TD enc P w base spare held sz t v.cells.toList := by
 obtain ⟨fuel, hf⟩ := h
 exact ⟨fuel, d, ps, hf, hw⟩
theorem wAll_get {p : Nat → Bool} {e : TypeId} : ∀ (ds : List (DataW H)), (DataW.weightsAll P e ds).all p = true → ∀ (i : Nat) (d : DataW H), ds[i]? = some d → (d.weights P e).all p = true
 | [], _, i, d, h => by simp at h
 | d0 :: ds, h, i, d, hd => by
  rw [DataW.weightsAll, List.all_append, Bool.and_eq_true] at h
  cases i with
  | zero => simp at hd; subst hd; exact h.1
  | succ i => exact wAll_get ds h.2 i d (by simpa using hd)
variable {t : TypeId} {cs : List Value}
theorem TD.alen {n e : Nat} (ht : P.underlying t = some (.array n e)) (h : TD enc P w base spare held sz t cs) : cs.length = P.cellsOf t := by
 obtain ⟨fuel, d, ps, h, hw⟩ := h
 obtain ⟨xs, m, _, hx, hl, hlen, hf⟩ := DataW.trod_array ht h
 exact hl
theorem TD.elem {n e : Nat} (i o s : Nat) (ht : P.underlying t = some (.array n e)) (hi : i < n) (hs : P.cellsOf e = s) (ho : o = i * s) (h : TD enc P w base spare held sz t cs) :
  TD enc P w base spare held sz e ((cs.drop o).take s) := by
 obtain ⟨fuel, d, ps, h, hw⟩ := h
 obtain ⟨xs, m, _, hx, hl, hlen, hf⟩ := DataW.trod_array ht h
 subst ho; subst hs
 have hlt : i < xs.length := by rw [hlen]; exact hi
 have hk := hf i hi
 rw [List.getElem?_eq_getElem hlt] at hk
 refine ⟨m, _, _, hk, fun hz => ?_⟩
 have hw := hw hz
 simp only [Prod.mk.injEq] at hx
 rw [hx.1, DataW.weights, ht] at hw
 exact wAll_get _ hw i _ (by simp [hlt])
theorem TD.u8 (ht : P.underlying t = some (.int .u8)) (h : TD enc P w base spare held sz t cs) : ∃ a : UInt8, cs = [U8 a] := by
 obtain ⟨fuel, d, ps, h, hw⟩ := h
 obtain ⟨n, rfl, _, hn⟩ := DataW.trod_int ht h
 obtain ⟨u, rfl⟩ := wf_u8 hn
 exact ⟨u, rfl⟩
theorem TD.u32 (ht : P.underlying t = some (.int .u32)) (h : TD enc P w base spare held sz t cs) : ∃ a : UInt32, cs = [U32 a] := by
 obtain ⟨fuel, d, ps, h, hw⟩ := h
 obtain ⟨n, rfl, _, hn⟩ := DataW.trod_int ht h
 obtain ⟨u, rfl⟩ := wf_u32 hn
 exact ⟨u, rfl⟩
theorem TD.u64 (ht : P.underlying t = some (.int .u64)) (h : TD enc P w base spare held sz t cs) : ∃ a : UInt64, cs = [U64 a] := by
 obtain ⟨fuel, d, ps, h, hw⟩ := h
 obtain ⟨n, rfl, _, hn⟩ := DataW.trod_int ht h
 obtain ⟨u, rfl⟩ := wf_u64 hn
 exact ⟨u, rfl⟩
theorem TD.i64 (ht : P.underlying t = some (.int .i64)) (h : TD enc P w base spare held sz t cs) : ∃ a : Int, cs = [I64 a] ∧ (-9223372036854775808 ≤ a ∧ a ≤ 9223372036854775807) := by
 obtain ⟨fuel, d, ps, h, hw⟩ := h
 obtain ⟨n, rfl, _, hn⟩ := DataW.trod_int ht h
 exact ⟨n, rfl, bounds_i64 hn⟩
theorem TD.bool (ht : P.underlying t = some .bool) (h : TD enc P w base spare held sz t cs) : ∃ a : Bool, cs = [.bool a] := by
 obtain ⟨fuel, d, ps, h, hw⟩ := h
 obtain ⟨b, rfl, _⟩ := DataW.trod_bool ht h
 exact ⟨b, rfl⟩
theorem TD.arr8 {n e : Nat} (ht : P.underlying t = some (.array n e)) (he : P.underlying e = some (.int .u8)) (hc : P.cellsOf e = 1) (hT : P.cellsOf t = n) (h : TD enc P w base spare held sz t cs) : ∃ l : List UInt8, cs = cu8 l ∧ l.length = n := by
 have hl := TD.alen ht h
 obtain ⟨l, rfl⟩ := all_u8 cs (fun i hi => by
  obtain ⟨u, hu⟩ := TD.u8 he (TD.elem i i 1 ht (by omega) hc (by omega) h)
  refine ⟨u, ?_⟩
  have h0 : ((cs.drop i).take 1)[0]? = some (U8 u) := by rw [hu]; rfl
  rw [List.getElem?_take, if_pos (by omega), List.getElem?_drop] at h0
  simpa using h0)
 exact ⟨l, rfl, by rw [← hT, ← hl]; simp⟩
def RdV (w : World) (ao : Option Addr) (vs : List Value) : Prop := vs = [] ∨ ∃ b off, ao = some ⟨b, off, none⟩ ∧ RdA w b off vs
end
end Go.Sx
namespace Go.Proofs.YtkdpdgpphpngeaaDoor
open Go Go.Sx Go.RowKit
open Go.Value renaming slice → SL
instance (s : Int) : Decidable (Szd s) := by unfold Szd; infer_instance
theorem erN_pos {e k : Nat} (h : e ≠ 0) : erN e k = e := if_neg h
def advA (ao : Option Addr) (c s : Nat) : Option Addr := if c = s then ao else ao.map (·.add (s * 1))
theorem RdB.adv {w : World} {M : List Nat} {ao : Option Addr} {z : List UInt8} {c : Nat} (h : RdB w M ao z) (s : Nat) (hs : s ≤ z.length) (hc : z.length ≤ c) : RdB w M (advA ao c s) (z.drop s) := by
 have := RdB.slice h s z.length (Nat.le_refl _) hc
 rwa [List.take_of_length_le (by simp)] at this
theorem RdB.pre {w : World} {M : List Nat} {ao : Option Addr} {z : List UInt8} (h : RdB w M ao z) (s : Nat) : RdB w M ao (mid z 0 s) := by
 rcases h with rfl | ⟨b, off, h1, h2, h3, h4⟩
 ·
  exact .inl (by simp [mid])
 ·
  refine .inr ⟨b, off, h1, h2, h3, fun j v hj => h4 j v ?_⟩
  simp only [mid, List.drop_zero, cu8, List.map_take] at hj
  have hlt := (List.getElem?_eq_some_iff.1 hj).1
  rw [List.getElem?_take, if_pos (by simp at hlt; omega)] at hj
  exact hj
def Adv (ao : Option Addr) (z : List UInt8) (c : Nat) (ao' : Option Addr) (z' : List UInt8) (c' : Nat) : Prop :=
 (∀ w M, RdB w M ao z → RdB w M ao' z') ∧ z'.length ≤ c' ∧ c' ≤ maxLen ∧ z'.length ≤ z.length
theorem EE {ao : Option Addr} {z : List UInt8} {c : Nat} (h : z.length ≤ c) (hm : c ≤ maxLen) : Adv ao z c ao z c := ⟨fun _ _ h => h, h, hm, Nat.le_refl _⟩
theorem Adv.drop {ao : Option Addr} {z : List UInt8} {c : Nat} (s : Nat) (hs : s ≤ z.length) (h : z.length ≤ c) (hm : c ≤ maxLen) : Adv ao z c (advA ao c s) (z.drop s) (c - s) :=
 ⟨fun _ _ hr => RdB.adv hr s hs h, by simp; omega, by omega, by simp⟩
theorem Adv.trans {ao ao' ao'' : Option Addr} {z z' z'' : List UInt8} {c c' c'' : Nat} (h : Adv ao z c ao' z' c') (h' : Adv ao' z' c' ao'' z'' c'') : Adv ao z c ao'' z'' c'' :=
 ⟨fun w M hr => h'.1 w M (h.1 w M hr), h'.2.1, h'.2.2.1, Nat.le_trans h'.2.2.2 h.2.2.2⟩
def TkOk (z : List UInt8) (e : Nat) (s : Int) : Prop := e = 0 ∧ 0 ≤ s ∧ s ≤ z.length
instance (z : List UInt8) (e : Nat) (s : Int) : Decidable (TkOk z e s) := by unfold TkOk; infer_instance
def tkZ (z : List UInt8) (e : Nat) (s : Int) : List UInt8 := if TkOk z e s then z.drop s.toNat else z
def tkV (z : List UInt8) (e : Nat) (s : Int) : List UInt8 := if TkOk z e s then mid z 0 s.toNat else []
def NuOk (z : List UInt8) (e : Nat) (s : Int) : Prop := e = 0 ∧ Szd s ∧ s ≤ z.length
instance (z : List UInt8) (e : Nat) (s : Int) : Decidable (NuOk z e s) := by unfold NuOk; infer_instance
def nuZ (z : List UInt8) (e : Nat) (s : Int) : List UInt8 := if NuOk z e s then z.drop s.toNat else z
def nuV (z : List UInt8) (e : Nat) (s : Int) : UInt64 := if NuOk z e s then valK z s.toNat else 0
def okE (e : Nat) (ok : Bool) : Nat := if ok then 0 else erN e 2
def fdN (z : List UInt8) : Nat := 256 * (g8 z 0).toNat + (g8 z 1).toNat
def FdOk (z : List UInt8) (e : Nat) (s : Int) : Prop := e = 0 ∧ 2 ≤ z.length ∧ (fdN z : Int) ≤ s ∧ fdN z + 2 ≤ z.length
instance (z : List UInt8) (e : Nat) (s : Int) : Decidable (FdOk z e s) := by unfold FdOk; infer_instance
def HsOk (z : List UInt8) (e : Nat) : Prop := e = 0 ∧ 32 ≤ z.length
instance (z : List UInt8) (e : Nat) : Decidable (HsOk z e) := by unfold HsOk; infer_instance
def hsZ (z : List UInt8) (e : Nat) : List UInt8 := if HsOk z e then z.drop 32 else z
def hsV (z : List UInt8) (e : Nat) : List UInt8 := if HsOk z e then mid z 0 32 else zr8 32
def FgOk (z : List UInt8) (e : Nat) : Prop := e = 0 ∧ 1 ≤ z.length ∧ g8 z 0 ≤ 1
instance (z : List UInt8) (e : Nat) : Decidable (FgOk z e) := by unfold FgOk; infer_instance
def fgZ (z : List UInt8) (e : Nat) : List UInt8 := if FgOk z e then z.drop 1 else z
def fgV (z : List UInt8) (e : Nat) : Bool := decide (FgOk z e ∧ g8 z 0 = 1)
def endN (e n : Nat) : Nat := if e = 0 then (if n = 0 then 0 else 2) else e
def leftN (e n : Nat) : Nat := if e = 0 then n else 0
theorem valK_one (z : List UInt8) : valK z 1 = (g8 z 0).toUInt64 := by
 rw [valK, valK, shl_or]; simp
theorem valK_flag (z : List UInt8) : (valK z 1 = 1) = (g8 z 0 = 1) := by
 rw [valK_one]
 apply propext
 constructor
 ·
  intro h
  have := congrArg UInt64.toNat h
  rw [UInt8.toNat_toUInt64] at this
  exact UInt8.toNat_inj.1 this
 ·
  intro h; rw [h]; rfl
structure ActV where
 kd : Int
 s : Int
 nn : UInt64
 ao : Option Addr
 p : Nat
 c : Nat
 z : List UInt8
theorem flat_at {α : Type} (f : α → List Value) (s : Nat) (hf : ∀ a, (f a).length = s) : ∀ (asL : List α) (i : Nat) (a : α), asL[i]? = some a → ∀ (j : Nat) (v : Value), (f a)[j]? = some v → (asL.flatMap f)[i * s + j]? = some v
 | [], i, a, h, _, _, _ => by simp at h
 | x :: asL, 0, a, h, j, v, hj => by
  simp at h; subst h
  rw [List.flatMap_cons, Nat.zero_mul, Nat.zero_add, List.getElem?_append_left (List.getElem?_eq_some_iff.1 hj).1]
  exact hj
 | x :: asL, i + 1, a, h, j, v, hj => by
  rw [List.flatMap_cons, List.getElem?_append_right (by rw [hf, Nat.succ_mul]; omega), hf, show (i + 1) * s + j - s = i * s + j by rw [Nat.succ_mul]; omega]
  exact flat_at f s hf asL i a (by simpa using h) j v hj
theorem EJ {α : Type} {f : α → List Value} {s : Nat} (hf : ∀ a, (f a).length = s) (hs : 0 < s) {w : World} {ao : Option Addr} {asL : List α} (h : RdV w ao (asL.flatMap f)) {i : Nat} {a : α} (ha : asL[i]? = some a) :
  ∃ b off, ao = some ⟨b, off, none⟩ ∧ RdA w b (off + i * s) (f a) := by
 have hne : asL.flatMap f ≠ [] := fun h0 => by
  have hl := hf a
  have h1 : 0 < (f a).length := by omega
  have := flat_at f s hf asL i a ha 0 ((f a)[0]) (by simp [h1])
  rw [h0] at this; simp at this
 rcases h with h | ⟨b, off, h1, h2, h3⟩
 ·
  exact absurd h hne
 ·
  exact ⟨b, off, h1, h2, fun j v hj => by rw [Nat.add_assoc]; exact h3 _ v (flat_at f s hf asL i a ha j v hj)⟩
section
variable {H : Type} {enc : TypeId × Value → H} {P : Program} {w : World} {base : Nat} {spare : Nat → Bool} {held : Bool} {sz : Bool}
end
theorem CF {C : Cx} {L : List Ent} {w : World} {ao : Option Addr} {vs : List Value} (hw : Hp C.w0 C.M L w) (hM : C.M = []) (h : RdV C.w0 ao vs) : RdV w ao vs := by
 rcases h with h | ⟨b, off, h1, h2⟩
 ·
  exact .inl h
 ·
  cases vs with
  | nil => exact .inl rfl
  | cons v vs => exact .inr ⟨b, off, h1, RdA.of hw (h2.mem (by rw [hM]; simp)) (by simp)⟩
def sumP (asL : List ActV) (i : Nat) : Nat := ((asL.take i).map ActV.p).sum
def LongP (asL : List ActV) (n : Nat) : Prop := ¬ (n ≤ 41 ∧ sumP asL n ≤ 200000)
instance (asL : List ActV) (n : Nat) : Decidable (LongP asL n) := by unfold LongP; infer_instance
end Go.Proofs.YtkdpdgpphpngeaaDoor
namespace Go.Sx
open Go Go.RowKit
theorem foldl_lay (off : Nat) : ∀ (c : List Value) (k : Nat) (pre z post : List Value), z.length = c.length → pre.length = off + k →
  (c.zipIdx k).foldl (fun (cs : Array Value) (x : Value × Nat) => cs.setIfInBounds (off + x.2) x.1) (pre ++ (z ++ post)).toArray = ((pre ++ c) ++ post).toArray
 | [], k, pre, z, post, hz, _ => by
  have : z = [] := by simpa using hz
  subst this; simp
 | x :: c, k, pre, [], post, hz, _ => by simp at hz
 | x :: c, k, pre, y :: z, post, hz, hp => by
  rw [List.zipIdx_cons, List.foldl_cons]
  have e : (pre ++ (y :: z ++ post)).toArray.setIfInBounds (off + k) x = ((pre ++ [x]) ++ (z ++ post)).toArray := by
   rw [← hp]
   apply Array.toList_inj.1
   simp
  show (c.zipIdx (k + 1)).foldl _ ((pre ++ (y :: z ++ post)).toArray.setIfInBounds (off + k) x) = _
  rw [e, foldl_lay off c (k + 1) (pre ++ [x]) z post (by simpa using hz) (by simp; omega)]
  simp
theorem DL {place : Nat → Option (Nat × Nat)} {i : Nat} {v : Value} {rest : List (Nat × Value)} (pre z post c : List Value) (hc : v.cells = c.toArray) (hp : place i = some (pre.length, z.length)) (hl : c.length = z.length) :
  Instr.fill place (pre ++ (z ++ post)).toArray ((i, v) :: rest) = Instr.fill place ((pre ++ c) ++ post).toArray rest := by
 rw [Instr.fill, hp]
 have h1 : v.cells.size = z.length := by rw [hc]; simpa using hl
 have h2 : ¬ (pre.length + v.cells.size > (pre ++ (z ++ post)).toArray.size) := by rw [h1]; simp
 simp only [h1, ne_eq, not_true, decide_false, Bool.false_or, decide_eq_true_eq]
 rw [if_neg (by rw [h1] at h2; exact h2)]
 have := foldl_lay pre.length c 0 pre z post hl.symm (by simp)
 rw [← this, hc]
 congr 1
 rw [← Array.foldl_toList]
 simp
theorem run_build_struct {P : Program} {w : World} {T : TypeId} {fields : Array Field} {z : Value} {places : Array (Nat × Nat)} {pv : Array (Nat × Value)} {cs : List Value} (hz : ∀ w, (zeroValue T).run P w = .ok z w) (hu : P.underlying T = some (.struct fields))
  (hp : ∀ w, (fields.mapM fun f => do pure (f.offset, ← sizeOf f.type) : Sem (Array (Nat × Nat))).run P w = .ok places w) (hf : Instr.fill (places[·]?) z.cells pv.toList = some cs.toArray) : (Instr.build T pv).run P w = .ok (.agg cs.toArray) w := by
 simp only [Instr.build, Sem.run_bind, hz, Result.andThen_ok, run_underlying hu, hp, hf, Sem.run_pure]
section
variable {P : Program}
def PartV (P : Program) (t : TypeId) (cs : List Value) (off : Nat) (u : Value) : Prop := ∀ w, (part t cs.toArray off).run P w = .ok u w
theorem PartV.one {t : TypeId} {cs : List Value} {off : Nat} {v : Value} (hA : ∀ w, (isAgg t).run P w = .ok false w) (h : Seg cs off [v]) : PartV P t cs off v := fun w => by
 have h0 : cs[off]? = some v := by simpa using h 0 v rfl
 simp [part, hA w, h0]
theorem PartV.agg {t : TypeId} {cs vs : List Value} {off n : Nat} (hA : ∀ w, (isAgg t).run P w = .ok true w) (hS : ∀ w, (sizeOf t).run P w = .ok n w) (h : (cs.drop off).take n = vs) : PartV P t cs off (.agg vs.toArray) := fun w => by
 simp [part, hA w, hS w, ← h]
def EqV (P : Program) (d : Nat) (t : TypeId) (u v : Value) (b : Bool) : Prop := ∀ w, (Op.equalIn d t u v).run P w = .ok b w
theorem EqV.u64 {d : Nat} {t : TypeId} (he : P.underlying t = some (.int .u64)) (a b : UInt64) : EqV P (d + 1) t (U64 a) (U64 b) (decide (a = b)) := fun w => by
 have pe := run_equalIn_int (P := P) w d t .u64 .u64 a.toNat b.toNat he
 have e1 : ((a.toNat : Int) == (b.toNat : Int)) = decide (a = b) := by rw [Bool.eq_iff_iff]; simp [← UInt64.toNat_inj]; omega
 rw [e1] at pe
 simpa using pe
theorem EqV.u8 {d : Nat} {t : TypeId} (he : P.underlying t = some (.int .u8)) (a b : UInt8) : EqV P (d + 1) t (U8 a) (U8 b) (decide (a = b)) := fun w => by
 have pe := run_equalIn_int (P := P) w d t .u8 .u8 a.toNat b.toNat he
 have e1 : ((a.toNat : Int) == (b.toNat : Int)) = decide (a = b) := by rw [Bool.eq_iff_iff]; simp [← UInt8.toNat_inj]; omega
 rw [e1] at pe
 simpa using pe
theorem EqV.i64 {d : Nat} {t : TypeId} (he : P.underlying t = some (.int .i64)) (a b : Int) : EqV P (d + 1) t (I64 a) (I64 b) (decide (a = b)) := fun w => by
 have pe := run_equalIn_int (P := P) w d t .i64 .i64 a b he
 have e1 : (a == b) = decide (a = b) := rfl
 rw [e1] at pe
 simpa using pe
theorem EqV.bool {d : Nat} {t : TypeId} (he : P.underlying t = some .bool) (a b : Bool) : EqV P (d + 1) t (.bool a) (.bool b) (a == b) := fun w => by
 simp [Op.equalIn, run_underlying he]
theorem EqV.arr8 {d : Nat} {T e : TypeId} {n : Nat} (hu : P.underlying T = some (.array n e)) (he : P.underlying e = some (.int .u8)) (hA : ∀ w, (isAgg e).run P w = .ok false w) (hc : P.cellsOf e = 1) (hi : (P.info? e).isSome = true) {a b : List UInt8} (ha : a.length = n) (hb : b.length = n) :
  EqV P (d + 2) T (.agg (cu8 a).toArray) (.agg (cu8 b).toArray) (decide (a = b)) := fun w => equalIn_arr8 d hu he hA hc hi ha hb
inductive EqRs (P : Program) (d : Nat) (xs ys : List Value) : List (TypeId × Nat) → Bool → Prop
 | last (t o : Nat) (u v : Value) (b : Bool) : PartV P t xs o u → PartV P t ys o v → EqV P d t u v b → EqRs P d xs ys [(t, o)] b
 | cons (t o : Nat) (u v : Value) (b : Bool) (r : List (TypeId × Nat)) (c : Bool) : PartV P t xs o u → PartV P t ys o v → EqV P d t u v b → EqRs P d xs ys r c → EqRs P d xs ys ((t, o) :: r) (b && c)
theorem EqRs.run {d : Nat} {xs ys : List Value} {r : List (TypeId × Nat)} {b : Bool} (h : EqRs P d xs ys r b) : ∀ (fs : List Field), fs.map (fun f => (decide (f.name ≠ "_"), f.type, f.offset)) = r.map (fun x => (true, x.1, x.2)) →
  ∀ w, (Op.eqFields d xs.toArray ys.toArray fs).run P w = .ok b w := by
 induction h with
 | last t o u v b hx hy he =>
  intro fs hf w
  obtain ⟨f, rfl⟩ : ∃ f, fs = [f] := by
   cases fs with
   | nil => simp at hf
   | cons f r => cases r with
    | nil => exact ⟨f, rfl⟩
    | cons g r => simp at hf
  ·
   simp only [List.map_cons, List.map_nil, List.cons.injEq, Prod.mk.injEq, and_true, decide_eq_true_eq] at hf
   obtain ⟨h1, h2, h3⟩ := hf
   rw [Op.eqFields, if_pos h1, h2, h3]
   simp only [Sem.run_bind, hx w, hy w, he w, Result.andThen_ok, Op.eqFields]
   cases b <;> simp
 | cons t o u v b r c hx hy he hr ih =>
  intro fs hf w
  cases fs with
  | nil => simp at hf
  | cons f fs =>
   simp only [List.map_cons, List.cons.injEq, Prod.mk.injEq, decide_eq_true_eq] at hf
   obtain ⟨⟨h1, h2, h3⟩, h4⟩ := hf
   rw [Op.eqFields, if_pos h1, h2, h3]
   simp only [Sem.run_bind, hx w, hy w, he w, Result.andThen_ok]
   cases b with
   | false => simp
   | true => simpa using ih fs h4 w
theorem EqV.struct {d : Nat} {t : TypeId} {xs ys : List Value} {r : List (TypeId × Nat)} {b : Bool} (hu : P.underlying t = some (.struct (P.fieldsOf t))) (hp : P.stoodInHeld t = false)
  (hr : (P.fieldsOf t).toList.map (fun f => (decide (f.name ≠ "_"), f.type, f.offset)) = r.map (fun x => (true, x.1, x.2))) (h : EqRs P d xs ys r b) : EqV P (d + 1) t (.agg xs.toArray) (.agg ys.toArray) b := fun w => by
 rw [run_equalIn_struct w d t _ _ hu hp]
 exact h.run _ hr w
theorem eql_struct {t : TypeId} {x y : Array Value} {b : Bool} (p : Prop) [Decidable p] (h : EqV P 10000 t (.agg x) (.agg y) b) (hb : b = decide p) : ∀ w, (binOp .eql t (.agg x) (.agg y)).run P w = .ok (.bool (decide p)) w := fun w => by
 subst hb
 exact eql_of (by simp [binOp]) (h w)
theorem neq_struct {t : TypeId} {x y : Array Value} {b : Bool} (p : Prop) [Decidable p] (h : EqV P 10000 t (.agg x) (.agg y) b) (hb : b = decide p) : ∀ w, (binOp .neq t (.agg x) (.agg y)).run P w = .ok (.bool (!decide p)) w := fun w => by
 subst hb
 exact neq_of (by simp [binOp]) (h w)
theorem dt_dt {cs : List Value} {a n b m o : Nat} (hb : b + m ≤ n) (ho : o = a + b) : ((((cs.drop a).take n).drop b).take m) = (cs.drop o).take m := by
 subst ho
 rw [List.drop_take, List.take_take, List.drop_drop, Nat.min_eq_left (by omega)]
theorem TD.sub {H : Type} {enc : TypeId × Value → H} {w : World} {base : Nat} {spare : Nat → Bool} {held sz : Bool} {t : TypeId} {cs : List Value} {a n b m o : Nat} (h : TD enc P w base spare held sz t ((((cs.drop a).take n).drop b).take m)) (hb : b + m ≤ n) (ho : o = a + b) :
  TD enc P w base spare held sz t ((cs.drop o).take m) := by rw [← dt_dt hb ho]; exact h
theorem CB {cs p q vs : List Value} {off : Nat} (h : cs = p ++ (vs ++ q)) (hn : p.length = off) : Seg cs off vs := Seg.sub (p := p) (q := q) (o := 0) hn (by omega) (by rw [h, List.append_assoc]; exact AG _)
theorem EI {place : Nat → Option (Nat × Nat)} {i : Nat} {v : Value} {rest : List (Nat × Value)} (z post c : List Value) (hc : v.cells = c.toArray) (hp : place i = some (0, z.length)) (hl : c.length = z.length) :
  Instr.fill place (z ++ post).toArray ((i, v) :: rest) = Instr.fill place (c ++ post).toArray rest := DL [] z post c hc hp hl
theorem C8 {w : World} {T : TypeId} {fields : Array Field} {Z : List Value} {places : Array (Nat × Nat)} {pv : Array (Nat × Value)} {cs : List Value} (hz : ∀ w, (zeroValue T).run P w = .ok (.agg Z.toArray) w) (hu : P.underlying T = some (.struct fields))
  (hp : ∀ w, (fields.mapM fun f => do pure (f.offset, ← sizeOf f.type) : Sem (Array (Nat × Nat))).run P w = .ok places w) (hf : Instr.fill (places[·]?) Z.toArray pv.toList = some cs.toArray) : (Instr.build T pv).run P w = .ok (.agg cs.toArray) w := run_build_struct hz hu hp hf
theorem D0 {place : Nat → Option (Nat × Nat)} {rest : List (Nat × Value)} (pre z post : List Value) : Instr.fill place (pre ++ (z ++ post)).toArray rest = Instr.fill place ((pre ++ z) ++ post).toArray rest := by rw [List.append_assoc]
theorem AQ {a b : List Value} (ha : ∀ u ∈ a, u.oneCell' = true) (hb : ∀ u ∈ b, u.oneCell' = true) : ∀ u ∈ a ++ b, u.oneCell' = true := fun u hu => (List.mem_append.1 hu).elim (ha u) (hb u)
theorem fill_first {s n : Nat} {l : List UInt8} (hl : l.length = s) (hn : s ≤ n) : Instr.fill (fun i => some (i * s, s)) (cu8 (zr8 n)).toArray [(0, .agg (cu8 l).toArray)] = some (cu8 (spl (zr8 n) 0 l)).toArray := by
 have e : zr8 n = zr8 s ++ zr8 (n - s) := by
  unfold zr8; rw [List.replicate_append_replicate]; congr 1; omega
 have h := DL (place := fun i => some (i * s, s)) (i := 0) (v := .agg (cu8 l).toArray) (rest := []) [] (cu8 (zr8 s)) (cu8 (zr8 (n - s))) (cu8 l) rfl (by simp [cu8, zr8]) (by simp [cu8, zr8, hl])
 have h2 : spl (zr8 n) 0 l = l ++ zr8 (n - s) := by
  unfold spl; rw [hl, e]; simp [zr8]
 rw [h2, cu8_app, e, cu8_app]
 exact h
end
section
variable {C : Cx} {F : Frm} {L : List Ent}
theorem Step_appH {x y : Operand} {ty : TypeId} (t e s bytes : Nat) (zv : Value) (m : List Bool) (v : Value) (n : Nat) (l z : List UInt8) (ao : Option Addr) (k c tot N : Nat)
  (hu : C.P.underlying t = some (.slice e)) (hi : (C.P.info? e).map (fun i => (i.zero, i.size, i.bytes)) = some (some zv, s, bytes)) (hzs : zv.cells.size = s) (hs0 : 0 < s)
  (hx : ev F x = some v)
  (hv : (v = .slice none 0 0 ∧ n = 0 ∧ l = [] ∧ take? m L = [] ∧ 0 < k) ∨ (∃ g sp cap, v = Slc g 0 n cap ∧ take? m L = [⟨g, cu8 l ++ sp, e, (0, 0)⟩] ∧ l.length = n * s ∧ sp.length = cap * s - n * s ∧ n ≤ cap ∧ cap ≤ maxLen))
  (hy : ev F y = some (.slice ao k c)) (hk : z.length = k * s) (hm : SrcAt C L ao (cu8 z)) (hmax : (n + k) * bytes ≤ 140737488355328) (hmax' : n + k ≤ maxLen) (htot : n + k = tot) (hN : N = tot * s) :
  Step C F L (.call { callee := .builtin .append, args := #[x, y], argTypes := #[t, t] }) ty fun v' L' => ∃ g sp cap, (C.w0.heap.size ≤ g ∨ g ∈ C.M) ∧ v' = Slc g 0 tot cap ∧ L' = rest? m L ++ [⟨g, cu8 (l ++ z) ++ sp, e, (0, 0)⟩] ∧ (l ++ z).length = N ∧ sp.length = cap * s - N ∧ tot ≤ cap ∧ cap ≤ maxLen := by
 subst htot; subst hN
 have hv' : (v = .slice none 0 0 ∧ n = 0 ∧ cu8 l = [] ∧ take? m L = [] ∧ 0 < k) ∨ (∃ g sp cap, v = Slc g 0 n cap ∧ take? m L = [⟨g, cu8 l ++ sp, e, (0, 0)⟩] ∧ (cu8 l).length = n * s ∧ (cu8 l ++ sp).length = cap * s ∧ n ≤ cap ∧ cap ≤ maxLen) := by
  rcases hv with ⟨h1, h2, h3, h4, h5⟩ | ⟨g, sp, cap, h1, h2, h3, h4, h5, h6⟩
  ·
   exact .inl ⟨h1, h2, by rw [h3]; rfl, h4, h5⟩
  ·
   have := Nat.mul_le_mul_right s h5
   refine .inr ⟨g, sp, cap, h1, h2, by simpa using h3, ?_, h5, h6⟩
   rw [List.length_append, h4]; simp; omega
 have h := Step_append (C := C) (F := F) (L := L) (x := x) (y := y) (ty := ty) t e s bytes zv m v n (cu8 l) (cu8 z) ao k c hu hi hzs hs0 hx hv' hy (by simpa using hk) hm A6 hmax hmax'
 intro a w ha hw d pos aft g Kk Q hq
 refine h a w ha hw d pos aft g Kk Q ?_
 rintro v' L' w' ⟨g, sp, cap, h1, h2, h3, h4, h5, h6, h7⟩ hw'
 rw [← cu8_app] at h3 h4 h5
 have h4' : (l ++ z).length = (n + k) * s := by simpa using h4
 refine hq v' L' w' ⟨g, sp, cap, h1, h2, h3, h4', ?_, h6, h7⟩ hw'
 rw [List.length_append, h4] at h5
 omega
theorem fill_firstS {s : Nat} {zs : Array Value} {l : List UInt8} (hl : l.length = s) (hz : (Array.range (1 * s)).map (fun j => zs[j % zs.size]!) = (cu8 (zr8 s)).toArray) :
  Instr.fill (fun i => some (i * s, s)) ((Array.range (1 * s)).map (fun j => zs[j % zs.size]!)) [(0, .agg (cu8 l).toArray)] = some (cu8 l).toArray := by
 rw [hz]
 have h := fill_first (s := s) (n := s) hl (Nat.le_refl _)
 rw [h]
 have e : spl (zr8 s) 0 l = l := by unfold spl; rw [hl]; simp [zr8]
 rw [e]
end
end Go.Sx
namespace Go.Proofs.YtkdpdgpphpngeaaDoor
open Go Go.Sx
open Go.Value renaming slice → SL
theorem RdV.pos {w : World} {ao : Option Addr} {vs : List Value} (h : RdV w ao vs) (hv : 0 < vs.length) : ∃ b off, ao = some ⟨b, off, none⟩ ∧ RdA w b off vs := by
 rcases h with h | h
 ·
  rw [h] at hv; simp at hv
 ·
  exact h
theorem RdV.of {C : Cx} {L : List Ent} {w : World} {b off : Nat} {vs : List Value} (hw : Hp C.w0 C.M L w) (h : MemAt C L b off vs) : RdV w (some ⟨b, off, none⟩) vs := by
 cases vs with
 | nil => exact .inl rfl
 | cons v vs => exact .inr ⟨b, off, rfl, RdA.of hw h (by simp)⟩
theorem RdV.src {C : Cx} {L : List Ent} {ao : Option Addr} {vs : List Value} (h : RdV C.w0 ao vs) (hM : C.M = []) : SrcAt C L ao vs := by
 rcases h with rfl | ⟨b, off, rfl, h⟩
 ·
  exact SrcAt.nil
 ·
  exact SrcAt.mem (h.mem (by rw [hM]; simp))
theorem RdV.nil {w : World} {ao : Option Addr} : RdV w ao [] := .inl rfl
section
variable {C : Cx} {F : Frm} {L : List Ent} {ty : TypeId}
theorem Cl_clo {f : FuncId} {x : Operand} {args : Array Operand} {ats : Array TypeId} (vs caps : List Value) (hcf : ∀ (args : Array Value) (w : World), Sem.run C.P (callFunc f args) w = Result.ok (Next.enter f args) w)
  (hx : ev F x = some (.func (.func f) #[] caps.toArray)) (h : args.toList.map (ev F) = vs.map some) : Cl C F L (.call { callee := .value x, args := args, argTypes := ats }) ty f (vs ++ caps).toArray := fun a w ha _ d pos aft g => by
 have : args.map a.eval = vs.toArray := by
  apply Array.toList_inj.1
  rw [Array.toList_map]
  generalize args.toList = l at h
  clear hcf hx
  induction l generalizing vs with
  | nil => cases vs <;> simp_all
  | cons o l ih =>
   cases vs with
   | nil => simp at h
   | cons v vs =>
    simp only [List.map_cons, List.cons.injEq] at h
    simp [ha.ev h.1, ih vs h.2]
 have h2 : a.eval x = .func (.func f) #[] caps.toArray := ha.ev hx
 simp [execOp, resolve, this, h2, Deferred.ofValue, invoke, hcf]
end
def IdxBad (l : List UInt64) (k : Nat) : Prop := g64 l k >>> 32 ≠ 0 ∨ (0 < k ∧ g64 l k ≤ g64 l (k - 1))
instance (l : List UInt64) (k : Nat) : Decidable (IdxBad l k) := by unfold IdxBad; infer_instance
def RightI (l : List UInt64) : Prop := 1 ≤ l.length ∧ l.length ≤ 256 ∧ ∀ k, k < l.length → ¬ IdxBad l k
instance (l : List UInt64) : Decidable (RightI l) := by unfold RightI; infer_instance
theorem RightI_pos {l : List UInt64} (h : RightI l) : 1 ≤ l.length ∧ l.length ≤ 256 := ⟨h.1, h.2.1⟩
theorem idx_step {l : List UInt64} {i : Nat} (h : ∀ k, k < i → ¬ IdxBad l k) (hi : ¬ IdxBad l i) : ∀ k, k < i + 1 → ¬ IdxBad l k := fun k hk => by
 by_cases e : k = i
 ·
  rw [e]; exact hi
 ·
  exact h k (by omega)
theorem shr32 (x : UInt64) : (4294967296:UInt64) ≤ x ↔ x >>> 32 ≠ 0 := by
 have h1 : (4294967296:UInt64).toNat = 4294967296 := rfl
 have h2 : (x >>> 32).toNat = x.toNat / 4294967296 := by
  rw [UInt64.toNat_shiftRight, Nat.shiftRight_eq_div_pow]
  rfl
 have h3 : (0:UInt64).toNat = 0 := rfl
 rw [UInt64.le_iff_toNat_le, h1, ne_eq, ← UInt64.toNat_inj, h2, h3]
 omega
theorem pow2_step (j : Nat) : UInt64.ofNat (2 ^ j) * 2 = UInt64.ofNat (2 ^ (j + 1)) := by
 rw [Nat.pow_succ, UInt64.ofNat_mul]; rfl
structure SealR where
 e : UInt64
 d : List UInt8
 t : List UInt8
 hd : d.length = 32
 ht : t.length = 16
deriving DecidableEq
theorem SealR.eq_iff (x y : SealR) : x = y ↔ x.e = y.e ∧ x.d = y.d ∧ x.t = y.t := by
 refine ⟨fun h => by rw [h]; exact ⟨rfl, rfl, rfl⟩, fun h => ?_⟩
 obtain ⟨a, b, c, _, _⟩ := x
 obtain ⟨a', b', c', _, _⟩ := y
 obtain ⟨rfl, rfl, rfl⟩ := h
 rfl
def sealC (x : SealR) : List Value := [U64 x.e] ++ cu8 x.d ++ cu8 x.t
theorem D8 (x : SealR) : (sealC x).length = 49 := by
 have h1 := x.hd
 have h2 := x.ht
 simp [sealC, h1, h2]
def RightB (i e : UInt64) : Bool := decide (i < 4294967296) && (decide (1 ≤ e) && decide (e < 18446744073709551615))
theorem u64_bounds (i e : UInt64) : (i ≤ 4294967295 ↔ i < 4294967296) ∧ (e ≠ 0 ↔ 1 ≤ e) ∧ (e ≠ 18446744073709551615 ↔ e < 18446744073709551615) := by
 have h1 : (4294967295:UInt64).toNat = 4294967295 := rfl
 have h2 : (4294967296:UInt64).toNat = 4294967296 := rfl
 have h3 : (0:UInt64).toNat = 0 := rfl
 have h4 : (1:UInt64).toNat = 1 := rfl
 have h5 : (18446744073709551615:UInt64).toNat = 18446744073709551615 := rfl
 have h6 := e.toNat_lt
 simp only [UInt64.lt_iff_toNat_lt, UInt64.le_iff_toNat_le, ne_eq, ← UInt64.toNat_inj, h1, h2, h3, h4, h5]
 omega
theorem RightB_ref (i e : UInt64) : RightB i e = (decide (i ≤ 4294967295) && (decide (e ≠ 0) && decide (e ≠ 18446744073709551615))) := by
 obtain ⟨h1, h2, h3⟩ := u64_bounds i e
 unfold RightB
 rw [decide_eq_decide.2 h1, decide_eq_decide.2 h2, decide_eq_decide.2 h3]
def findIx {α : Type} (p : α → Bool) (ls : List α) : Int := if ls.any p then (ls.findIdx p : Nat) else -1
theorem findIx_at {α : Type} {p : α → Bool} {ls : List α} {i : Nat} {x : α} (h : ls[i]? = some x) (hp : p x = true) (hlt : ∀ k, k < i → ∀ y, ls[k]? = some y → p y = false) : findIx p ls = i := by
 obtain ⟨hi, hx⟩ := List.getElem?_eq_some_iff.1 h
 have h1 : ls.any p = true := List.any_eq_true.2 ⟨x, hx ▸ List.getElem_mem hi, hp⟩
 have h2 : ls.findIdx p = i := by
  rw [List.findIdx_eq hi]
  exact ⟨by rw [hx]; exact hp, fun j hj => hlt j hj _ (List.getElem?_eq_getElem (by omega))⟩
 unfold findIx
 rw [if_pos h1, h2]
theorem findIx_no {α : Type} {p : α → Bool} {ls : List α} (h : ∀ k, k < ls.length → ∀ y, ls[k]? = some y → p y = false) : findIx p ls = -1 := by
 unfold findIx
 rw [if_neg]
 intro ha
 obtain ⟨x, hx, hp⟩ := List.any_eq_true.1 ha
 obtain ⟨k, hk, hk2⟩ := List.getElem_of_mem hx
 rw [h k hk x (by rw [List.getElem?_eq_getElem hk, hk2])] at hp
 exact absurd hp (by decide)
theorem findIx_ge {α : Type} (p : α → Bool) (ls : List α) : decide (0 ≤ findIx p ls) = ls.any p := by
 unfold findIx
 cases h : ls.any p with
 | true => rw [if_pos rfl]; exact decide_eq_true (by omega)
 | false => rw [if_neg (by decide)]; exact decide_eq_false (by omega)
theorem find_step {α : Type} {p : α → Bool} {ls : List α} {i : Nat} {x : α} (h : ls[i]? = some x) (hp : p x = false) (hlt : ∀ k, k < i → ∀ y, ls[k]? = some y → p y = false) : ∀ k, k < i + 1 → ∀ y, ls[k]? = some y → p y = false := fun k hk y hy => by
 by_cases e : k = i
 ·
  rw [e, h] at hy
  injection hy with hy
  rw [← hy]; exact hp
 ·
  exact hlt k (by omega) y hy
theorem E0 {l : List UInt64} {i : Nat} (h : i < l.length) : l[i]? = some (g64 l i) := by rw [g64_eq h, List.getElem?_eq_getElem h]
def headE (ls : List SealR) : UInt64 := (ls[0]?.map SealR.e).getD 0
theorem FB {ls : List SealR} {x : SealR} (h : ls[0]? = some x) : headE ls = x.e := by unfold headE; rw [h]; rfl
def oddB (e0 e : UInt64) : Bool := !RightB 0 e || decide (e ≠ e0)
def RightO (kd : Int) (l : List UInt64) (ls : List SealR) (bl : UInt64) : Bool :=
 if kd = 1 then decide (bl = 0) && (decide (RightI l) && (decide (ls.length = l.length) && !(ls.any (fun x => oddB (headE ls) (SealR.e x)))))
 else if kd = 2 then decide (bl = 0) && (decide (RightI l) && decide (ls.length = 0))
 else if kd = 3 then decide (l.length + ls.length = 0) && (decide ((1:UInt64) ≤ bl) && decide (bl ≤ 4294967296))
 else false
theorem any_odd {α : Type} {p : α → Bool} {ls : List α} {i : Nat} {x : α} (h : ls[i]? = some x) (hp : p x = true) : ls.any p = true := by
 obtain ⟨hi, hx⟩ := List.getElem?_eq_some_iff.1 h
 exact List.any_eq_true.2 ⟨x, hx ▸ List.getElem_mem hi, hp⟩
theorem any_no {α : Type} {p : α → Bool} {ls : List α} (h : ∀ k, k < ls.length → ∀ y, ls[k]? = some y → p y = false) : ls.any p = false := by
 cases ha : ls.any p with
 | false => rfl
 | true =>
  obtain ⟨x, hx, hp⟩ := List.any_eq_true.1 ha
  obtain ⟨k, hk, hk2⟩ := List.getElem_of_mem hx
  rw [h k hk x (by rw [List.getElem?_eq_getElem hk, hk2])] at hp
  exact absurd hp (by decide)
theorem bl_pos (bl : UInt64) : (0:UInt64) < bl ↔ (1:UInt64) ≤ bl := by
 have h0 : (0:UInt64).toNat = 0 := rfl
 have h1 : (1:UInt64).toNat = 1 := rfl
 rw [UInt64.lt_iff_toNat_lt, UInt64.le_iff_toNat_le, h0, h1]
 omega
section
variable {C : Cx} {F : Frm} {L : List Ent}
theorem one_seal (z : SealR) : ∀ v ∈ sealC z, v.oneCell' = true := by
 intro v hv
 unfold sealC at hv
 simp only [List.mem_append, List.mem_cons, List.not_mem_nil, or_false] at hv
 rcases hv with (rfl | hv) | hv
 ·
  rfl
 ·
  exact A6 v hv
 ·
  exact A6 v hv
theorem rows_len (l : List SealR) : (l.flatMap sealC).length = l.length * 49 := by
 induction l with
 | nil => rfl
 | cons a l ih => rw [List.flatMap_cons, List.length_append, D8, ih, List.length_cons]; omega
theorem Step_appS {x y : Operand} {ty : TypeId} (t e bytes : Nat) (zv : Value) (m : List Bool) (v : Value) (n : Nat) (l : List SealR) (z : SealR) (ao : Option Addr) (c tot : Nat)
  (hu : C.P.underlying t = some (.slice e)) (hi : (C.P.info? e).map (fun i => (i.zero, i.size, i.bytes)) = some (some zv, 49, bytes)) (hzs : zv.cells.size = 49)
  (hx : ev F x = some v)
  (hv : (v = .slice none 0 0 ∧ n = 0 ∧ l = [] ∧ take? m L = []) ∨ (∃ g sp cap, v = Slc g 0 n cap ∧ take? m L = [⟨g, l.flatMap sealC ++ sp, e, (0, 0)⟩] ∧ l.length = n ∧ sp.length = cap * 49 - n * 49 ∧ n ≤ cap ∧ cap ≤ maxLen))
  (hy : ev F y = some (.slice ao 1 c)) (hm : SrcAt C L ao (sealC z)) (hmax : (n + 1) * bytes ≤ 140737488355328) (hmax' : n + 1 ≤ maxLen) (htot : n + 1 = tot) :
  Step C F L (.call { callee := .builtin .append, args := #[x, y], argTypes := #[t, t] }) ty fun v' L' => ∃ g sp cap, (C.w0.heap.size ≤ g ∨ g ∈ C.M) ∧ v' = Slc g 0 tot cap ∧ L' = rest? m L ++ [⟨g, (l ++ [z]).flatMap sealC ++ sp, e, (0, 0)⟩] ∧ (l ++ [z]).length = tot ∧ sp.length = cap * 49 - tot * 49 ∧ tot ≤ cap ∧ cap ≤ maxLen := by
 subst htot
 have hv' : (v = .slice none 0 0 ∧ n = 0 ∧ l.flatMap sealC = [] ∧ take? m L = [] ∧ 0 < 1) ∨ (∃ g sp cap, v = Slc g 0 n cap ∧ take? m L = [⟨g, l.flatMap sealC ++ sp, e, (0, 0)⟩] ∧ (l.flatMap sealC).length = n * 49 ∧ (l.flatMap sealC ++ sp).length = cap * 49 ∧ n ≤ cap ∧ cap ≤ maxLen) := by
  rcases hv with ⟨h1, h2, h3, h4⟩ | ⟨g, sp, cap, h1, h2, h3, h4, h5, h6⟩
  ·
   exact .inl ⟨h1, h2, by rw [h3]; rfl, h4, by omega⟩
  ·
   refine .inr ⟨g, sp, cap, h1, h2, by rw [rows_len, h3], ?_, h5, h6⟩
   rw [List.length_append, h4, rows_len, h3]; omega
 have h := Step_append (C := C) (F := F) (L := L) (x := x) (y := y) (ty := ty) t e 49 bytes zv m v n (l.flatMap sealC) (sealC z) ao 1 c hu hi hzs (by decide) hx hv' hy (by rw [D8]) hm (one_seal z) hmax hmax'
 intro a w ha hw d pos aft g Kk Q hq
 refine h a w ha hw d pos aft g Kk Q ?_
 rintro v' L' w' ⟨g, sp, cap, h1, h2, h3, h4, h5, h6, h7⟩ hw'
 have e1 : l.flatMap sealC ++ sealC z = (l ++ [z]).flatMap sealC := by rw [List.flatMap_append]; simp
 rw [e1] at h3 h4 h5
 rw [rows_len] at h4
 refine hq v' L' w' ⟨g, sp, cap, h1, h2, h3, by omega, ?_, h6, h7⟩ hw'
 rw [List.length_append, rows_len] at h5
 omega
end
theorem EZ {α : Type} {ls : List α} {i : Nat} {x : α} (h : ls[i]? = some x) : ls.take i ++ [x] = ls.take (i + 1) := by rw [List.take_add_one, h]; rfl
theorem EL {s : Nat} {zs : Array Value} {c Z : List Value} (hl : c.length = s) (hz : (Array.range (1 * s)).map (fun j => zs[j % zs.size]!) = Z.toArray) (hZ : Z.length = s) :
  Instr.fill (fun i => some (i * s, s)) ((Array.range (1 * s)).map (fun j => zs[j % zs.size]!)) [(0, .agg c.toArray)] = some c.toArray := by
 rw [hz]
 have h := EI (place := fun i => some (i * s, s)) (i := 0) (v := .agg c.toArray) (rest := []) Z [] c rfl (by simp [hZ]) (by rw [hl, hZ])
 rw [List.append_nil, List.append_nil] at h
 exact h
def LargeP (n m : Nat) : Prop := 300 < n ∨ 300 < m ∨ (20 < m ∧ m ≤ 256)
instance (n m : Nat) : Decidable (LargeP n m) := by unfold LargeP; infer_instance
theorem list_eq {α : Type} {a b : List α} (hl : a.length = b.length) (h : ∀ k, k < a.length → ∀ x y, a[k]? = some x → b[k]? = some y → x = y) : a = b := by
 apply List.ext_getElem hl
 intro k h1 h2
 exact h k h1 _ _ (List.getElem?_eq_getElem h1) (List.getElem?_eq_getElem h2)
theorem list_ne {α : Type} {a b : List α} {k : Nat} {x y : α} (h1 : a[k]? = some x) (h2 : b[k]? = some y) (h : x ≠ y) : a ≠ b := fun e => by
 rw [e, h2] at h1
 injection h1 with h1
 exact h h1.symm
theorem eq_step {α : Type} {a b : List α} {i : Nat} {p q : α} (ha : a[i]? = some p) (hb : b[i]? = some q) (hpq : p = q) (h : ∀ k, k < i → ∀ x y, a[k]? = some x → b[k]? = some y → x = y) : ∀ k, k < i + 1 → ∀ x y, a[k]? = some x → b[k]? = some y → x = y := fun k hk x y hx hy => by
 by_cases e : k = i
 ·
  rw [e, ha] at hx
  rw [e, hb] at hy
  injection hx with hx
  injection hy with hy
  rw [← hx, ← hy]; exact hpq
 ·
  exact h k (by omega) x y hx hy
theorem RightO_pos {kd : Int} {l : List UInt64} {ls : List SealR} {bl : UInt64} (h : RightO kd l ls bl = true) (hk : kd = 1) : 1 ≤ ls.length ∧ ls.length = l.length := by
 unfold RightO at h
 rw [if_pos hk] at h
 simp only [Bool.and_eq_true, decide_eq_true_eq] at h
 have := h.2.1.1
 exact ⟨by omega, h.2.2.1⟩
def mayN (pv ep : UInt64) (kd : Int) (l : List UInt64) (ls : List SealR) (bl : UInt64) : Nat :=
 if RightO kd l ls bl = true then (if kd = 1 ∧ headE ls ≠ ep then 2 else if RightB 0 ep = true ∧ ¬ ep ≤ pv then 0 else 1) else 2
theorem mayN_right {pv ep : UInt64} {kd : Int} {l : List UInt64} {ls : List SealR} {bl : UInt64} (h : mayN pv ep kd l ls bl = 0) : RightO kd l ls bl = true := by
 unfold mayN at h
 split at h
 ·
  assumption
 ·
  omega
theorem RightO_idx {kd : Int} {l : List UInt64} {ls : List SealR} {bl : UInt64} (h : RightO kd l ls bl = true) (hk : kd = 1 ∨ kd = 2) : RightI l := by
 unfold RightO at h
 rcases hk with hk | hk
 ·
  rw [if_pos hk] at h
  simp only [Bool.and_eq_true, decide_eq_true_eq] at h
  exact h.2.1
 ·
  rw [if_neg (by omega), if_pos hk] at h
  simp only [Bool.and_eq_true, decide_eq_true_eq] at h
  exact h.2.1
def idxT (l : List UInt64) (i : Nat) : List UInt8 := (List.range i).flatMap (fun k => numK 4 (g64 l k) 4)
theorem idxT_zero (l : List UInt64) : idxT l 0 = [] := rfl
theorem idxT_succ (l : List UInt64) (i : Nat) : idxT l (i + 1) = idxT l i ++ numK 4 (g64 l i) 4 := by
 unfold idxT; rw [List.range_succ, List.flatMap_append]; simp
theorem idxT_len (l : List UInt64) : ∀ i, (idxT l i).length = 4 * i
 | 0 => rfl
 | i + 1 => by rw [idxT_succ, List.length_append, idxT_len l i, BI]; omega
def selT (ls : List SealR) : List UInt8 := ls.flatMap (fun x => putL x.e x.d x.t)
theorem selT_nil : selT [] = [] := rfl
theorem selT_app (ls : List SealR) (x : SealR) : selT (ls ++ [x]) = selT ls ++ putL x.e x.d x.t := by unfold selT; rw [List.flatMap_append]; simp
theorem selT_len : ∀ ls : List SealR, (selT ls).length = 56 * ls.length
 | [] => rfl
 | x :: ls => by
  have h := selT_len ls
  unfold selT at h ⊢
  rw [List.flatMap_cons, List.length_append, h, putL_len x.hd x.ht, List.length_cons]; omega
theorem shr8n {n : Nat} (h : n < 256) : UInt64.ofNat n >>> UInt64.ofNat (8 * 1) = 0 := by
 apply UInt64.toNat_inj.1
 rw [UInt64.toNat_shiftRight, UInt64.toNat_ofNat', Nat.mod_eq_of_lt (by omega), Nat.shiftRight_eq_div_pow]
 show n / 2 ^ 8 = 0
 exact Nat.div_eq_of_lt h
theorem idx_fit {l : List UInt64} {i : Nat} (h : RightI l) (hi : i < l.length) : g64 l i >>> UInt64.ofNat (8 * 4) = 0 := by
 have h1 := h.2.2 i hi
 unfold IdxBad at h1
 exact Classical.not_not.1 (fun e => h1 (.inl e))
def tktT (pv ep : UInt64) (k : Nat) (l : List UInt64) (ls : List SealR) (bl : UInt64) : List UInt8 :=
 if k = 3 then ((numK 8 pv 8 ++ numK 8 ep 8) ++ numK 1 (UInt64.ofNat k) 1) ++ numK 8 bl 8
 else ((((numK 8 pv 8 ++ numK 8 ep 8) ++ numK 1 (UInt64.ofNat k) 1) ++ numK 1 (UInt64.ofNat (l.length - 1)) 1) ++ idxT l l.length) ++ selT ls
end Go.Proofs.YtkdpdgpphpngeaaDoor
namespace Go.Sx
open Go Go.RowKit
open Go.ChangeShapes Go.WideShapes
theorem laidVars_mem {P : Program} {w : World} : ∀ {l : List (String × DataW Unit)} {ps : List MemPlace}, DataW.LaidVars P w l ps → ∀ {n : String} {d : DataW Unit}, (n, d) ∈ l →
  ∃ g t cs fuel p, P.globalNamed n = some g ∧ (P.globals[g]?).map (·.type) = some t ∧ w.var? P n = some cs ∧ DataW.trod (fun _ => ()) P w 0 (fun _ => true) false fuel t cs.toList = some (d, p)
 | (n', d') :: r, ps, h, n, d, hm => by
  obtain ⟨g, t, cs, fuel, p, q, h1, h2, h3, h4, h5, _⟩ := h
  rcases List.mem_cons.1 hm with hm | hm
  ·
   cases hm; exact ⟨g, t, cs, fuel, p, h1, h2, h3, h4⟩
  ·
   exact laidVars_mem h5 hm
theorem open_rdn_u8 {H : Type} {enc : TypeId × Value → H} {P : Program} {w : World} {base : Nat} {spare : Nat → Bool} {held : Bool} {t e : TypeId} {ao : Option Addr} {n c : Nat} {d : DataW H} {ps : List MemPlace} (ht : P.underlying t = some (.slice e)) (he : P.underlying e = some (.int .u8)) (hc : P.cellsOf e = 1)
  (hd : DataW.Trod enc P w base spare held t (.slice ao n c) d ps) : ∃ z : List UInt8, z.length = n ∧ (ao = none → c = 0) ∧ (n ≤ c ∧ c ≤ maxLen) ∧ RdB w [] ao z := by
 have hn : ao = none → c = 0 := fun h => by
  obtain ⟨fuel, hf⟩ := hd
  rcases open_ints ht he hc hf with ⟨h1, _⟩ | ⟨a, len, cap, zs, h1, _⟩
  ·
   have h1' : (Value.slice ao n c) = .slice none 0 0 := by simpa [Value.cells] using h1
   cases h1'; rfl
  ·
   have h1' : (Value.slice ao n c) = .slice (some a) len cap := by simpa [Value.cells] using h1
   cases h1'; cases h
 obtain ⟨z, h1, h2, h3, h4⟩ := open_rd_u8 ht he hc hd
 exact ⟨z, h1, hn, ⟨h2, h3⟩, h4⟩
end Go.Sx
namespace Go.Sx
open Go Go.RowKit Go.Proofs
theorem RdB.holds {w : World} {ao : Option Addr} {n c : Nat} {z : List UInt8} (hr : RdB w [] ao z) (hn : z.length = n) : Lib.HoldsBytes w (.slice ao n c) z := by
 subst hn
 refine ⟨ao, c, rfl, ?_, ?_⟩
 ·
  rintro rfl
  rcases hr with h | ⟨_, _, h, _⟩
  ·
   exact h
  ·
   cases h
 ·
  intro a ha i x hx
  rcases hr with rfl | ⟨b, off, rfl, _, _, hc⟩
  ·
   simp at hx
  ·
   cases ha
   have := hc i (U8 x) (by simp [cu8, hx])
   rw [show (⟨b, off, none⟩ : Addr).add i = ⟨b, off + i, none⟩ from Lib.add_plain2 b off i]
   exact this
def PL (w : World) : List Value → List (List UInt8) → Prop
 | [], [] => True
 | v :: vs, l :: ls => (∃ ao c, v = .slice ao l.length c ∧ RdB w [] ao l) ∧ PL w vs ls
 | _, _ => False
theorem PL.len {w : World} : ∀ {vs : List Value} {ls : List (List UInt8)}, PL w vs ls → vs.length = ls.length
 | [], [], _ => rfl
 | _ :: _, _ :: _, h => by simp [PL.len h.2]
 | [], _ :: _, h => h.elim
 | _ :: _, [], h => h.elim
theorem PL.get {w : World} : ∀ {vs : List Value} {ls : List (List UInt8)}, PL w vs ls → ∀ (i : Nat) v l, vs[i]? = some v → ls[i]? = some l → ∃ ao c, v = .slice ao l.length c ∧ RdB w [] ao l
 | _ :: _, _ :: _, h, 0, v, l, hv, hl => by simp at hv hl; subst hv; subst hl; exact h.1
 | _ :: _, _ :: _, h, i + 1, v, l, hv, hl => PL.get h.2 i v l (by simpa using hv) (by simpa using hl)
 | [], [], _, i, v, l, hv, _ => by simp at hv
 | [], _ :: _, h, _, _, _, _, _ => h.elim
 | _ :: _, [], h, _, _, _, _, _ => h.elim
theorem PL.at {C : Cx} {L : List Ent} {w : World} (hw : Hp C.w0 C.M L w) (hM : C.M = []) : ∀ {vs : List Value} {ls : List (List UInt8)}, PL C.w0 vs ls → PL w vs ls
 | [], [], _ => trivial
 | v :: vs, l :: ls, ⟨⟨ao, c, hv, hr⟩, h⟩ => by
  rw [← hM] at hr
  exact ⟨⟨ao, c, hv, hr.at (M' := []) hw (by simp)⟩, PL.at hw hM h⟩
 | [], _ :: _, h => h.elim
 | _ :: _, [], h => h.elim
def Parts (w : World) (b : Nat) (vs : List Value) (ls : List (List UInt8)) : Prop := RdA w b 0 vs ∧ PL w vs ls
theorem Parts.at {C : Cx} {L : List Ent} {w : World} {b : Nat} {vs : List Value} {ls : List (List UInt8)} (hw : Hp C.w0 C.M L w) (hM : C.M = []) (h : Parts C.w0 b vs ls) (h0 : 0 < ls.length) : Parts w b vs ls :=
 ⟨RdA.of hw (h.1.mem (by simp [hM])) (by rw [h.2.len]; exact h0), h.2.at hw hM⟩
variable {P : Program} {ρ : Shelf.Ren}
end Go.Sx
namespace Go.Proofs.YtkdpdgpphpngeaaDoor
open Go Go.Sx
open Go.Value renaming slice → SL
def tktN (k ni ns : Nat) : Nat := if k = 3 then 25 else 18 + 4*ni + 56*ns
theorem tktT_len {pv ep : UInt64} {k : Nat} {l : List UInt64} {ls : List SealR} {bl : UInt64} {ni ns : Nat} (hl : l.length = ni) (hls : ls.length = ns) : (tktT pv ep k l ls bl).length = tktN k ni ns := by
 unfold tktT tktN
 split
 ·
  simp only [List.length_append, BI]
 ·
  simp only [List.length_append, BI, idxT_len, selT_len, hl, hls]
section
variable {C : Cx} {F : Frm} {L : List Ent}
end
end Go.Proofs.YtkdpdgpphpngeaaDoor
namespace Go.Proofs.YtkdpdgpphpngeaaDoor
open Go Go.Sx Go.RowKit
open Go.Value renaming slice → SL
open Go.ChangeShapes Go.WideShapes
section
variable {H : Type} {enc : TypeId × Value → H} {P : Program} {w : World} {base : Nat} {spare : Nat → Bool} {held : Bool} {sz : Bool} {t : TypeId} {cs : List Value}
end
theorem RightO_cases {kd : Int} {l : List UInt64} {ls : List SealR} {bl : UInt64} (h : RightO kd l ls bl = true) :
  (kd = 1 ∧ 1 ≤ l.length ∧ ls.length = l.length) ∨ (kd = 2 ∧ 1 ≤ l.length ∧ ls.length = 0) ∨ (kd = 3 ∧ l.length = 0 ∧ ls.length = 0) := by
 unfold RightO at h
 split at h
 ·
  rename_i hk
  simp only [Bool.and_eq_true, decide_eq_true_eq] at h
  have := h.2.1.1
  exact .inl ⟨hk, by omega, h.2.2.1⟩
 ·
  split at h
  ·
   rename_i hk
   simp only [Bool.and_eq_true, decide_eq_true_eq] at h
   have := h.2.1.1
   exact .inr (.inl ⟨hk, by omega, h.2.2⟩)
  ·
   split at h
   ·
    rename_i hk
    simp only [Bool.and_eq_true, decide_eq_true_eq] at h
    exact .inr (.inr ⟨hk, by omega, by omega⟩)
   ·
    exact absurd h (by decide)
theorem tktN_le {k ni ns : Nat} (h1 : ni ≤ 300) (h2 : ns ≤ 300) : tktN k ni ns ≤ 30000 := by
 unfold tktN; split <;> omega
end Go.Proofs.YtkdpdgpphpngeaaDoor
namespace Go.Proofs.YtkdpdgpphpngeaaDoor
open Go Go.Sx
open Go.Value renaming slice → SL
def ySeal (z : List UInt8) : SealR :=
 if h : 56 ≤ z.length then ⟨valK z 8, mid (z.drop 8) 0 32, mid ((z.drop 8).drop 32) 0 16, EK (by rw [List.length_drop]; omega), EK (by rw [List.length_drop, List.length_drop]; omega)⟩
 else ⟨0, zr8 32, zr8 16, AN 32, AN 16⟩
def z3T (z : List UInt8) : List UInt8 := ((z.drop 8).drop 8).drop 1
def kdT (z : List UInt8) : Nat := (valK ((z.drop 8).drop 8) 1).toNat
def nnT (z : List UInt8) : Nat := (valK (z3T z) 1).toNat + 1
def zlT (z : List UInt8) : List UInt8 := (z3T z).drop 1
def ixT (zl : List UInt8) : Nat → List UInt64
 | 0 => []
 | i + 1 => ixT zl i ++ [valK (zl.drop (4*i)) 4]
def seT (zs : List UInt8) : Nat → List SealR
 | 0 => []
 | j + 1 => seT zs j ++ [ySeal (zs.drop (56*j))]
def nsT (z : List UInt8) : Nat := if kdT z = 1 then nnT z else 0
def zsT (z : List UInt8) : List UInt8 := (zlT z).drop (4 * nnT z)
def lT (z : List UInt8) : List UInt64 := if kdT z = 3 then [] else ixT (zlT z) (nnT z)
def lsT (z : List UInt8) : List SealR := if kdT z = 1 then seT (zsT z) (nnT z) else []
def blT (z : List UInt8) : UInt64 := if kdT z = 3 then valK (z3T z) 8 else 0
def LenT (z : List UInt8) : Prop := 17 ≤ z.length ∧ ((kdT z = 3 ∧ 41 ≤ z.length) ∨ ((kdT z = 1 ∨ kdT z = 2) ∧ 18 ≤ z.length ∧ 34 + 4 * nnT z + 56 * nsT z ≤ z.length))
instance (z : List UInt8) : Decidable (LenT z) := by unfold LenT; infer_instance
def OkT (z : List UInt8) : Prop := LenT z ∧ mayN (valK z 8) (valK (z.drop 8) 8) (kdT z : Int) (lT z) (lsT z) (blT z) = 0
instance (z : List UInt8) : Decidable (OkT z) := by unfold OkT; infer_instance
theorem mayN_kd {pv ep : UInt64} {kd : Int} {l : List UInt64} {ls : List SealR} {bl : UInt64} (h : kd ≠ 1 ∧ kd ≠ 2 ∧ kd ≠ 3) : mayN pv ep kd l ls bl = 2 := by
 have hR : ¬ RightO kd l ls bl = true := fun e => by
  rcases RightO_cases e with h1 | h1 | h1
  ·
   exact h.1 h1.1
  ·
   exact h.2.1 h1.1
  ·
   exact h.2.2 h1.1
 unfold mayN; rw [if_neg hR]
theorem bnotT {b : Bool} (h : b = true) : (!b) = false := by rw [h]; rfl
theorem bnotF {b : Bool} (h : b = false) : (!b) = true := by rw [h]; rfl
def eQ (z0 : List UInt8) (p : Nat) : Nat := if p ≤ z0.length then 0 else 2
def vQ (z0 : List UInt8) (p s : Nat) : UInt64 := if p + s ≤ z0.length then valK (z0.drop p) s else 0
def tQ (z0 : List UInt8) (p s : Nat) : List UInt8 := if p + s ≤ z0.length then mid (z0.drop p) 0 s else []
def bQ (z0 : List UInt8) (p s : Nat) : List UInt8 := if p + s ≤ z0.length then mid (z0.drop p) 0 s else zr8 s
theorem BG (z0 : List UInt8) (p s : Nat) : (bQ z0 p s).length = s := by
 unfold bQ
 by_cases h : p + s ≤ z0.length
 ·
  rw [if_pos h]; exact EK (by rw [List.length_drop]; omega)
 ·
  rw [if_neg h]; exact AN s
theorem bQ_neg {z0 : List UInt8} {p s : Nat} (h : ¬ p + s ≤ z0.length) : bQ z0 p s = zr8 s := if_neg h
theorem E6 (z0 : List UInt8) (p : Nat) : (vQ z0 p 1).toNat < 256 := by
 unfold vQ
 by_cases h : p + 1 ≤ z0.length
 ·
  rw [if_pos h, valK_one]
  have := (g8 (z0.drop p) 0).toNat_lt
  simpa using this
 ·
  rw [if_neg h]; decide
def sQ (z0 : List UInt8) (p : Nat) : SealR := ⟨vQ z0 p 8, bQ z0 (p + 8) 32, bQ z0 (p + 40) 16, BG _ _ _, BG _ _ _⟩
theorem sQ_eq (z0 : List UInt8) (p : Nat) (h1 : (bQ z0 (p + 8) 32).length = 32) (h2 : (bQ z0 (p + 40) 16).length = 16) : SealR.mk (vQ z0 p 8) (bQ z0 (p + 8) 32) (bQ z0 (p + 40) 16) h1 h2 = sQ z0 p := rfl
def ixQ (z0 : List UInt8) (p : Nat) : Nat → List UInt64
 | 0 => []
 | i + 1 => ixQ z0 p i ++ [vQ z0 (p + 4*i) 4]
def seQ (z0 : List UInt8) (p : Nat) : Nat → List SealR
 | 0 => []
 | j + 1 => seQ z0 p j ++ [sQ z0 (p + 56*j)]
theorem ixQ_succ (z0 : List UInt8) (p i : Nat) : ixQ z0 p (i + 1) = ixQ z0 p i ++ [vQ z0 (p + 4*i) 4] := rfl
theorem ixQ_one (z0 : List UInt8) (p : Nat) : ixQ z0 p 1 = [vQ z0 p 4] := rfl
theorem seQ_succ (z0 : List UInt8) (p i : Nat) : seQ z0 p (i + 1) = seQ z0 p i ++ [sQ z0 (p + 56*i)] := rfl
theorem seQ_one (z0 : List UInt8) (p : Nat) : seQ z0 p 1 = [sQ z0 p] := rfl
theorem E7 (z0 : List UInt8) (p : Nat) : ∀ i, (ixQ z0 p i).length = i
 | 0 => rfl
 | i + 1 => by unfold ixQ; rw [List.length_append, E7 z0 p i]; rfl
theorem seQ_len (z0 : List UInt8) (p : Nat) : ∀ i, (seQ z0 p i).length = i
 | 0 => rfl
 | i + 1 => by unfold seQ; rw [List.length_append, seQ_len z0 p i]; rfl
theorem eQ_zero {z0 : List UInt8} {p : Nat} : eQ z0 p = 0 ↔ p ≤ z0.length := by
 unfold eQ
 by_cases h : p ≤ z0.length
 ·
  rw [if_pos h]; exact ⟨fun _ => h, fun _ => rfl⟩
 ·
  rw [if_neg h]; exact ⟨fun e => absurd e (by decide), fun e => absurd e h⟩
theorem E5 {z0 : List UInt8} {p : Nat} (h : p ≤ z0.length) : eQ z0 p = 0 := eQ_zero.2 h
theorem DJ {z0 : List UInt8} {p : Nat} (h : ¬ p ≤ z0.length) : eQ z0 p = 2 := if_neg h
def Lq (z0 z : List UInt8) (p : Nat) : Prop := p ≤ z0.length → z = z0.drop p
theorem Lq.zero (z0 : List UInt8) : Lq z0 z0 0 := fun _ => rfl
theorem Lq.len {z0 z : List UInt8} {p : Nat} (h : Lq z0 z p) (hp : p ≤ z0.length) : z.length = z0.length - p := by rw [h hp, List.length_drop]
theorem NuOk_q {z0 z : List UInt8} {p s : Nat} (h : Lq z0 z p) (hs : Szd (s : Int)) : NuOk z (eQ z0 p) (s : Int) ↔ p + s ≤ z0.length := by
 unfold NuOk
 rw [eQ_zero]
 constructor
 ·
  rintro ⟨h1, _, h3⟩; have := h.len h1; omega
 ·
  intro h1; have := h.len (by omega); exact ⟨by omega, hs, by omega⟩
theorem TkOk_q {z0 z : List UInt8} {p s : Nat} (h : Lq z0 z p) : TkOk z (eQ z0 p) (s : Int) ↔ p + s ≤ z0.length := by
 unfold TkOk
 rw [eQ_zero]
 constructor
 ·
  rintro ⟨h1, _, h3⟩; have := h.len h1; omega
 ·
  intro h1; have := h.len (by omega); exact ⟨by omega, by omega, by omega⟩
theorem okE_q {z0 : List UInt8} {p s : Nat} {q : Prop} [Decidable q] (h : q ↔ p + s ≤ z0.length) : okE (eQ z0 p) (decide q) = eQ z0 (p + s) := by
 by_cases hq : q
 ·
  rw [decide_eq_true hq, E5 (h.1 hq)]; rfl
 ·
  rw [decide_eq_false hq, DJ (fun e => hq (h.2 e))]
  show erN (eQ z0 p) 2 = 2
  unfold eQ
  by_cases hp : p ≤ z0.length
  ·
   rw [if_pos hp]; rfl
  ·
   rw [if_neg hp]; rfl
theorem nuV_q {z0 z : List UInt8} {p s : Nat} (h : Lq z0 z p) (hs : Szd (s : Int)) : nuV z (eQ z0 p) (s : Int) = vQ z0 p s := by
 unfold nuV vQ
 by_cases hq : p + s ≤ z0.length
 ·
  rw [if_pos ((NuOk_q h hs).2 hq), if_pos hq, h (by omega)]; rfl
 ·
  rw [if_neg (fun e => hq ((NuOk_q h hs).1 e)), if_neg hq]
theorem nuZ_q {z0 z : List UInt8} {p s : Nat} (h : Lq z0 z p) (hs : Szd (s : Int)) : Lq z0 (nuZ z (eQ z0 p) (s : Int)) (p + s) := fun hq => by
 unfold nuZ
 rw [if_pos ((NuOk_q h hs).2 hq), h (by omega), List.drop_drop]; rfl
theorem tkV_q {z0 z : List UInt8} {p s : Nat} (h : Lq z0 z p) : tkV z (eQ z0 p) (s : Int) = tQ z0 p s := by
 unfold tkV tQ
 by_cases hq : p + s ≤ z0.length
 ·
  rw [if_pos ((TkOk_q h).2 hq), if_pos hq, h (by omega)]; rfl
 ·
  rw [if_neg (fun e => hq ((TkOk_q h).1 e)), if_neg hq]
theorem tkZ_q {z0 z : List UInt8} {p s : Nat} (h : Lq z0 z p) : Lq z0 (tkZ z (eQ z0 p) (s : Int)) (p + s) := fun hq => by
 unfold tkZ
 rw [if_pos ((TkOk_q h).2 hq), h (by omega), List.drop_drop]; rfl
def blankB (pv ep : UInt64) (kd : Int) (l : List UInt64) (ls : List SealR) (bl : UInt64) (tg : List UInt8) : Bool :=
 decide (pv = 0 ∧ ep = 0 ∧ tg = zr8 16 ∧ kd = 0 ∧ bl = 0 ∧ l = [] ∧ ls = [])
def spanB (fs : UInt64) (mn : Int) : Bool := decide (1 ≤ mn ∧ mn ≤ 256 ∧ fs.toNat + mn.toNat ≤ 4294967296)
theorem spanB_no {fs : UInt64} {mn : Int} (h : mn < 1 ∨ 256 < mn) : spanB fs mn = false := decide_eq_false (fun e => by omega)
theorem span_ok {fs : UInt64} {mn : Nat} (h1 : 1 ≤ mn) (h2 : mn ≤ 256) : spanB fs (mn:Int) = decide (fs.toNat + mn ≤ 4294967296) := decide_eq_decide.2 ⟨fun e => by have := e.2.2; rwa [Int.toNat_natCast] at this, fun e => ⟨by omega, by omega, by rwa [Int.toNat_natCast]⟩⟩
theorem span_hi {fs : UInt64} {mn : Nat} (h : fs < 4294967296) (h2 : UInt64.ofNat mn ≤ 4294967296 - fs) (hm : mn ≤ 256) : fs.toNat + mn ≤ 4294967296 := by
 have h1 : fs.toNat < 4294967296 := UInt64.lt_iff_toNat_lt.1 h
 have h3 := UInt64.le_iff_toNat_le.1 h2
 rw [UInt64.toNat_sub, UInt64.toNat_ofNat', Nat.mod_eq_of_lt (by omega)] at h3
 have h4 : (4294967296 : UInt64).toNat = 4294967296 := rfl
 rw [h4] at h3
 omega
theorem span_lo {fs : UInt64} {mn : Nat} (h : fs < 4294967296) (h2 : ¬ UInt64.ofNat mn ≤ 4294967296 - fs) (hm : mn ≤ 256) : ¬ fs.toNat + mn ≤ 4294967296 := fun e => h2 (by
 have h1 : fs.toNat < 4294967296 := UInt64.lt_iff_toNat_lt.1 h
 apply UInt64.le_iff_toNat_le.2
 rw [UInt64.toNat_sub, UInt64.toNat_ofNat', Nat.mod_eq_of_lt (by omega)]
 have h4 : (4294967296 : UInt64).toNat = 4294967296 := rfl
 rw [h4]
 omega)
theorem span_no {fs : UInt64} {mn : Nat} (h : ¬ fs < 4294967296) (hm : 1 ≤ mn) : ¬ fs.toNat + mn ≤ 4294967296 := fun e => h (UInt64.lt_iff_toNat_lt.2 (by
 show fs.toNat < 4294967296
 omega))
theorem ofN_to {n : Nat} (h : n ≤ 256) : (UInt64.ofNat n).toNat = n := by rw [UInt64.toNat_ofNat', Nat.mod_eq_of_lt (by omega)]
theorem sub_to {fs : UInt64} (h : fs < 4294967296) : (4294967296 - fs).toNat = 4294967296 - fs.toNat := by
 have h1 : fs.toNat < 4294967296 := UInt64.lt_iff_toNat_lt.1 h
 have h4 : (4294967296 : UInt64).toNat = 4294967296 := rfl
 rw [UInt64.toNat_sub, h4]
 omega
theorem span_lt {fs : UInt64} {mn : Nat} (h : fs < 4294967296) (h2 : UInt64.ofNat (mn - 1) < 4294967296 - fs) (h0 : 1 ≤ mn) (hm : mn ≤ 256) : fs.toNat + mn ≤ 4294967296 := by
 have h3 := UInt64.lt_iff_toNat_lt.1 h2
 rw [sub_to h, ofN_to (by omega)] at h3
 omega
theorem span_gt {fs : UInt64} {mn i : Nat} (h : fs < 4294967296) (h2 : 4294967296 - fs ≤ UInt64.ofNat i) (hi : i < mn) (hm : mn ≤ 256) : ¬ fs.toNat + mn ≤ 4294967296 := fun e => by
 have h3 := UInt64.le_iff_toNat_le.1 h2
 rw [sub_to h, ofN_to (by omega)] at h3
 omega
def reqR (qk : Int) (lq : List UInt64) (fs : UInt64) (mn : Int) (eq : UInt64) (bt my : Bool) : Bool :=
 if qk = 1 then (decide (fs = 0) && decide (mn = 0)) && (bt && decide (RightI lq))
 else if qk = 2 then decide (lq.length = 0) && (bt && spanB fs mn)
 else if qk = 3 then decide (lq.length = 0) && ((decide (fs = 0) && decide (mn = 0)) && (decide (eq = 0) && my))
 else if qk = 4 ∨ qk = 5 then decide (lq.length = 0) && ((decide (fs = 0) && decide (mn = 0)) && bt)
 else false
theorem reqR_one {lq : List UInt64} {fs eq : UInt64} {mn : Int} {bt my : Bool} (h : reqR 1 lq fs mn eq bt my = true) : RightI lq := by
 unfold reqR at h
 rw [if_pos rfl] at h
 simp only [Bool.and_eq_true, decide_eq_true_eq] at h
 exact h.2.2
theorem reqR_two {lq : List UInt64} {fs eq : UInt64} {mn : Int} {bt my : Bool} (h : reqR 2 lq fs mn eq bt my = true) : spanB fs mn = true := by
 unfold reqR at h
 rw [if_neg (by decide), if_pos rfl] at h
 simp only [Bool.and_eq_true] at h
 exact h.2.2
theorem reqR_three {lq : List UInt64} {fs eq : UInt64} {mn : Int} {bt my : Bool} (h : reqR 3 lq fs mn eq bt my = true) : my = true := by
 unfold reqR at h
 rw [if_neg (by decide), if_neg (by decide), if_pos rfl] at h
 simp only [Bool.and_eq_true] at h
 exact h.2.2.2
theorem reqR_blank {qk : Int} {lq : List UInt64} {fs eq : UInt64} {mn : Int} {bt my : Bool} (h : reqR qk lq fs mn eq bt my = true) (h3 : qk ≠ 3) : bt = true ∧ (qk = 1 ∨ qk = 2 ∨ qk = 4 ∨ qk = 5) := by
 unfold reqR at h
 split at h
 ·
  simp only [Bool.and_eq_true] at h
  exact ⟨h.2.1, by omega⟩
 ·
  split at h
  ·
   simp only [Bool.and_eq_true] at h
   exact ⟨h.2.1, by omega⟩
  ·
   try rw [if_neg h3] at h
   split at h
   ·
    simp only [Bool.and_eq_true] at h
    exact ⟨h.2.2, by omega⟩
   ·
    cases h
theorem span_nn {fs : UInt64} {mn : Int} (h : spanB fs mn = true) : 1 ≤ mn ∧ mn ≤ 256 := by
 have := of_decide_eq_true h
 exact ⟨this.1, this.2.1⟩
theorem span_fit {fs : UInt64} {mn : Int} (h : spanB fs mn = true) : fs >>> UInt64.ofNat (8 * 4) = 0 := by
 have h1 := of_decide_eq_true h
 have h2 : fs.toNat < 4294967296 := by omega
 apply UInt64.toNat_inj.1
 rw [UInt64.toNat_shiftRight, Nat.shiftRight_eq_div_pow]
 show fs.toNat / 2 ^ 32 = 0
 exact Nat.div_eq_of_lt h2
end Go.Proofs.YtkdpdgpphpngeaaDoor
