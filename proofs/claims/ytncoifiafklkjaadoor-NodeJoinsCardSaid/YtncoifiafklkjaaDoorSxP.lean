import Derived.Test.YtncoifiafklkjaaDoorSxN
import Derived.RangeFuncNested
import Derived.RangeFuncRecord
import Derived.RangeFuncLeaves
namespace Go.Sx
open Go Go.RowKit

/-! ### ranges over functions -/
set_option linter.unusedVariables false
variable {C : Cx} {F : Frm} {L L0 : List Ent} {Q : Exit → Act → World → Prop} {ops : Array Oper}

/-- The mark that a range over a function leaves among the deferred calls. -/
abbrev markOf (D : Nat) : Deferred := { target := .collected D, args := #[] }

theorem Hp.here {w0 w : World} {M : List Nat} (hw : Hp w0 M L w) : Hp w (L.map Ent.b) L w :=
  ⟨rfl, rfl, rfl, Nat.le_refl _, fun _ _ _ => rfl, hw.ent, hw.nd, fun _ he => .inl (List.mem_map_of_mem he)⟩
theorem Hp.perm {w0 w : World} {M : List Nat} {L' : List Ent} (hw : Hp w0 M L w) (hp : L.Perm L') : Hp w0 M L' w :=
  hw.sub (fun _ he => hp.mem_iff.2 he) ((hp.map Ent.b).nodup_iff.1 hw.nd)
theorem putObj_twice (w : World) (l : Nat) (o o' : Obj) : (w.putObj l o).putObj l o' = w.putObj l o' := by
  simp only [World.putObj, World.mk.injEq, and_true]
  apply Array.ext_getElem?
  intro i
  simp only [Array.getElem?_setIfInBounds, Array.size_setIfInBounds]
  split <;> simp_all
theorem putObj_self {w : World} {l : Nat} {o : Obj} (h : w.heap[l]? = some o) : w.putObj l o = w := by
  simp only [World.putObj]
  have : w.heap.setIfInBounds l o = w.heap := by
    apply Array.ext_getElem?
    intro i
    simp only [Array.getElem?_setIfInBounds]
    split
    · rename_i hi; subst hi
      have := (Array.getElem?_eq_some_iff.1 h).1
      rw [if_pos this, h]
    · rfl
  rw [this]
theorem Hp.far {w0 w : World} {M : List Nat} {l : Nat} (hw : Hp w0 M L w) (h0 : l < w0.heap.size) (hM : l ∉ M) : ∀ e ∈ L, e.b ≠ l := fun e he h => by
  rcases hw.own e he with h1 | h1
  · exact hM (h ▸ h1)
  · omega
/-- A block that no entry names turns on both sides. -/
theorem Hp.both {w0 w : World} {M : List Nat} {l : Nat} (hw : Hp w0 M L w) (o : Obj) (h0 : l < w0.heap.size) (hM : l ∉ M) : Hp (w0.putObj l o) M L (w.putObj l o) :=
  ⟨hw.os, hw.tape, hw.output, by simpa using hw.le, fun b hb hM' => by
    by_cases e : b = l
    · subst e
      rw [World.putObj_heap_same h0, World.putObj_heap_same (Nat.lt_of_lt_of_le h0 hw.le)]
    · rw [World.putObj_heap_other e, World.putObj_heap_other e]; exact hw.old b (by simpa using hb) hM',
   fun e he => by rw [World.putObj_heap_other (hw.far h0 hM e he)]; exact hw.ent e he, hw.nd, fun e he => by simpa using hw.own e he⟩
/-- A new block that no entry names turns. -/
theorem Hp.putObj {w0 w : World} {M : List Nat} {D : Nat} (hw : Hp w0 M L w) (o : Obj) (hD : w0.heap.size ≤ D) (hL : ∀ e ∈ L, e.b ≠ D) : Hp w0 M L (w.putObj D o) :=
  ⟨hw.os, hw.tape, hw.output, by simpa using hw.le, fun b hb hM => by
    rw [World.putObj_heap_other (by omega)]; exact hw.old b hb hM,
   fun e he => by rw [World.putObj_heap_other (hL e he)]; exact hw.ent e he, hw.nd, hw.own⟩
theorem Hp.allocObj {w0 w : World} {M : List Nat} (hw : Hp w0 M L w) (o : Obj) : Hp w0 M L (w.alloc o) :=
  ⟨hw.os, hw.tape, hw.output, by have := hw.le; simp; omega, fun b hb hM => by
    rw [Below.heap_alloc _ _ _ (by have := hw.le; omega)]; exact hw.old b hb hM,
   fun e he => by rw [Below.heap_alloc _ _ _ (Array.getElem?_eq_some_iff.1 (hw.ent e he)).1]; exact hw.ent e he, hw.nd, hw.own⟩
theorem Hp.lt {w0 w : World} {M : List Nat} (hw : Hp w0 M L w) : ∀ e ∈ L, e.b < w.heap.size := fun e he => (Array.getElem?_eq_some_iff.1 (hw.ent e he)).1
theorem Hp.notCells {w0 w : World} {M : List Nat} {D : Nat} {o : Obj} (hw : Hp w0 M L w) (hD : w.heap[D]? = some o) (ho : o.isCells = false) : ∀ e ∈ L, e.b ≠ D := fun e he h => by
  have := hw.ent e he
  rw [h, hD] at this
  cases this
  cases ho
/-- One stretch behind another. -/
theorem Hp.next {w0 w w' : World} {M : List Nat} {A S S' : List Ent} (h : Hp w0 M (A ++ S) w) (h' : Hp w (S.map Ent.b) S' w') : Hp w0 M (A ++ S') w' :=
  h.call h' List.perm_append_comm rfl
theorem Hp.then {w0 w w' : World} {M : List Nat} {L' : List Ent} (h : Hp w0 M L w) (h' : Hp w (L.map Ent.b) L' w') : Hp w0 M L' w' := by
  simpa using Hp.next (A := []) h h'

/-- What a round gives: the next state; or 'no more', what has been left, and what the loop's record says then. -/
def RoundEnd (l : Nat) (W : World) (M : List Nat) (N : List Ent → Prop) (X : List Ent → Obj → Prop) (e : Ending) (W' : World) : Prop :=
  (e = .returned (.bool true) ∧ ∃ L', N L' ∧ Hp W M L' W') ∨ (e = .returned (.bool false) ∧ ∃ L' o, X L' o ∧ Hp (W.putObj l o) M L' W')

/-- An iterator's contract: E0: what it owns at the start; Rb: the old blocks that it reads; go k: a k-th element comes; enc k: it. -/
def Iter (P : Program) (gf : FuncId) (lb : Array Value) (E0 : List Ent) (Rb : List Nat) (w0 : World) (go fin : Nat → Prop) (enc : Nat → Value) : Prop :=
  ∀ (l B : Nat) (W : World) (S : Nat → List Ent → Prop) (X : Nat → List Ent → Obj → Prop) (S0 : List Ent), S 0 S0 → Hp W ((E0 ++ S0).map Ent.b) (E0 ++ S0) W → l < W.heap.size → l ∉ (E0 ++ S0).map Ent.b →
    (∀ b ∈ Rb, b ∉ (E0 ++ S0).map Ent.b ∧ W.heap[b]? = w0.heap[b]? ∧ b ≠ l) →
    (∀ k Sk W1, go k → k ≤ B → S k Sk → Hp W ((E0 ++ S0).map Ent.b) Sk W1 →
      YieldAt (Fc none) 0 P l #[enc k] W1 (RoundEnd l W1 (Sk.map Ent.b) (fun L' => k + 1 ≤ B ∧ S (k + 1) L') (X k))) →
    CallsIn (Fc none) 0 P gf (#[.func (.yield l) #[] #[]] ++ lb) W fun e W' => (∃ v, e = .returned v) ∧
      ((∃ k L', fin k ∧ S k L' ∧ Hp W ((E0 ++ S0).map Ent.b) L' W') ∨ (∃ k L' o, go k ∧ X k L' o ∧ Hp (W.putObj l o) ((E0 ++ S0).map Ent.b) L' W'))

/-- A call of yield, in the iterator's walk. -/
theorem JL_yield {l0 : List Oper} {x : Operand} {args : Array Operand} {ats : Array TypeId} {ty : TypeId} (l : Nat) (vs : List Value) (A S : List Ent) (N : List Ent → Prop) (X : List Ent → Obj → Prop)
    {d : Nat} {pos : String} {aft : Array Edge} (hx : ev F x = some (.func (.yield l) #[] #[])) (ha : args.toList.map (ev F) = vs.map some) (hL : L = A ++ S) (hl : l < C.w0.heap.size) (hlM : l ∉ C.M) (hd : Nat.blt d C.n = true)
    (hY : ∀ w, Hp C.w0 C.M L w → YieldAt (Fc C.rd) 0 C.P l vs.toArray w (RoundEnd l w (S.map Ent.b) N X))
    (hT : ∀ L', N L' → JL C Q ops l0 ((d, .bool true) :: F) (A ++ L'))
    (hF : ∀ L' o, X L' o → JL ⟨C.P, C.w0.putObj l o, C.M, C.n, C.rd, C.df⟩ Q ops l0 ((d, .bool false) :: F) (A ++ L')) :
    JL C Q ops (⟨some d, .call { callee := .value x, args := args, argTypes := ats }, ty, pos, aft, none⟩ :: l0) F L := by
  subst hL
  intro a w ha' hw
  refine wpListIn_plain rfl fun K hK => ?_
  have hargs : args.map a.eval = vs.toArray := by
    apply Array.toList_inj.1
    rw [Array.toList_map]
    generalize args.toList = l at ha
    clear hY
    induction l generalizing vs with
    | nil => cases vs <;> simp_all
    | cons o l ih =>
      cases vs with
      | nil => simp at ha
      | cons v vs =>
        simp only [List.map_cons, List.cons.injEq] at ha
        simp [ha'.ev ha.1, ih vs ha.2]
  obtain ⟨fn, tmps, assign, body, hy, hR⟩ := hY w hw
  have hrun : (execOp a.eval ⟨some d, .call { callee := .value x, args := args, argTypes := ats }, ty, pos, aft, none⟩).run C.P w = .ok (.round l fn tmps assign body) w := by
    have h2 := ha'.ev hx
    simp [execOp, resolve, hargs, h2, Deferred.ofValue, invoke, hy]
  unfold Oper.wpIn
  refine ⟨fun _ _ => trivial, ?_⟩
  rw [Oper.semAt_plain _ _ _ (nd_of_run hrun (by simp)), hrun]
  refine ⟨fun h => by simp [Fc] at h, hR.mono ?_⟩
  have hd' : d < C.n := by simpa [Nat.blt_eq] using hd
  rintro e W' (⟨rfl, L', hN, hp⟩ | ⟨rfl, L', o, hX, hp⟩)
  · exact hK _ _ (hT L' hN _ _ (ha'.put _ hd') (hw.next hp))
  · exact hK _ _ (hF L' o hX _ _ (ha'.put _ hd') ((hw.both o hl hlM).next hp))

/-- At a round's beginning, behind the assignment. -/
def BeginPost (C : Cx) (Qb : Exit → Act → World → Prop) (body : Code) (l : Nat) (rb : Obj) : Exit → Act → World → Prop
  | .normal, a, w => w.heap[l]? = C.w0.heap[l]? ∧ body.wpIn (Fc C.rd) 0 C.P Qb a (w.putObj l rb)
  | _, _, _ => False
theorem JQ_begin {Qb : Exit → Act → World → Prop} {body : Code} {l : Nat} {rb : Obj} (h0 : l < C.w0.heap.size) (hM : l ∉ C.M)
    (h : JC ⟨C.P, C.w0.putObj l rb, C.M, C.n, C.rd, C.df⟩ Qb body F L) : JQ C (BeginPost C Qb body l rb) .normal F L :=
  fun a w ha hw => ⟨hw.old l h0 hM, h a _ ha (hw.both rb h0 hM)⟩
/-- How a round's body ends. -/
def BodyEnd (W : World) (M : List Nat) (N : List Ent → Prop) (X : Code → List Ent → Prop) : Exit → Act → World → Prop
  | .normal, _, w => ∃ L', N L' ∧ Hp W M L' w
  | .exit id, _, w => ∃ L', X (.exit id) L' ∧ Hp W M L' w
  | .ret, _, w => ∃ L', X .ret L' ∧ Hp W M L' w
  | _, _, _ => False
theorem JQ_bodyN {N : List Ent → Prop} {X : Code → List Ent → Prop} (h : N L) : JQ C (BodyEnd C.w0 C.M N X) .normal F L := fun _ _ _ hw => ⟨L, h, hw⟩
theorem JQ_bodyX {N : List Ent → Prop} {X : Code → List Ent → Prop} {id : Nat} (h : X (.exit id) L) : JQ C (BodyEnd C.w0 C.M N X) (.exit id) F L := fun _ _ _ hw => ⟨L, h, hw⟩
theorem JQ_bodyR {N : List Ent → Prop} {X : Code → List Ent → Prop} (h : X .ret L) : JQ C (BodyEnd C.w0 C.M N X) .ret F L := fun _ _ _ hw => ⟨L, h, hw⟩

theorem JC_range {gop : Operand} {p gf : Nat} {assign body : Code} {lb : Array Value} (A E0 S0 : List Ent) (Rb : List Nat) (go fin : Nat → Prop) (enc : Nat → Value)
    (B : Nat) (S : Nat → List Ent → Prop) (X : Nat → Code → List Ent → Prop) (hro : C.rd = none) (hdf : C.df = [])
    (hg : ev F gop = some (.func (.func gf) #[] lb)) (hcf : ∀ (args : Array Value) (w : World), (callFunc gf args).run C.P w = .ok (.enter gf args) w)
    (hL : L.Perm (A ++ (E0 ++ S0))) (hp : Nat.blt p C.n = true) (hS0 : S 0 S0) (hRb : ∀ b ∈ Rb, b < C.w0.heap.size ∧ b ∉ C.M ∨ b ∈ A.map Ent.b)
    (hit : ∀ w, Hp C.w0 C.M L w → Iter C.P gf lb E0 Rb w go fin enc)
    (hround : ∀ l rb k Sk W1, go k → k ≤ B → S k Sk → l < W1.heap.size → l ∉ Sk.map Ent.b →
      (∀ e ∈ A, W1.heap[e.b]? = some (.cells e.cs.toArray e.T e.fz) ∧ e.b ∉ Sk.map Ent.b ∧ e.b ≠ l) →
      (∀ b, b < C.w0.heap.size → b ∉ C.M → W1.heap[b]? = C.w0.heap[b]? ∧ b ∉ Sk.map Ent.b ∧ b ≠ l) → C.w0.heap.size ≤ W1.heap.size →
      JC ⟨C.P, W1, Sk.map Ent.b, C.n, some l, []⟩ (BeginPost ⟨C.P, W1, Sk.map Ent.b, C.n, some l, []⟩ (BodyEnd (W1.putObj l rb) (Sk.map Ent.b) (fun L' => k + 1 ≤ B ∧ S (k + 1) L') (X k)) body l rb) assign ((p, enc k) :: F) Sk)
    (hdone : ∀ D k L' W', fin k → S k L' → Hp C.w0 C.M (A ++ L') W' → W'.heap[D]? = some (.deferred (some [])) → C.w0.heap.size ≤ D →
      JQ ⟨C.P, W', (A ++ L').map Ent.b, C.n, none, [markOf D]⟩ Q .normal F (A ++ L'))
    (hstop : ∀ D k c L' W', go k → X k c L' → Hp C.w0 C.M (A ++ L') W' → W'.heap[D]? = some (.deferred (some [])) → C.w0.heap.size ≤ D →
      JC ⟨C.P, W', (A ++ L').map Ent.b, C.n, none, [markOf D]⟩ Q c F (A ++ L')) : JC C Q (.rangeFunc gop #[p] assign body) F L := by
  intro a w ha hw
  have hp' : p < C.n := by simpa [Nat.blt_eq] using hp
  have hwp := hw.perm hL
  refine wpIn_rangeFunc ?_
  intro fn hfn
  rw [hro]
  show ∃ (l : Nat) (mark : List Deferred) (w₁ : World) (d : Deferred) (w₁' : World) (f : FuncId) (args : Array Value) (w₂ : World),
    (Instr.enterLoop fn a.tmps #[p] assign body none).run C.P w = _ ∧ _
  obtain ⟨rec, hrec⟩ : ∃ rec : LoopState → Option Code → Loop, rec = fun st pe => { state := st, pending := pe, fn, tmps := a.tmps, params := #[p], assign, body, defers := w.heap.size } := ⟨_, rfl⟩
  obtain ⟨W1, hW1⟩ : ∃ W1, (w.alloc (.deferred (some []))).alloc (.loop (rec .ready none)) = W1 := ⟨_, rfl⟩
  have hsz : W1.heap.size = w.heap.size + 2 := by rw [← hW1]; simp
  have hL1 : W1.heap[w.heap.size + 1]? = some (.loop (rec .ready none)) := by
    rw [← hW1]; have := World.alloc_heap_new (w.alloc (.deferred (some []))) (.loop (rec .ready none)); rwa [World.size_alloc] at this
  have hK1 : W1.heap[w.heap.size]? = some (.deferred (some [])) := by
    rw [← hW1]; exact (Below.heap_alloc _ _ _ (by simp)).trans (World.alloc_heap_new w _)
  have hq1 : Hp C.w0 C.M (A ++ (E0 ++ S0)) W1 := by rw [← hW1]; exact (hwp.allocObj _).allocObj _
  have hlt : ∀ e ∈ A ++ (E0 ++ S0), e.b < w.heap.size := hwp.lt
  have hlM : ∀ m, w.heap.size ≤ m → m ∉ (E0 ++ S0).map Ent.b := fun m hm h => by
    obtain ⟨e, he, rfl⟩ := List.mem_map.1 h
    have := hlt e (List.mem_append.2 (.inr he)); omega
  have hnd : ((A ++ (E0 ++ S0)).map Ent.b).Nodup := hwp.nd
  have hAn : ∀ e ∈ A, e.b ∉ (E0 ++ S0).map Ent.b := fun e he h => by
    rw [List.map_append, List.nodup_append] at hnd
    exact hnd.2.2 _ (List.mem_map_of_mem he) _ h rfl
  refine ⟨w.heap.size + 1, [markOf w.heap.size], W1, { target := .fn (.func gf) lb, args := #[.func (.yield (w.heap.size + 1)) #[] #[]] }, W1, gf,
    #[.func (.yield (w.heap.size + 1)) #[] #[]] ++ lb, W1, ?_, ?_, fun _ _ => trivial, ?_, fun h => by simp [Fc] at h, ?_⟩
  · rw [← hW1, hrec]; exact run_enterLoop_outer _ _ _ _ _
  · simp only [resolve, ha.ev hg]
    simp [go_sem]
  · simp [invoke, go_sem, hcf]
  · have hwq : Hp W1 ((E0 ++ S0).map Ent.b) (E0 ++ S0) W1 :=
      ⟨rfl, rfl, rfl, Nat.le_refl _, fun _ _ _ => rfl, fun e he => hq1.ent e (List.mem_append.2 (.inr he)), (by rw [List.map_append, List.nodup_append] at hnd; exact hnd.2.1), fun e he => .inl (List.mem_map_of_mem he)⟩
    refine (hit w hw (w.heap.size + 1) B W1 S (fun k L' o => ∃ c, X k c L' ∧ o = .loop (rec .done (some c))) S0 hS0 hwq (by omega) (hlM _ (by omega)) ?_ ?_).mono ?_
    · intro b hb
      rcases hRb b hb with ⟨h1, h2⟩ | h1
      · have hbw : b < w.heap.size := Nat.lt_of_lt_of_le h1 hw.le
        refine ⟨fun h => ?_, ?_, by omega⟩
        · obtain ⟨e, he, rfl⟩ := List.mem_map.1 h
          rcases hwp.own e (List.mem_append.2 (.inr he)) with h3 | h3
          · exact h2 h3
          · omega
        · rw [hq1.old b h1 h2, hw.old b h1 h2]
      · obtain ⟨e, he, rfl⟩ := List.mem_map.1 h1
        have hbw := hlt e (List.mem_append.2 (.inl he))
        exact ⟨hAn e he, by rw [hq1.ent e (List.mem_append.2 (.inl he)), hwp.ent e (List.mem_append.2 (.inl he))], by omega⟩
    · -- one round
      intro k Sk W2 hgo hkB hSk hp2
      have hl2 : W2.heap[w.heap.size + 1]? = some (.loop (rec .ready none)) := (hp2.old _ (by omega) (hlM _ (by omega))).trans hL1
      have hlS : w.heap.size + 1 ∉ Sk.map Ent.b := fun h => by
        obtain ⟨e, he, h⟩ := List.mem_map.1 h
        exact hp2.far (by omega) (hlM _ (by omega)) e he h
      have hl2' : w.heap.size + 1 < W2.heap.size := (Array.getElem?_eq_some_iff.1 hl2).1
      have hy := run_yield (P := C.P) (args := #[enc k]) hl2 (by rw [hrec]; rfl)
      rw [hrec] at hy
      replace hy : (Instr.yield (w.heap.size + 1) #[enc k]).run C.P W2 = .ok (.round (w.heap.size + 1) fn (a.tmps.setIfInBounds p (enc k)) assign body) W2 := by rw [hy]; simp
      refine ⟨fn, _, assign, body, hy, roundIn_of_wpIn hfn ?_⟩
      have hfr : Fr ((p, enc k) :: F) ⟨C.P, W2, Sk.map Ent.b, C.n, some (w.heap.size + 1), []⟩ { tmps := a.tmps.setIfInBounds p (enc k), defers := [] } := by
        have := ha.put (enc k) hp'
        exact ⟨rfl, this.2.1, this.2.2⟩
      refine wpIn_mono (hround (w.heap.size + 1) (.loop { rec .ready none with state := .busy }) k Sk W2 hgo hkB hSk hl2' hlS ?_ ?_ ?_ _ W2 hfr hp2.here) ?_
      · intro e he
        have heM := hAn e he
        have heW := hlt e (List.mem_append.2 (.inl he))
        refine ⟨?_, fun h => ?_, by omega⟩
        · rw [hp2.old e.b (by omega) heM]; exact hq1.ent e (List.mem_append.2 (.inl he))
        · obtain ⟨x, hx, h⟩ := List.mem_map.1 h
          exact hp2.far (by omega) heM x hx h
      · intro b hb hbM
        have hbw : b < w.heap.size := Nat.lt_of_lt_of_le hb hw.le
        have hbS : b ∉ (E0 ++ S0).map Ent.b := fun h => by
          obtain ⟨e, he, rfl⟩ := List.mem_map.1 h
          rcases hwp.own e (List.mem_append.2 (.inr he)) with h3 | h3
          · exact hbM h3
          · omega
        refine ⟨?_, fun h => ?_, by omega⟩
        · rw [hp2.old b (by omega) hbS, hq1.old b hb hbM]
        · obtain ⟨x, hx, h⟩ := List.mem_map.1 h
          exact hp2.far (by omega) hbS x hx h
      · have := hw.le; have := hp2.le; omega
      · intro e a1 w1 hq
        cases e with
        | normal =>
          obtain ⟨hl3, hbody⟩ := hq
          refine ⟨_, run_beginRound (hl3.trans hl2) (by rw [hrec]), wpIn_mono hbody ?_⟩
          intro e a3 w3 hend
          have fin : ∀ (jump : Option Code) (L' : List Ent), Hp (W2.putObj (w.heap.size + 1) (.loop { rec .ready none with state := .busy })) (Sk.map Ent.b) L' w3 →
              (Instr.endRound (w.heap.size + 1) jump).run C.P w3 = .ok (.bool jump.isNone) (w3.putObj (w.heap.size + 1) (.loop (rec (if jump.isNone then .ready else .done) jump))) ∧
              Hp (W2.putObj (w.heap.size + 1) (.loop (rec (if jump.isNone then .ready else .done) jump))) (Sk.map Ent.b) L' (w3.putObj (w.heap.size + 1) (.loop (rec (if jump.isNone then .ready else .done) jump))) := fun jump L' h3 => by
            have hl4 : w3.heap[w.heap.size + 1]? = some (.loop { rec .ready none with state := .busy }) := (h3.old _ (by simpa using hl2') hlS).trans (World.putObj_heap_same hl2')
            have := run_endRound (P := C.P) jump hl4
            rw [hrec] at this ⊢
            refine ⟨this, ?_⟩
            have h5 := h3.both (.loop (rec (if jump.isNone then .ready else .done) jump)) (by simpa using hl2') hlS
            rw [putObj_twice] at h5
            rw [hrec] at h5
            exact h5
          cases e with
          | normal =>
            obtain ⟨L', hN, h3⟩ := hend
            obtain ⟨hr, h5⟩ := fin none L' h3
            refine ⟨_, _, hr, .inl ⟨rfl, L', hN, ?_⟩⟩
            rw [show W2.putObj (w.heap.size + 1) (.loop (rec (if (none : Option Code).isNone then .ready else .done) none)) = W2 from putObj_self hl2] at h5
            exact h5
          | ret =>
            obtain ⟨L', hX, h3⟩ := hend
            obtain ⟨hr, h5⟩ := fin (some .ret) L' h3
            exact ⟨_, _, hr, .inr ⟨rfl, L', _, ⟨_, hX, rfl⟩, h5⟩⟩
          | exit id =>
            obtain ⟨L', hX, h3⟩ := hend
            obtain ⟨hr, h5⟩ := fin (some (.exit id)) L' h3
            exact ⟨_, _, hr, .inr ⟨rfl, L', _, ⟨_, hX, rfl⟩, h5⟩⟩
          | goto t => exact hend.elim
          | panic ch => exact hend.elim
          | outgrown => exact hend.elim
        | ret => exact hq.elim
        | exit id => exact hq.elim
        | goto t => exact hq.elim
        | panic ch => exact hq.elim
        | outgrown => exact hq.elim
    · rintro e W2 ⟨⟨v, rfl⟩, (⟨k, L', hfin, hS, h2⟩ | ⟨k, L', o, hgo, ⟨c, hX, rfl⟩, h2⟩)⟩
      · have hl2 : W2.heap[w.heap.size + 1]? = some (.loop (rec .ready none)) := (h2.old _ (by omega) (hlM _ (by omega))).trans hL1
        have hk2 : W2.heap[w.heap.size]? = some (.deferred (some [])) := (h2.old _ (by omega) (hlM _ (by omega))).trans hK1
        have hA : Hp C.w0 C.M (A ++ L') W2 := hq1.next h2
        have := run_endLoop (P := C.P) hl2 (by rw [hrec]; simp)
        rw [hrec] at this
        refine ⟨none, _, this, ?_⟩
        have h4 := hA.putObj (.loop { rec .ready none with state := .exhausted }) (D := w.heap.size + 1) (by have := hw.le; omega) (hA.notCells hl2 rfl)
        rw [hrec] at h4
        exact hdone _ k L' _ hfin hS h4 ((World.putObj_heap_other (by omega)).trans hk2) hw.le _ _ ⟨by simp [ha.1, hdf], ha.2.1, ha.2.2⟩ h4.here
      · have hl2 : W2.heap[w.heap.size + 1]? = some (.loop (rec .done (some c))) := (h2.old _ (by simp; omega) (hlM _ (by omega))).trans (World.putObj_heap_same (by omega))
        have hk2 : W2.heap[w.heap.size]? = some (.deferred (some [])) := (h2.old _ (by simp; omega) (hlM _ (by omega))).trans ((World.putObj_heap_other (by omega)).trans hK1)
        have hq2 : Hp C.w0 C.M (A ++ (E0 ++ S0)) (W1.putObj (w.heap.size + 1) (.loop (rec .done (some c)))) := hq1.putObj _ (by have := hw.le; omega) (hq1.notCells hL1 rfl)
        have hA : Hp C.w0 C.M (A ++ L') W2 := hq2.next h2
        have := run_endLoop (P := C.P) hl2 (by rw [hrec]; simp)
        rw [hrec] at this
        refine ⟨some c, _, this, ?_⟩
        have h4 := hA.putObj (.loop { rec .done (some c) with state := .exhausted }) (D := w.heap.size + 1) (by have := hw.le; omega) (hA.notCells hl2 rfl)
        rw [hrec] at h4
        exact hstop _ k c L' _ hgo hX h4 ((World.putObj_heap_other (by omega)).trans hk2) hw.le _ _ ⟨by simp [ha.1, hdf], ha.2.1, ha.2.2⟩ h4.here

/-! ### in and out of a function that holds such a loop -/
theorem enterM {P : Program} {f : FuncId} {fn : Func} {c : Code} {R : Ending → World → Prop} (w0 : World) (M : List Nat) (n : Nat) (L : List Ent) (args : List Value)
    (hf : P.funcs[f]? = some fn) (hb : fn.body = some c) (hn : fn.ntmps = n) (hlen : args.length ≤ n) (hw : Hp w0 M L w0)
    (h : JC ⟨P, w0, M, n, none, []⟩ (bodyPostM (Fc none) 0 P fn R) c (argF 0 args) L) : Calls P f args.toArray w0 R := by
  refine callsIn_wide.1 (callsIn_of_wp_marks (n := 0) hf hb trivial (h _ _ ⟨rfl, ?_, fun i v hi => ?_⟩ hw))
  · simp [hn]; omega
  · obtain ⟨_, h2⟩ := argF_lk args 0 i v hi
    have hi' : i < args.length := by
      have := (List.getElem?_eq_some_iff.1 h2).1
      simpa using this
    simp only [Array.getElem?_append, List.size_toArray]
    rw [if_pos hi']
    simpa using h2
theorem JQ_retM0 {fn : Func} {R : Ending → World → Prop} (v : Value) (hr : ∀ a w, Fr F C a → Hp C.w0 C.M L w → (results fn a.tmps).run C.P w = .ok v w)
    (h : ∀ w, Hp C.w0 C.M L w → R (.returned v) w) (hdf : C.df = [] := by rfl) : JQ C (bodyPostM (Fc none) 0 C.P fn R) .ret F L := fun a w ha hw => by
  show LeavesInM _ _ _ _ _ _ a.defers _ _
  rw [ha.1, hdf]
  exact ⟨v, hr a w ha hw, h w hw⟩
/-- Behind the loop: the mark is come to. -/
theorem JQ_retM {fn : Func} {R : Ending → World → Prop} (D : Nat) (v : Value) (hdf : C.df = [markOf D]) (hD : C.w0.heap[D]? = some (.deferred (some []))) (hM : C.M = L0.map Ent.b) (h0 : Hp C.w0 C.M L0 C.w0)
    (hr : ∀ w0 a w, Fr F ⟨C.P, w0, C.M, C.n, C.rd, C.df⟩ a → Hp w0 C.M L w → (results fn a.tmps).run C.P w = .ok v w)
    (h : ∀ w, Hp C.w0 C.M L w → R (.returned v) (w.putObj D (.deferred none))) : JQ C (bodyPostM (Fc none) 0 C.P fn R) .ret F L := fun a w ha hw => by
  show LeavesInM _ _ _ _ _ _ a.defers _ _
  rw [ha.1, hdf]
  have hDM : D ∉ C.M := fun hm => by
    rw [hM] at hm
    obtain ⟨e, he, h1⟩ := List.mem_map.1 hm
    exact h0.notCells hD rfl e he h1
  have hlt := (Array.getElem?_eq_some_iff.1 hD).1
  have hDw : w.heap[D]? = some (.deferred (some [])) := (hw.old D hlt hDM).trans hD
  refine ⟨by simp, .inl ⟨D, _, rfl, run_takeDeferred hDw, v, hr (C.w0.putObj D (.deferred none)) a _ ha (hw.both _ hlt hDM), h w hw⟩⟩
end Go.Sx
