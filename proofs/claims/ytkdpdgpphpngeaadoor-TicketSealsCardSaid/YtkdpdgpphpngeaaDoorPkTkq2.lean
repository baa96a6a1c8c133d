import Derived.RangeFuncNested
import Derived.RangeFuncRecord
import Derived.RangeFuncLeaves
import Derived.Test.YtkdpdgpphpngeaaDoorPkTkq1
set_option linter.unusedVariables false
set_option linter.unusedSimpArgs false
set_option maxRecDepth 100000
namespace Go.Sx
open Go Go.RowKit
variable {C : Cx} {F : Frm} {L L0 : List Ent} {Q : Exit → Act → World → Prop} {ops : Array Oper}
abbrev markOf (D : Nat) : Deferred := { target := .collected D, args := #[] }
theorem Hp.here {w0 w : World} {M : List Nat} (hw : Hp w0 M L w) : Hp w (L.map Ent.b) L w :=
 ⟨rfl, rfl, rfl, Nat.le_refl _, fun _ _ _ => rfl, hw.ent, hw.nd, fun _ he => .inl (List.mem_map_of_mem he)⟩
theorem Hp.perm {w0 w : World} {M : List Nat} {L' : List Ent} (hw : Hp w0 M L w) (hp : L.Perm L') : Hp w0 M L' w :=
 hw.sub (fun _ he => hp.mem_iff.2 he) ((hp.map Ent.b).nodup_iff.1 hw.nd)
theorem putObj_twice (w : World) (l : Nat) (o o' : Obj) : (w.putObj l o).putObj l o' = w.putObj l o' := by
 simp only [World.putObj, World.mk.injEq, and_true]
 apply Array.ext_getElem?
 intro i
 simp only [Array.getElem?_setIfInBounds, Array.size_setIfInBounds]
 split <;> simp_all
theorem putObj_self {w : World} {l : Nat} {o : Obj} (h : w.heap[l]? = some o) : w.putObj l o = w := by
  simp only [World.putObj]
  have : w.heap.setIfInBounds l o = w.heap := by
    apply Array.ext_getElem?
    intro i
    simp only [Array.getElem?_setIfInBounds]
    split
    · rename_i hi; subst hi
      have := (Array.getElem?_eq_some_iff.1 h).1
      rw [if_pos this, h]
    · rfl
  rw [this]
theorem Hp.far {w0 w : World} {M : List Nat} {l : Nat} (hw : Hp w0 M L w) (h0 : l < w0.heap.size) (hM : l ∉ M) : ∀ e ∈ L, e.b ≠ l := fun e he h => by
  rcases hw.own e he with h1 | h1
  · exact hM (h ▸ h1)
  · omega
theorem Hp.both {w0 w : World} {M : List Nat} {l : Nat} (hw : Hp w0 M L w) (o : Obj) (h0 : l < w0.heap.size) (hM : l ∉ M) : Hp (w0.putObj l o) M L (w.putObj l o) :=
  ⟨hw.os, hw.tape, hw.output, by simpa using hw.le, fun b hb hM' => by
    by_cases e : b = l
    · subst e
      rw [World.putObj_heap_same h0, World.putObj_heap_same (Nat.lt_of_lt_of_le h0 hw.le)]
    · rw [World.putObj_heap_other e, World.putObj_heap_other e]; exact hw.old b (by simpa using hb) hM',
   fun e he => by rw [World.putObj_heap_other (hw.far h0 hM e he)]; exact hw.ent e he, hw.nd, fun e he => by simpa using hw.own e he⟩
theorem Hp.putObj {w0 w : World} {M : List Nat} {D : Nat} (hw : Hp w0 M L w) (o : Obj) (hD : w0.heap.size ≤ D) (hL : ∀ e ∈ L, e.b ≠ D) : Hp w0 M L (w.putObj D o) :=
  ⟨hw.os, hw.tape, hw.output, by simpa using hw.le, fun b hb hM => by
    rw [World.putObj_heap_other (by omega)]; exact hw.old b hb hM,
   fun e he => by rw [World.putObj_heap_other (hL e he)]; exact hw.ent e he, hw.nd, hw.own⟩
theorem Hp.allocObj {w0 w : World} {M : List Nat} (hw : Hp w0 M L w) (o : Obj) : Hp w0 M L (w.alloc o) :=
  ⟨hw.os, hw.tape, hw.output, by have := hw.le; simp; omega, fun b hb hM => by
    rw [Below.heap_alloc _ _ _ (by have := hw.le; omega)]; exact hw.old b hb hM,
   fun e he => by rw [Below.heap_alloc _ _ _ (Array.getElem?_eq_some_iff.1 (hw.ent e he)).1]; exact hw.ent e he, hw.nd, hw.own⟩
theorem Hp.lt {w0 w : World} {M : List Nat} (hw : Hp w0 M L w) : ∀ e ∈ L, e.b < w.heap.size := fun e he => (Array.getElem?_eq_some_iff.1 (hw.ent e he)).1
theorem Hp.notCells {w0 w : World} {M : List Nat} {D : Nat} {o : Obj} (hw : Hp w0 M L w) (hD : w.heap[D]? = some o) (ho : o.isCells = false) : ∀ e ∈ L, e.b ≠ D := fun e he h => by
 have := hw.ent e he
 rw [h, hD] at this
 cases this
 cases ho
theorem Hp.next {w0 w w' : World} {M : List Nat} {A S S' : List Ent} (h : Hp w0 M (A ++ S) w) (h' : Hp w (S.map Ent.b) S' w') : Hp w0 M (A ++ S') w' :=
 h.call h' List.perm_append_comm rfl
theorem Hp.then {w0 w w' : World} {M : List Nat} {L' : List Ent} (h : Hp w0 M L w) (h' : Hp w (L.map Ent.b) L' w') : Hp w0 M L' w' := by
 simpa using Hp.next (A := []) h h'
def RoundEnd (l : Nat) (W : World) (M : List Nat) (N : List Ent → Prop) (X : List Ent → Obj → Prop) (e : Ending) (W' : World) : Prop :=
 (e = .returned (.bool true) ∧ ∃ L', N L' ∧ Hp W M L' W') ∨ (e = .returned (.bool false) ∧ ∃ L' o, X L' o ∧ Hp (W.putObj l o) M L' W')
def Iter (P : Program) (gf : FuncId) (lb : Array Value) (E0 : List Ent) (Rb : List Nat) (w0 : World) (go fin : Nat → Prop) (enc : Nat → Value) : Prop :=
 ∀ (l B : Nat) (W : World) (S : Nat → List Ent → Prop) (X : Nat → List Ent → Obj → Prop) (S0 : List Ent), S 0 S0 → Hp W ((E0 ++ S0).map Ent.b) (E0 ++ S0) W → l < W.heap.size → l ∉ (E0 ++ S0).map Ent.b →
  (∀ b ∈ Rb, b ∉ (E0 ++ S0).map Ent.b ∧ W.heap[b]? = w0.heap[b]? ∧ b ≠ l) →
  (∀ k Sk W1, go k → k ≤ B → S k Sk → Hp W ((E0 ++ S0).map Ent.b) Sk W1 →
   YieldAt (Fc none) 0 P l #[enc k] W1 (RoundEnd l W1 (Sk.map Ent.b) (fun L' => k + 1 ≤ B ∧ S (k + 1) L') (X k))) →
  CallsIn (Fc none) 0 P gf (#[.func (.yield l) #[] #[]] ++ lb) W fun e W' => (∃ v, e = .returned v) ∧
   ((∃ k L', fin k ∧ S k L' ∧ Hp W ((E0 ++ S0).map Ent.b) L' W') ∨ (∃ k L' o, go k ∧ X k L' o ∧ Hp (W.putObj l o) ((E0 ++ S0).map Ent.b) L' W'))
theorem JL_yield {l0 : List Oper} {x : Operand} {args : Array Operand} {ats : Array TypeId} {ty : TypeId} (l : Nat) (vs : List Value) (A S : List Ent) (N : List Ent → Prop) (X : List Ent → Obj → Prop)
    {d : Nat} {pos : String} {aft : Array Edge} (hx : ev F x = some (.func (.yield l) #[] #[])) (ha : args.toList.map (ev F) = vs.map some) (hL : L = A ++ S) (hl : l < C.w0.heap.size) (hlM : l ∉ C.M) (hd : Nat.blt d C.n = true)
    (hY : ∀ w, Hp C.w0 C.M L w → YieldAt (Fc C.rd) 0 C.P l vs.toArray w (RoundEnd l w (S.map Ent.b) N X))
    (hT : ∀ L', N L' → JL C Q ops l0 ((d, .bool true) :: F) (A ++ L'))
    (hF : ∀ L' o, X L' o → JL ⟨C.P, C.w0.putObj l o, C.M, C.n, C.rd, C.df⟩ Q ops l0 ((d, .bool false) :: F) (A ++ L')) :
    JL C Q ops (⟨some d, .call { callee := .value x, args := args, argTypes := ats }, ty, pos, aft, none⟩ :: l0) F L := by
  subst hL
  intro a w ha' hw
  refine wpListIn_plain rfl fun K hK => ?_
  have hargs : args.map a.eval = vs.toArray := by
    apply Array.toList_inj.1
    rw [Array.toList_map]
    generalize args.toList = l at ha
    clear hY
    induction l generalizing vs with
    | nil => cases vs <;> simp_all
    | cons o l ih =>
      cases vs with
      | nil => simp at ha
      | cons v vs =>
        simp only [List.map_cons, List.cons.injEq] at ha
        simp [ha'.ev ha.1, ih vs ha.2]
  obtain ⟨fn, tmps, assign, body, hy, hR⟩ := hY w hw
  have hrun : (execOp a.eval ⟨some d, .call { callee := .value x, args := args, argTypes := ats }, ty, pos, aft, none⟩).run C.P w = .ok (.round l fn tmps assign body) w := by
    have h2 := ha'.ev hx
    simp [execOp, resolve, hargs, h2, Deferred.ofValue, invoke, hy]
  unfold Oper.wpIn
  refine ⟨fun _ _ => trivial, ?_⟩
  rw [Oper.semAt_plain _ _ _ (nd_of_run hrun (by simp)), hrun]
  refine ⟨fun h => by simp [Fc] at h, hR.mono ?_⟩
  have hd' : d < C.n := by simpa [Nat.blt_eq] using hd
  rintro e W' (⟨rfl, L', hN, hp⟩ | ⟨rfl, L', o, hX, hp⟩)
  · exact hK _ _ (hT L' hN _ _ (ha'.put _ hd') (hw.next hp))
  · exact hK _ _ (hF L' o hX _ _ (ha'.put _ hd') ((hw.both o hl hlM).next hp))
def BeginPost (C : Cx) (Qb : Exit → Act → World → Prop) (body : Code) (l : Nat) (rb : Obj) : Exit → Act → World → Prop
 | .normal, a, w => w.heap[l]? = C.w0.heap[l]? ∧ body.wpIn (Fc C.rd) 0 C.P Qb a (w.putObj l rb)
 | _, _, _ => False
theorem JQ_begin {Qb : Exit → Act → World → Prop} {body : Code} {l : Nat} {rb : Obj} (h0 : l < C.w0.heap.size) (hM : l ∉ C.M)
  (h : JC ⟨C.P, C.w0.putObj l rb, C.M, C.n, C.rd, C.df⟩ Qb body F L) : JQ C (BeginPost C Qb body l rb) .normal F L :=
 fun a w ha hw => ⟨hw.old l h0 hM, h a _ ha (hw.both rb h0 hM)⟩
def BodyEnd (W : World) (M : List Nat) (N : List Ent → Prop) (X : Code → List Ent → Prop) : Exit → Act → World → Prop
 | .normal, _, w => ∃ L', N L' ∧ Hp W M L' w
 | .exit id, _, w => ∃ L', X (.exit id) L' ∧ Hp W M L' w
 | .ret, _, w => ∃ L', X .ret L' ∧ Hp W M L' w
 | _, _, _ => False
theorem JQ_bodyN {N : List Ent → Prop} {X : Code → List Ent → Prop} (h : N L) : JQ C (BodyEnd C.w0 C.M N X) .normal F L := fun _ _ _ hw => ⟨L, h, hw⟩
theorem JQ_bodyX {N : List Ent → Prop} {X : Code → List Ent → Prop} {id : Nat} (h : X (.exit id) L) : JQ C (BodyEnd C.w0 C.M N X) (.exit id) F L := fun _ _ _ hw => ⟨L, h, hw⟩
theorem JC_range {gop : Operand} {p gf : Nat} {assign body : Code} {lb : Array Value} (A E0 S0 : List Ent) (Rb : List Nat) (go fin : Nat → Prop) (enc : Nat → Value)
    (B : Nat) (S : Nat → List Ent → Prop) (X : Nat → Code → List Ent → Prop) (hro : C.rd = none) (hdf : C.df = [])
    (hg : ev F gop = some (.func (.func gf) #[] lb)) (hcf : ∀ (args : Array Value) (w : World), (callFunc gf args).run C.P w = .ok (.enter gf args) w)
    (hL : L.Perm (A ++ (E0 ++ S0))) (hp : Nat.blt p C.n = true) (hS0 : S 0 S0) (hRb : ∀ b ∈ Rb, b < C.w0.heap.size ∧ b ∉ C.M ∨ b ∈ A.map Ent.b)
    (hit : ∀ w, Hp C.w0 C.M L w → Iter C.P gf lb E0 Rb w go fin enc)
    (hround : ∀ l rb k Sk W1, go k → k ≤ B → S k Sk → l < W1.heap.size → l ∉ Sk.map Ent.b →
      (∀ e ∈ A, W1.heap[e.b]? = some (.cells e.cs.toArray e.T e.fz) ∧ e.b ∉ Sk.map Ent.b ∧ e.b ≠ l) →
      (∀ b, b < C.w0.heap.size → b ∉ C.M → W1.heap[b]? = C.w0.heap[b]? ∧ b ∉ Sk.map Ent.b ∧ b ≠ l) → C.w0.heap.size ≤ W1.heap.size →
      JC ⟨C.P, W1, Sk.map Ent.b, C.n, some l, []⟩ (BeginPost ⟨C.P, W1, Sk.map Ent.b, C.n, some l, []⟩ (BodyEnd (W1.putObj l rb) (Sk.map Ent.b) (fun L' => k + 1 ≤ B ∧ S (k + 1) L') (X k)) body l rb) assign ((p, enc k) :: F) Sk)
    (hdone : ∀ D k L' W', fin k → S k L' → Hp C.w0 C.M (A ++ L') W' → W'.heap[D]? = some (.deferred (some [])) → C.w0.heap.size ≤ D →
      JQ ⟨C.P, W', (A ++ L').map Ent.b, C.n, none, [markOf D]⟩ Q .normal F (A ++ L'))
    (hstop : ∀ D k c L' W', go k → X k c L' → Hp C.w0 C.M (A ++ L') W' → W'.heap[D]? = some (.deferred (some [])) → C.w0.heap.size ≤ D →
      JC ⟨C.P, W', (A ++ L').map Ent.b, C.n, none, [markOf D]⟩ Q c F (A ++ L')) : JC C Q (.rangeFunc gop #[p] assign body) F L := by
  intro a w ha hw
  have hp' : p < C.n := by simpa [Nat.blt_eq] using hp
  have hwp := hw.perm hL
  refine wpIn_rangeFunc ?_
  intro fn hfn
  rw [hro]
  show ∃ (l : Nat) (mark : List Deferred) (w₁ : World) (d : Deferred) (w₁' : World) (f : FuncId) (args : Array Value) (w₂ : World),
    (Instr.enterLoop fn a.tmps #[p] assign body none).run C.P w = _ ∧ _
  obtain ⟨rec, hrec⟩ : ∃ rec : LoopState → Option Code → Loop, rec = fun st pe => { state := st, pending := pe, fn, tmps := a.tmps, params := #[p], assign, body, defers := w.heap.size } := ⟨_, rfl⟩
  obtain ⟨W1, hW1⟩ : ∃ W1, (w.alloc (.deferred (some []))).alloc (.loop (rec .ready none)) = W1 := ⟨_, rfl⟩
  have hsz : W1.heap.size = w.heap.size + 2 := by rw [← hW1]; simp
  have hL1 : W1.heap[w.heap.size + 1]? = some (.loop (rec .ready none)) := by
    rw [← hW1]; have := World.alloc_heap_new (w.alloc (.deferred (some []))) (.loop (rec .ready none)); rwa [World.size_alloc] at this
  have hK1 : W1.heap[w.heap.size]? = some (.deferred (some [])) := by
    rw [← hW1]; exact (Below.heap_alloc _ _ _ (by simp)).trans (World.alloc_heap_new w _)
  have hq1 : Hp C.w0 C.M (A ++ (E0 ++ S0)) W1 := by rw [← hW1]; exact (hwp.allocObj _).allocObj _
  have hlt : ∀ e ∈ A ++ (E0 ++ S0), e.b < w.heap.size := hwp.lt
  have hlM : ∀ m, w.heap.size ≤ m → m ∉ (E0 ++ S0).map Ent.b := fun m hm h => by
    obtain ⟨e, he, rfl⟩ := List.mem_map.1 h
    have := hlt e (List.mem_append.2 (.inr he)); omega
  have hnd : ((A ++ (E0 ++ S0)).map Ent.b).Nodup := hwp.nd
  have hAn : ∀ e ∈ A, e.b ∉ (E0 ++ S0).map Ent.b := fun e he h => by
    rw [List.map_append, List.nodup_append] at hnd
    exact hnd.2.2 _ (List.mem_map_of_mem he) _ h rfl
  refine ⟨w.heap.size + 1, [markOf w.heap.size], W1, { target := .fn (.func gf) lb, args := #[.func (.yield (w.heap.size + 1)) #[] #[]] }, W1, gf,
    #[.func (.yield (w.heap.size + 1)) #[] #[]] ++ lb, W1, ?_, ?_, fun _ _ => trivial, ?_, fun h => by simp [Fc] at h, ?_⟩
  · rw [← hW1, hrec]; exact run_enterLoop_outer _ _ _ _ _
  · simp only [resolve, ha.ev hg]
    simp [go_sem]
  · simp [invoke, go_sem, hcf]
  · have hwq : Hp W1 ((E0 ++ S0).map Ent.b) (E0 ++ S0) W1 :=
      ⟨rfl, rfl, rfl, Nat.le_refl _, fun _ _ _ => rfl, fun e he => hq1.ent e (List.mem_append.2 (.inr he)), (by rw [List.map_append, List.nodup_append] at hnd; exact hnd.2.1), fun e he => .inl (List.mem_map_of_mem he)⟩
    refine (hit w hw (w.heap.size + 1) B W1 S (fun k L' o => ∃ c, X k c L' ∧ o = .loop (rec .done (some c))) S0 hS0 hwq (by omega) (hlM _ (by omega)) ?_ ?_).mono ?_
    · intro b hb
      rcases hRb b hb with ⟨h1, h2⟩ | h1
      · have hbw : b < w.heap.size := Nat.lt_of_lt_of_le h1 hw.le
        refine ⟨fun h => ?_, ?_, by omega⟩
        · obtain ⟨e, he, rfl⟩ := List.mem_map.1 h
          rcases hwp.own e (List.mem_append.2 (.inr he)) with h3 | h3
          · exact h2 h3
          · omega
        · rw [hq1.old b h1 h2, hw.old b h1 h2]
      · obtain ⟨e, he, rfl⟩ := List.mem_map.1 h1
        have hbw := hlt e (List.mem_append.2 (.inl he))
        exact ⟨hAn e he, by rw [hq1.ent e (List.mem_append.2 (.inl he)), hwp.ent e (List.mem_append.2 (.inl he))], by omega⟩
    · -- one round
      intro k Sk W2 hgo hkB hSk hp2
      have hl2 : W2.heap[w.heap.size + 1]? = some (.loop (rec .ready none)) := (hp2.old _ (by omega) (hlM _ (by omega))).trans hL1
      have hlS : w.heap.size + 1 ∉ Sk.map Ent.b := fun h => by
        obtain ⟨e, he, h⟩ := List.mem_map.1 h
        exact hp2.far (by omega) (hlM _ (by omega)) e he h
      have hl2' : w.heap.size + 1 < W2.heap.size := (Array.getElem?_eq_some_iff.1 hl2).1
      have hy := run_yield (P := C.P) (args := #[enc k]) hl2 (by rw [hrec]; rfl)
      rw [hrec] at hy
      replace hy : (Instr.yield (w.heap.size + 1) #[enc k]).run C.P W2 = .ok (.round (w.heap.size + 1) fn (a.tmps.setIfInBounds p (enc k)) assign body) W2 := by rw [hy]; simp
      refine ⟨fn, _, assign, body, hy, roundIn_of_wpIn hfn ?_⟩
      have hfr : Fr ((p, enc k) :: F) ⟨C.P, W2, Sk.map Ent.b, C.n, some (w.heap.size + 1), []⟩ { tmps := a.tmps.setIfInBounds p (enc k), defers := [] } := by
        have := ha.put (enc k) hp'
        exact ⟨rfl, this.2.1, this.2.2⟩
      refine wpIn_mono (hround (w.heap.size + 1) (.loop { rec .ready none with state := .busy }) k Sk W2 hgo hkB hSk hl2' hlS ?_ ?_ ?_ _ W2 hfr hp2.here) ?_
      · intro e he
        have heM := hAn e he
        have heW := hlt e (List.mem_append.2 (.inl he))
        refine ⟨?_, fun h => ?_, by omega⟩
        · rw [hp2.old e.b (by omega) heM]; exact hq1.ent e (List.mem_append.2 (.inl he))
        · obtain ⟨x, hx, h⟩ := List.mem_map.1 h
          exact hp2.far (by omega) heM x hx h
      · intro b hb hbM
        have hbw : b < w.heap.size := Nat.lt_of_lt_of_le hb hw.le
        have hbS : b ∉ (E0 ++ S0).map Ent.b := fun h => by
          obtain ⟨e, he, rfl⟩ := List.mem_map.1 h
          rcases hwp.own e (List.mem_append.2 (.inr he)) with h3 | h3
          · exact hbM h3
          · omega
        refine ⟨?_, fun h => ?_, by omega⟩
        · rw [hp2.old b (by omega) hbS, hq1.old b hb hbM]
        · obtain ⟨x, hx, h⟩ := List.mem_map.1 h
          exact hp2.far (by omega) hbS x hx h
      · have := hw.le; have := hp2.le; omega
      · intro e a1 w1 hq
        cases e with
        | normal =>
          obtain ⟨hl3, hbody⟩ := hq
          refine ⟨_, run_beginRound (hl3.trans hl2) (by rw [hrec]), wpIn_mono hbody ?_⟩
          intro e a3 w3 hend
          have fin : ∀ (jump : Option Code) (L' : List Ent), Hp (W2.putObj (w.heap.size + 1) (.loop { rec .ready none with state := .busy })) (Sk.map Ent.b) L' w3 →
              (Instr.endRound (w.heap.size + 1) jump).run C.P w3 = .ok (.bool jump.isNone) (w3.putObj (w.heap.size + 1) (.loop (rec (if jump.isNone then .ready else .done) jump))) ∧
              Hp (W2.putObj (w.heap.size + 1) (.loop (rec (if jump.isNone then .ready else .done) jump))) (Sk.map Ent.b) L' (w3.putObj (w.heap.size + 1) (.loop (rec (if jump.isNone then .ready else .done) jump))) := fun jump L' h3 => by
            have hl4 : w3.heap[w.heap.size + 1]? = some (.loop { rec .ready none with state := .busy }) := (h3.old _ (by simpa using hl2') hlS).trans (World.putObj_heap_same hl2')
            have := run_endRound (P := C.P) jump hl4
            rw [hrec] at this ⊢
            refine ⟨this, ?_⟩
            have h5 := h3.both (.loop (rec (if jump.isNone then .ready else .done) jump)) (by simpa using hl2') hlS
            rw [putObj_twice] at h5
            rw [hrec] at h5
            exact h5
          cases e with
          | normal =>
            obtain ⟨L', hN, h3⟩ := hend
            obtain ⟨hr, h5⟩ := fin none L' h3
            refine ⟨_, _, hr, .inl ⟨rfl, L', hN, ?_⟩⟩
            rw [show W2.putObj (w.heap.size + 1) (.loop (rec (if (none : Option Code).isNone then .ready else .done) none)) = W2 from putObj_self hl2] at h5
            exact h5
          | ret =>
            obtain ⟨L', hX, h3⟩ := hend
            obtain ⟨hr, h5⟩ := fin (some .ret) L' h3
            exact ⟨_, _, hr, .inr ⟨rfl, L', _, ⟨_, hX, rfl⟩, h5⟩⟩
          | exit id =>
            obtain ⟨L', hX, h3⟩ := hend
            obtain ⟨hr, h5⟩ := fin (some (.exit id)) L' h3
            exact ⟨_, _, hr, .inr ⟨rfl, L', _, ⟨_, hX, rfl⟩, h5⟩⟩
          | goto t => exact hend.elim
          | panic ch => exact hend.elim
          | outgrown => exact hend.elim
        | ret => exact hq.elim
        | exit id => exact hq.elim
        | goto t => exact hq.elim
        | panic ch => exact hq.elim
        | outgrown => exact hq.elim
    · rintro e W2 ⟨⟨v, rfl⟩, (⟨k, L', hfin, hS, h2⟩ | ⟨k, L', o, hgo, ⟨c, hX, rfl⟩, h2⟩)⟩
      · have hl2 : W2.heap[w.heap.size + 1]? = some (.loop (rec .ready none)) := (h2.old _ (by omega) (hlM _ (by omega))).trans hL1
        have hk2 : W2.heap[w.heap.size]? = some (.deferred (some [])) := (h2.old _ (by omega) (hlM _ (by omega))).trans hK1
        have hA : Hp C.w0 C.M (A ++ L') W2 := hq1.next h2
        have := run_endLoop (P := C.P) hl2 (by rw [hrec]; simp)
        rw [hrec] at this
        refine ⟨none, _, this, ?_⟩
        have h4 := hA.putObj (.loop { rec .ready none with state := .exhausted }) (D := w.heap.size + 1) (by have := hw.le; omega) (hA.notCells hl2 rfl)
        rw [hrec] at h4
        exact hdone _ k L' _ hfin hS h4 ((World.putObj_heap_other (by omega)).trans hk2) hw.le _ _ ⟨by simp [ha.1, hdf], ha.2.1, ha.2.2⟩ h4.here
      · have hl2 : W2.heap[w.heap.size + 1]? = some (.loop (rec .done (some c))) := (h2.old _ (by simp; omega) (hlM _ (by omega))).trans (World.putObj_heap_same (by omega))
        have hk2 : W2.heap[w.heap.size]? = some (.deferred (some [])) := (h2.old _ (by simp; omega) (hlM _ (by omega))).trans ((World.putObj_heap_other (by omega)).trans hK1)
        have hq2 : Hp C.w0 C.M (A ++ (E0 ++ S0)) (W1.putObj (w.heap.size + 1) (.loop (rec .done (some c)))) := hq1.putObj _ (by have := hw.le; omega) (hq1.notCells hL1 rfl)
        have hA : Hp C.w0 C.M (A ++ L') W2 := hq2.next h2
        have := run_endLoop (P := C.P) hl2 (by rw [hrec]; simp)
        rw [hrec] at this
        refine ⟨some c, _, this, ?_⟩
        have h4 := hA.putObj (.loop { rec .done (some c) with state := .exhausted }) (D := w.heap.size + 1) (by have := hw.le; omega) (hA.notCells hl2 rfl)
        rw [hrec] at h4
        exact hstop _ k c L' _ hgo hX h4 ((World.putObj_heap_other (by omega)).trans hk2) hw.le _ _ ⟨by simp [ha.1, hdf], ha.2.1, ha.2.2⟩ h4.here
theorem enterM {P : Program} {f : FuncId} {fn : Func} {c : Code} {R : Ending → World → Prop} (w0 : World) (M : List Nat) (n : Nat) (L : List Ent) (args : List Value)
    (hf : P.funcs[f]? = some fn) (hb : fn.body = some c) (hn : fn.ntmps = n) (hlen : args.length ≤ n) (hw : Hp w0 M L w0)
    (h : JC ⟨P, w0, M, n, none, []⟩ (bodyPostM (Fc none) 0 P fn R) c (argF 0 args) L) : Calls P f args.toArray w0 R := by
  refine callsIn_wide.1 (callsIn_of_wp_marks (n := 0) hf hb trivial (h _ _ ⟨rfl, ?_, fun i v hi => ?_⟩ hw))
  · simp [hn]; omega
  · obtain ⟨_, h2⟩ := argF_lk args 0 i v hi
    have hi' : i < args.length := by
      have := (List.getElem?_eq_some_iff.1 h2).1
      simpa using this
    simp only [Array.getElem?_append, List.size_toArray]
    rw [if_pos hi']
    simpa using h2
theorem JQ_retM0 {fn : Func} {R : Ending → World → Prop} (v : Value) (hr : ∀ a w, Fr F C a → Hp C.w0 C.M L w → (results fn a.tmps).run C.P w = .ok v w)
  (h : ∀ w, Hp C.w0 C.M L w → R (.returned v) w) (hdf : C.df = [] := by rfl) : JQ C (bodyPostM (Fc none) 0 C.P fn R) .ret F L := fun a w ha hw => by
 show LeavesInM _ _ _ _ _ _ a.defers _ _
 rw [ha.1, hdf]
 exact ⟨v, hr a w ha hw, h w hw⟩
theorem JQ_retM {fn : Func} {R : Ending → World → Prop} (D : Nat) (v : Value) (hdf : C.df = [markOf D]) (hD : C.w0.heap[D]? = some (.deferred (some []))) (hM : C.M = L0.map Ent.b) (h0 : Hp C.w0 C.M L0 C.w0)
  (hr : ∀ w0 a w, Fr F ⟨C.P, w0, C.M, C.n, C.rd, C.df⟩ a → Hp w0 C.M L w → (results fn a.tmps).run C.P w = .ok v w)
  (h : ∀ w, Hp C.w0 C.M L w → R (.returned v) (w.putObj D (.deferred none))) : JQ C (bodyPostM (Fc none) 0 C.P fn R) .ret F L := fun a w ha hw => by
 show LeavesInM _ _ _ _ _ _ a.defers _ _
 rw [ha.1, hdf]
 have hDM : D ∉ C.M := fun hm => by
  rw [hM] at hm
  obtain ⟨e, he, h1⟩ := List.mem_map.1 hm
  exact h0.notCells hD rfl e he h1
 have hlt := (Array.getElem?_eq_some_iff.1 hD).1
 have hDw : w.heap[D]? = some (.deferred (some [])) := (hw.old D hlt hDM).trans hD
 refine ⟨by simp, .inl ⟨D, _, rfl, run_takeDeferred hDw, v, hr (C.w0.putObj D (.deferred none)) a _ ha (hw.both _ hlt hDM), h w hw⟩⟩
end Go.Sx
namespace Go.Sx
open Go Go.RowKit
variable {C : Cx} {F : Frm} {L : List Ent} {ty T T' : TypeId} {x y : Operand}
theorem Ev_slice3G {lo hi mx : Operand} {ao : Option Addr} {l c : Nat} (e s i j m : Nat) (hu : C.P.underlying T = some (.slice e)) (hS : ∀ w, (sizeOf e).run C.P w = .ok s w) (hx : ev F x = some (.slice ao l c))
  (hl : ev F lo = some (I64 i)) (hh : ev F hi = some (I64 j)) (hm : ev F mx = some (I64 m))
  (h1 : i ≤ j) (h2 : j ≤ m) (h3 : m ≤ c) : Ev C F L (.slice T x (some lo) (some hi) (some mx)) ty (.slice (if m = i then ao else ao.map (·.add (i * s))) (j - i) (m - i)) := fun a w ha _ d pos aft g => by
 have g0 : (Instr.sliceBound (I64 m) c .slice3Acap).run C.P w = .ok m w := by
  simp only [Instr.sliceBound, asIntOf]
  simp [h3]
 have g1 : (Instr.sliceBound (I64 j) m .slice3B).run C.P w = .ok j w := by
  simp only [Instr.sliceBound, asIntOf]
  simp [h2]
 have g2 : (Instr.sliceBound (I64 i) j .slice3C).run C.P w = .ok i w := by
  simp only [Instr.sliceBound, asIntOf]
  simp [h1]
 simp [execOp, ha.ev hx, ha.ev hl, ha.ev hh, ha.ev hm, Instr.sliceAt, run_underlying hu, Instr.slice, Instr.sliceBounds, hS w, g0, g1, g2]
theorem Ev_slice3 {lo hi mx : Operand} {b off l c : Nat} (e s i j m o c' j' : Nat) (hu : C.P.underlying T = some (.slice e)) (hS : ∀ w, (sizeOf e).run C.P w = .ok s w) (hx : ev F x = some (Slc b off l c))
  (hl : ev F lo = some (I64 i)) (hh : ev F hi = some (I64 j)) (hm : ev F mx = some (I64 m))
  (h1 : i ≤ j) (h2 : j ≤ m) (h3 : m ≤ c) (hne : i < m) (ho : off + i * s = o) (hc : m - i = c') (hj : j - i = j') : Ev C F L (.slice T x (some lo) (some hi) (some mx)) ty (Slc b o j' c') := by
 have := Ev_slice3G (ty := ty) (L := L) e s i j m hu hS hx hl hh hm h1 h2 h3
 rw [if_neg (by omega), Option.map_some, GJ, ho, hc, hj] at this
 exact this
theorem Ev_makeFunc {f : Nat} {cap : Array Operand} {vs : List Value} (hc : cap.toList.map (ev F) = vs.map some) (hr : ∀ (w : World) (ps : Array Value), (Instr.makeFunc (.func f) #[] ps).run C.P w = .ok (.func (.func f) #[] ps) w) :
  Ev C F L (.makeFunc (.func f) #[] cap) ty (.func (.func f) #[] vs.toArray) := fun a w ha _ d pos aft g => by
 have hargs : cap.map a.eval = vs.toArray := by
  apply Array.toList_inj.1
  rw [Array.toList_map]
  generalize cap.toList = l at hc
  clear hr
  induction l generalizing vs with
  | nil => cases vs <;> simp_all
  | cons o l ih =>
   cases vs with
   | nil => simp at hc
   | cons v vs =>
    simp only [List.map_cons, List.cons.injEq] at hc
    simp [ha.ev hc.1, ih hc.2]
 simp [execOp, hargs, hr]
theorem Ev_min {t1 t2 : TypeId} {a b r : Int} (hx : ev F x = some (I64 a)) (hy : ev F y = some (I64 b)) (hr : min a b = r) :
  Ev C F L (.call { callee := .builtin .min, args := #[x, y], argTypes := #[t1, t2] }) ty (I64 r) := fun a' w ha _ d pos aft g => by
 have e1 := ha.ev hx
 have e2 := ha.ev hy
 subst hr
 simp [execOp, resolve, invoke, e1, e2, builtin, Builtin.min_, Builtin.min2]
 split <;> omega
theorem CL {ao : Option Addr} {b off l c : Nat} {i : Int} {k : IntKind} (e s : Nat) (o : Nat) (hu : C.P.underlying T = some (.slice e)) (hS : ∀ w, (sizeOf e).run C.P w = .ok s w) (hx : ev F x = some (.slice ao l c)) (hao : ao = some ⟨b, off, none⟩) (hy : ev F y = some (.int k i))
  (h0 : 0 ≤ i) (h1 : i < l) (ho : off + i.toNat * s = o) : Ev C F L (.indexAddr T x y) ty (Ptr b o) := by
 subst hao; exact ED e s o hu hS hx hy h0 h1 ho
theorem Step_make8 {x y : Operand} {ty T : TypeId} (e bytes : Nat) (ln cp : Nat) (hu : C.P.underlying T = some (.slice e)) (hi : (C.P.info? e).map (fun i => (i.zero, i.size, i.bytes)) = some (some (.int .u8 0), 1, bytes))
  (hx : ev F x = some (I64 ln)) (hy : ev F y = some (I64 cp)) (h1 : ln ≤ cp) (h2 : bytes * cp ≤ 140737488355328) (h3 : cp ≤ maxLen) :
  Step C F L (.makeSlice T x y) ty fun v' L' => ∃ nb, C.w0.heap.size ≤ nb ∧ v' = Slc nb 0 ln cp ∧ L' = L ++ [⟨nb, cu8 (zr8 cp), e, (0, 0)⟩] := by
 have := Step_make (L := L) (ty := ty) e bytes (.int .u8 0) ln cp hu hi rfl hx hy h1 h2 h3
 rw [cu8_zr] at this
 exact this
theorem DH {x y : Operand} {ty : TypeId} (t e : Nat) (m : List Bool) (v : Value) (n : Nat) (l z : List UInt8) (ao : Option Addr) (k c tot : Nat)
  (hu : C.P.underlying t = some (.slice e)) (hi : (C.P.info? e).map (fun i => (i.zero, i.size, i.bytes)) = some (some (.int .u8 0), 1, 1))
  (hx : ev F x = some v)
  (hv : (v = .slice none 0 0 ∧ n = 0 ∧ l = [] ∧ take? m L = [] ∧ 0 < k) ∨ (∃ g sp cap, v = Slc g 0 n cap ∧ take? m L = [⟨g, cu8 l ++ sp, e, (0, 0)⟩] ∧ l.length = n ∧ sp.length = cap - n ∧ n ≤ cap ∧ cap ≤ maxLen))
  (hy : ev F y = some (.slice ao k c)) (hk : z.length = k) (hm : SrcAt C L ao (cu8 z)) (hmax : (n + k) * 1 ≤ 140737488355328) (hmax' : n + k ≤ maxLen) (htot : n + k = tot) :
  Step C F L (.call { callee := .builtin .append, args := #[x, y], argTypes := #[t, t] }) ty fun v' L' => ∃ g sp cap, (C.w0.heap.size ≤ g ∨ g ∈ C.M) ∧ v' = Slc g 0 tot cap ∧ L' = rest? m L ++ [⟨g, cu8 (l ++ z) ++ sp, e, (0, 0)⟩] ∧ (l ++ z).length = tot ∧ sp.length = cap - tot ∧ tot ≤ cap ∧ cap ≤ maxLen := by
 subst htot
 exact Step_append8 t e m v n l z ao k c hu hi hx hv hy hk hm hmax hmax'
theorem Step_appM64 {x y : Operand} {ty : TypeId} (t e : Nat) (m : List Bool) (v : Value) (n : Nat) (l z : List UInt64) (ao : Option Addr) (k c tot : Nat)
  (hu : C.P.underlying t = some (.slice e)) (hi : (C.P.info? e).map (fun i => (i.zero, i.size, i.bytes)) = some (some (.int .u64 0), 1, 8))
  (hx : ev F x = some v)
  (hv : (v = .slice none 0 0 ∧ n = 0 ∧ l = [] ∧ take? m L = [] ∧ 0 < k) ∨ (∃ g sp cap, v = Slc g 0 n cap ∧ take? m L = [⟨g, cu64 l ++ sp, e, (0, 0)⟩] ∧ l.length = n ∧ sp.length = cap - n ∧ n ≤ cap ∧ cap ≤ maxLen))
  (hy : ev F y = some (.slice ao k c)) (hk : z.length = k) (hm : SrcAt C L ao (cu64 z)) (hmax : (n + k) * 8 ≤ 140737488355328) (hmax' : n + k ≤ maxLen) (htot : n + k = tot) :
  Step C F L (.call { callee := .builtin .append, args := #[x, y], argTypes := #[t, t] }) ty fun v' L' => ∃ g sp cap, (C.w0.heap.size ≤ g ∨ g ∈ C.M) ∧ v' = Slc g 0 tot cap ∧ L' = rest? m L ++ [⟨g, cu64 (l ++ z) ++ sp, e, (0, 0)⟩] ∧ (l ++ z).length = tot ∧ sp.length = cap - tot ∧ tot ≤ cap ∧ cap ≤ maxLen := by
 subst htot
 exact Step_append64 t e m v n l z ao k c hu hi hx hv hy hk hm hmax hmax'
def u64i (x : Int) : UInt64 := UInt64.ofNat (x % 18446744073709551616).toNat
theorem conv_i64_u64i {P : Program} {w : World} {src dst : TypeId} (hs : (P.underlying src).isSome = true) (hd : P.underlying dst = some (.int .u64)) (x : Int) : (convert src dst (I64 x)).run P w = .ok (U64 (u64i x)) w :=
 conv_int _ _ hs hd _ (by
  rw [wrap_u64', u64i, UInt64.toNat_ofNat']
  have h1 : 0 ≤ x % 18446744073709551616 := Int.emod_nonneg _ (by omega)
  have h2 : x % 18446744073709551616 < 18446744073709551616 := Int.emod_lt_of_pos _ (by omega)
  rw [Nat.mod_eq_of_lt (by omega)]; omega)
theorem un_neg_i {P : Program} {w : World} (x r : Int) (h : -9223372036854775808 ≤ r ∧ r ≤ 9223372036854775807) (hr : -x = r) : (Op.unary .neg (I64 x)).run P w = .ok (I64 r) w := by
 subst hr; simp [Op.unary, Op.intArith, wrap_i64_in _ h.1 h.2]
theorem ofN_i {X : Nat} (h : X < 18446744073709551616) : ((UInt64.ofNat X).toNat : Int) = X := by rw [UInt64.toNat_ofNat', Nat.mod_eq_of_lt (by omega)]
theorem Ev_lenX {ao : Option Addr} {l c t e : Nat} {r : Int} (hu : C.P.underlying t = some (.slice e)) (hx : ev F x = some (.slice ao l c)) (hr : (l : Int) = r) : Ev C F L (.call { callee := .builtin .len, args := #[x], argTypes := #[t] }) ty (I64 r) := by
 subst hr; exact DW hu hx
theorem Hp.right {w0 w : World} {M : List Nat} {A S : List Ent} (h : Hp w0 M (A ++ S) w) : Hp w0 M S w :=
 h.sub (fun _ he => List.mem_append.2 (.inr he)) (List.Sublist.nodup ((List.sublist_append_right A S).map Ent.b) h.nd)
theorem enterI {P : Program} {f : FuncId} {fn : Func} {c : Code} {R : Ending → World → Prop} (w0 : World) (M : List Nat) (n : Nat) (L : List Ent) (args : List Value)
    (hf : P.funcs[f]? = some fn) (hb : fn.body = some c) (hn : fn.ntmps = n) (hlen : args.length ≤ n) (hw : Hp w0 M L w0)
    (h : JC ⟨P, w0, M, n, none, []⟩ (bodyPostM (Fc none) 0 P fn R) c (argF 0 args) L) : CallsIn (Fc none) 0 P f args.toArray w0 R := by
  refine callsIn_of_wp_marks (n := 0) hf hb trivial (h _ _ ⟨rfl, ?_, fun i v hi => ?_⟩ hw)
  · simp [hn]; omega
  · obtain ⟨_, h2⟩ := argF_lk args 0 i v hi
    have hi' : i < args.length := by
      have := (List.getElem?_eq_some_iff.1 h2).1
      simpa using this
    simp only [Array.getElem?_append, List.size_toArray]
    rw [if_pos hi']
    simpa using h2
theorem JQ_endM0 {fn : Func} {R : Ending → World → Prop} (v : Value) (hr : ∀ a w, Fr F C a → Hp C.w0 C.M L w → (results fn a.tmps).run C.P w = .ok v w)
  (h : ∀ w, Hp C.w0 C.M L w → R (.returned v) w) (hdf : C.df = [] := by rfl) : JQ C (bodyPostM (Fc none) 0 C.P fn R) .normal F L := fun a w ha hw => by
 show LeavesInM _ _ _ _ _ _ a.defers _ _
 rw [ha.1, hdf]
 exact ⟨v, hr a w ha hw, h w hw⟩
theorem Hp.fin {w0 W w : World} {M : List Nat} {L0 : List Ent} {D : Nat} (h0 : Hp w0 M L0 W) (hD : W.heap[D]? = some (.deferred (some []))) (hle : w0.heap.size ≤ D) (h1 : Hp W (L0.map Ent.b) L w) (o : Obj) : Hp w0 M L (w.putObj D o) :=
 (h0.then h1).putObj o hle (h1.far (Array.getElem?_eq_some_iff.1 hD).1 fun hm => by
  obtain ⟨e, he, h⟩ := List.mem_map.1 hm
  exact h0.notCells hD rfl e he h)
end Go.Sx
namespace Go.Proofs.YtkdpdgpphpngeaaDoor
open Go Go.Sx
set_option maxRecDepth 4000
def subsL : List UInt8 := [99, 124, 119, 123, 242, 107, 111, 197, 48, 1, 103, 43, 254, 215, 171, 118, 202, 130, 201, 125, 250, 89, 71, 240, 173, 212, 162, 175, 156, 164, 114, 192, 183, 253, 147, 38, 54, 63, 247, 204, 52, 165, 229, 241, 113, 216, 49, 21, 4, 199, 35, 195, 24, 150, 5, 154, 7, 18, 128, 226, 235, 39, 178, 117, 9, 131, 44, 26, 27, 110, 90, 160, 82, 59, 214, 179, 41, 227, 47, 132, 83, 209, 0, 237, 32, 252, 177, 91, 106, 203, 190, 57, 74, 76, 88, 207, 208, 239, 170, 251, 67, 77, 51, 133, 69, 249, 2, 127, 80, 60, 159, 168, 81, 163, 64, 143, 146, 157, 56, 245, 188, 182, 218, 33, 16, 255, 243, 210, 205, 12, 19, 236, 95, 151, 68, 23, 196, 167, 126, 61, 100, 93, 25, 115, 96, 129, 79, 220, 34, 42, 144, 136, 70, 238, 184, 20, 222, 94, 11, 219, 224, 50, 58, 10, 73, 6, 36, 92, 194, 211, 172, 98, 145, 149, 228, 121, 231, 200, 55, 109, 141, 213, 78, 169, 108, 86, 244, 234, 101, 122, 174, 8, 186, 120, 37, 46, 28, 166, 180, 198, 232, 221, 116, 31, 75, 189, 139, 138, 112, 62, 181, 102, 72, 3, 246, 14, 97, 53, 87, 185, 134, 193, 29, 158, 225, 248, 152, 17, 105, 217, 142, 148, 155, 30, 135, 233, 206, 85, 40, 223, 140, 161, 137, 13, 191, 230, 66, 104, 65, 153, 45, 15, 176, 84, 187, 22]
theorem subsL_len : subsL.length = 256 := by decide +kernel
theorem subs_subst (a : UInt8) : g8 subsL a.toNat = subst1 a := by revert a; apply u8_all; decide +kernel
end Go.Proofs.YtkdpdgpphpngeaaDoor
namespace Go.Proofs.YtkdpdgpphpngeaaDoor
open Go Go.Sx
def rIn (w : List UInt8) (i : Nat) (t : List UInt8) : Nat → List UInt8
 | 0 => w
 | k + 1 => rIn w i t k ++ [g8 (rIn w i t k) (4*i + k - 16) ^^^ g8 t k]
def rStep (i : Nat) (p : UInt8 × List UInt8) : UInt8 × List UInt8 :=
 if i % 4 = 0 then (rdbl p.1, rIn p.2 i [g8 subsL (g8 p.2 (4*i - 3)).toNat ^^^ p.1, g8 subsL (g8 p.2 (4*i - 2)).toNat, g8 subsL (g8 p.2 (4*i - 1)).toNat, g8 subsL (g8 p.2 (4*i - 4)).toNat] 4)
 else (p.1, rIn p.2 i [g8 p.2 (4*i - 4), g8 p.2 (4*i - 3), g8 p.2 (4*i - 2), g8 p.2 (4*i - 1)] 4)
def rN (key : List UInt8) : Nat → UInt8 × List UInt8
 | 0 => (1, key)
 | m + 1 => rStep (m + 4) (rN key m)
def rkeysL (key : List UInt8) : List UInt8 := (rN key 40).2
def raddN (ks : List UInt8) (n : Nat) (b : List UInt8) : Nat → List UInt8
 | 0 => b
 | k + 1 => (raddN ks n b k).set k (g8 (raddN ks n b k) k ^^^ g8 ks (k + 16*n))
def raddL (ks : List UInt8) (n : Nat) (b : List UInt8) : List UInt8 := raddN ks n b 16
theorem raddN_len (ks : List UInt8) (n : Nat) (b : List UInt8) : ∀ k, (raddN ks n b k).length = b.length
 | 0 => rfl
 | k + 1 => by simp [raddN, raddN_len ks n b k]
theorem FW {ks : List UInt8} {n : Nat} {b : List UInt8} (h : b.length = 16) : (raddL ks n b).length = 16 := by rw [raddL, raddN_len, h]
def rshIn (s t : List UInt8) (c : Nat) : Nat → List UInt8
 | 0 => t
 | r + 1 => (rshIn s t c r).set (4*c + r) (g8 subsL (g8 s (4*((c + r) % 4) + r)).toNat)
def rshN (s : List UInt8) : Nat → List UInt8
 | 0 => zr8 16
 | c + 1 => rshIn s (rshN s c) c 4
def rmxN (t : List UInt8) : Nat → List UInt8
 | 0 => t
 | d + 1 =>
  let p := g8 t (4*d); let q := g8 t (4*d + 1); let u := g8 t (4*d + 2); let v := g8 t (4*d + 3)
  ((((rmxN t d).set (4*d) ((((rdbl p ^^^ rdbl q) ^^^ q) ^^^ u) ^^^ v)).set (4*d + 1) ((((p ^^^ rdbl q) ^^^ rdbl u) ^^^ u) ^^^ v)).set (4*d + 2) ((((p ^^^ q) ^^^ rdbl u) ^^^ rdbl v) ^^^ v)).set (4*d + 3) ((((rdbl p ^^^ p) ^^^ q) ^^^ u) ^^^ rdbl v)
def rRound (ks : List UInt8) (n : Nat) (s : List UInt8) : List UInt8 :=
 if n < 10 then raddL ks n (rmxN (rshN s 4) 4) else raddL ks n (rshN s 4)
def rencN (ks b : List UInt8) : Nat → List UInt8
 | 0 => raddL ks 0 b
 | n + 1 => rRound ks (n + 1) (rencN ks b n)
def rencL (ks b : List UInt8) : List UInt8 := rencN ks b 10
attribute [local irreducible] mid zr8 rkeysL raddL rmxN rshN rshIn
theorem rkeys_c (key : List UInt8) (w : World) (hk : key.length = 16) : Calls Tryd.prog 187 #[.agg (cu8 key).toArray] w (Post w [] (fun v L => ∃ g sp cap, 176 ≤ cap ∧ sp.length = cap - 176 ∧ v = Slc g 0 176 cap ∧ L = [⟨g, cu8 (rkeysL key) ++ sp, 5, (0, 0)⟩])) := by
 refine enter w [] 85 [] [.agg (cu8 key).toArray] Tryd.func187 rfl rfl (by simp) (BR (by simp) (by simp) (by simp)) ?_
 show JC _ _ _ [(0, .agg (cu8 key).toArray)] _
 refine AF (AB (AV (CG (.agg (cu8 key).toArray) (cu8 key) rfl (by first | rfl | simp)) rfl ?_))
 rintro v1 L1 ⟨nb1, hnb1, rfl, rfl⟩
 show JL _ _ _ _ ((1, Ptr nb1 0) :: _) [⟨nb1, cu8 key, 131, (0, 0)⟩]
 refine AA _ (AE rfl) rfl ?_
 refine AI (AC (AF (AB (AV (FF 5 1 AK AM) rfl ?_))))
 rintro v1 L1 ⟨nb2, hnb2, rfl, rfl⟩
 show JL _ _ _ _ ((8, Slc nb2 0 0 0) :: _) [_, ⟨nb2, [], 5, (0, 0)⟩]
 refine AA (Slc nb1 0 16 16) (B1 16 5 1 0 16 0 16 EX AM rfl rfl rfl (by omega) (by omega) (by omega) (by omega) (by omega) 16 (by omega)) rfl ?_
 refine AV (DH 43 5 [false, true] (Slc nb2 0 0 0) 0 ([] : List UInt8) key (some ⟨nb1, 0, none⟩) 16 16 16 AK C4 rfl (.inr ⟨nb2, [], 0, rfl, (by simp [take?, cu8, cu32, cu64]), rfl, (by simp), (by omega), (by unfold maxLen; omega)⟩) rfl (by first | exact hk | simp [hk]; try omega) (SrcAt.mem (AR 0 rfl (AN _))) (by omega) (by unfold maxLen; omega) (by omega)) rfl ?_
 rintro v1 L1 ⟨nb3, sp1, cp1, hg1, rfl, rfl, ha1, ha2, ha3, ha4⟩
 show JL _ _ _ _ ((10, Slc nb3 0 16 cp1) :: _) [_, ⟨nb3, cu8 (([] : List UInt8) ++ key) ++ sp1, 5, (0, 0)⟩]
 refine AA _ (AE rfl) rfl ?_
 refine AI (AC (AF (AB (AA _ (AE rfl) rfl ?_))))
 refine AI (AC (AF (AF (AB (AA _ (AE rfl) rfl ?_)))))
 refine AI (AC (A9 (CA [false, true] ?_)))
 show JC _ _ _ _ [_]
 refine DI (ι := Nat × UInt8 × List UInt8 × Nat × List Value × Nat) (fun ⟨i, f, ww, g0, sp0, cp0⟩ => [(2, .slice none 0 0), (3, Slc g0 0 (4*i) cp0), (4, U8 f), (5, I64 i)]) (fun ⟨i, f, ww, g0, sp0, cp0⟩ => [⟨g0, cu8 ww ++ sp0, 5, (0, 0)⟩]) (fun ⟨i, f, ww, g0, sp0, cp0⟩ => 4 ≤ i ∧ i ≤ 44 ∧ (f, ww) = rN key (i - 4) ∧ ww.length = 4*i ∧ sp0.length = cp0 - 4*i ∧ 4*i ≤ cp0 ∧ cp0 ≤ maxLen) (fun ⟨i, f, ww, g0, sp0, cp0⟩ => 44 - i) (4, 1, [] ++ key, nb3, sp1, cp1) ⟨by omega, by omega, rfl, ha1, ha2, ha3, ha4⟩ (Sub.all rfl) rfl ?_
 rintro ⟨i, f, ww, g0, sp0, cp0⟩ ⟨hx1, hx2, hx3, hx4, hx5, hx6, hx7⟩
 show JC _ _ _ [(2, .slice none 0 0), (3, Slc g0 0 (4*i) cp0), (4, U8 f), (5, I64 i)] [⟨g0, cu8 ww ++ sp0, 5, (0, 0)⟩]
 refine AF (AF (AB (AA _ (AG rfl) rfl ?_)))
 refine AA (.bool (decide (((i:Int)) < (44:Int)))) (AJ rfl rfl fun _ => B9 _ _) rfl ?_
 refine AI (AC (B5 (decide (((i:Int)) < (44:Int))) rfl (fun hb1 => ?_) (fun hb1 => ?_)))
 ·
  have hp1 : ((i:Int)) < (44:Int) := of_decide_eq_true hb1
  refine BJ (AC (AF (A9 (AF (CT 85 2 [(0, Slc g0 0 (4*i) cp0), (1, I64 i), (2, I64 (4*(i:Int))), (3, I64 (4*(i:Int) - 4)), (4, Ptr g0 (4*i - 4)), (5, U8 (g8 ww (4*i - 4))), (6, Slc g0 0 (4*i) cp0), (7, I64 i), (8, I64 (4*(i:Int))), (9, I64 (4*(i:Int) - 3)), (10, Ptr g0 (4*i - 3)), (11, U8 (g8 ww (4*i - 3))), (12, Slc g0 0 (4*i) cp0), (13, I64 i), (14, I64 (4*(i:Int))), (15, I64 (4*(i:Int) - 2)), (16, Ptr g0 (4*i - 2)), (17, U8 (g8 ww (4*i - 2))), (18, Slc g0 0 (4*i) cp0), (19, I64 i), (20, I64 (4*(i:Int))), (21, I64 (4*(i:Int) - 1)), (22, Ptr g0 (4*i - 1)), (23, U8 (g8 ww (4*i - 1)))] BL rfl (by decide +kernel) ?_)))))
  refine CU ⟨[], [0, 1, 2, 3, 4, 5, 6, 7, 8, 9, 10, 11, 12, 13, 14, 15, 16, 17, 18, 19, 20, 21, 22, 23], [], [0, 1, 2, 3, 4, 5, 6, 7, 8, 9, 10, 11, 12, 13, 14, 15, 16, 17, 18, 19, 20, 21, 22, 23], [24]⟩ 24 _ rfl rfl (by decide +kernel) rfl ⟨AU rfl rfl rfl, AU rfl rfl rfl, ⟨_, rfl, AD rfl (AJ rfl rfl fun _ => DX _ _ (4*(i:Int)) (by omega) (by omega))⟩, ⟨_, rfl, AD rfl (AJ rfl rfl fun _ => C5 _ _ (4*(i:Int) - 4) (by omega) (by omega))⟩, ⟨_, rfl, AD rfl (ED 5 1 (4*i - 4) AK AM rfl rfl (by omega) (by omega) (by omega))⟩, ⟨_, rfl, AD rfl (AL rfl (AZ BZ (AR 0 rfl (BE (Seg.get (EC (i := (4*i - 4)) (by rw [hx4]; omega)))))))⟩, AU rfl rfl rfl, AU rfl rfl rfl, ⟨_, rfl, AD rfl (AJ rfl rfl fun _ => DX _ _ (4*(i:Int)) (by omega) (by omega))⟩, ⟨_, rfl, AD rfl (AJ rfl rfl fun _ => C5 _ _ (4*(i:Int) - 3) (by omega) (by omega))⟩, ⟨_, rfl, AD rfl (ED 5 1 (4*i - 3) AK AM rfl rfl (by omega) (by omega) (by omega))⟩, ⟨_, rfl, AD rfl (AL rfl (AZ BZ (AR 0 rfl (BE (Seg.get (EC (i := (4*i - 3)) (by rw [hx4]; omega)))))))⟩, AU rfl rfl rfl, AU rfl rfl rfl, ⟨_, rfl, AD rfl (AJ rfl rfl fun _ => DX _ _ (4*(i:Int)) (by omega) (by omega))⟩, ⟨_, rfl, AD rfl (AJ rfl rfl fun _ => C5 _ _ (4*(i:Int) - 2) (by omega) (by omega))⟩, ⟨_, rfl, AD rfl (ED 5 1 (4*i - 2) AK AM rfl rfl (by omega) (by omega) (by omega))⟩, ⟨_, rfl, AD rfl (AL rfl (AZ BZ (AR 0 rfl (BE (Seg.get (EC (i := (4*i - 2)) (by rw [hx4]; omega)))))))⟩, AU rfl rfl rfl, AU rfl rfl rfl, ⟨_, rfl, AD rfl (AJ rfl rfl fun _ => DX _ _ (4*(i:Int)) (by omega) (by omega))⟩, ⟨_, rfl, AD rfl (AJ rfl rfl fun _ => C5 _ _ (4*(i:Int) - 1) (by omega) (by omega))⟩, ⟨_, rfl, AD rfl (ED 5 1 (4*i - 1) AK AM rfl rfl (by omega) (by omega) (by omega))⟩, ⟨_, rfl, AD rfl (AL rfl (AZ BZ (AR 0 rfl (BE (Seg.get (EC (i := (4*i - 1)) (by rw [hx4]; omega)))))))⟩, trivial⟩ rfl (AW rfl (BT 5 1 _ [(0, U8 (g8 ww (4*i - 4))), (1, U8 (g8 ww (4*i - 3))), (2, U8 (g8 ww (4*i - 2))), (3, U8 (g8 ww (4*i - 1)))] (cu8 ([g8 ww (4*i - 4), g8 ww (4*i - 3), g8 ww (4*i - 2), g8 ww (4*i - 1)])) AK AM C1 rfl rfl rfl (by kernel_rfl))) ?_
  rintro v1 L1 ⟨nb4, hnb4, rfl, rfl⟩
  refine ⟨[(25, Slc nb4 0 4 4)], ?_⟩
  show DP _ _ _ _ _ _ _ _ [_, ⟨nb4, cu8 ([g8 ww (4*i - 4), g8 ww (4*i - 3), g8 ww (4*i - 2), g8 ww (4*i - 1)]), 5, (0, 0)⟩]
  refine DE ⟨[24], [0, 1, 2, 3, 4, 5, 6, 7, 8, 9, 10, 11, 12, 13, 14, 15, 16, 17, 18, 19, 20, 21, 22, 23, 25], [0, 1, 2, 3, 4, 5, 6, 7, 8, 9, 10, 11, 12, 13, 14, 15, 16, 17, 18, 19, 20, 21, 22, 23], [25], []⟩ rfl rfl (by decide +kernel) rfl ⟨⟨_, rfl, AD rfl (AE rfl)⟩, trivial⟩ ?_
  refine CC (F' := [(15, Slc g0 0 (4*i) cp0), (16, I64 i), (17, I64 (4*(i:Int))), (18, I64 (4*(i:Int) - 4)), (19, Ptr g0 (4*i - 4)), (20, U8 (g8 ww (4*i - 4))), (21, Slc g0 0 (4*i) cp0), (22, I64 i), (23, I64 (4*(i:Int))), (24, I64 (4*(i:Int) - 3)), (25, Ptr g0 (4*i - 3)), (26, U8 (g8 ww (4*i - 3))), (27, Slc g0 0 (4*i) cp0), (28, I64 i), (29, I64 (4*(i:Int))), (30, I64 (4*(i:Int) - 2)), (31, Ptr g0 (4*i - 2)), (32, U8 (g8 ww (4*i - 2))), (33, Slc g0 0 (4*i) cp0), (34, I64 i), (35, I64 (4*(i:Int))), (36, I64 (4*(i:Int) - 1)), (37, Ptr g0 (4*i - 1)), (38, U8 (g8 ww (4*i - 1))), (39, Slc nb4 0 4 4), (6, Slc nb4 0 4 4), (2, .slice none 0 0), (3, Slc g0 0 (4*i) cp0), (4, U8 f), (5, I64 i), (11, I64 i), (12, .bool (decide (((i:Int)) < (44:Int))))]) (by kernel_rfl) ?_
  refine AC (AF (AF (AB (AA _ (AG rfl) rfl ?_))))
  refine AA (I64 ((i % 4:Int))) (AJ rfl rfl fun _ => F3 _ _ ((i % 4:Int)) (by omega) (by omega) (by omega)) rfl ?_
  refine AA (.bool (decide (((i % 4:Int)) = (0:Int)))) (AJ rfl rfl fun _ => D6 _ _) rfl ?_
  refine AI (AC (B5 (decide (((i % 4:Int)) = (0:Int))) rfl (fun hb2 => ?_) (fun hb2 => ?_)))
  ·
   have hp2 : ((i % 4:Int)) = (0:Int) := of_decide_eq_true hb2
   refine AF (CT 85 2 [(0, Slc nb4 0 4 4), (1, Ptr nb4 1), (2, U8 (g8 ([g8 ww (4*i - 4), g8 ww (4*i - 3), g8 ww (4*i - 2), g8 ww (4*i - 1)]) 1)), (3, U8 (g8 subsL ((g8 ([g8 ww (4*i - 4), g8 ww (4*i - 3), g8 ww (4*i - 2), g8 ww (4*i - 1)]) 1).toNat))), (4, U8 f), (5, U8 ((g8 subsL ((g8 ([g8 ww (4*i - 4), g8 ww (4*i - 3), g8 ww (4*i - 2), g8 ww (4*i - 1)]) 1).toNat)) ^^^ f)), (6, Slc nb4 0 4 4), (7, Ptr nb4 2), (8, U8 (g8 ([g8 ww (4*i - 4), g8 ww (4*i - 3), g8 ww (4*i - 2), g8 ww (4*i - 1)]) 2)), (9, U8 (g8 subsL ((g8 ([g8 ww (4*i - 4), g8 ww (4*i - 3), g8 ww (4*i - 2), g8 ww (4*i - 1)]) 2).toNat))), (10, Slc nb4 0 4 4), (11, Ptr nb4 3), (12, U8 (g8 ([g8 ww (4*i - 4), g8 ww (4*i - 3), g8 ww (4*i - 2), g8 ww (4*i - 1)]) 3)), (13, U8 (g8 subsL ((g8 ([g8 ww (4*i - 4), g8 ww (4*i - 3), g8 ww (4*i - 2), g8 ww (4*i - 1)]) 3).toNat))), (14, Slc nb4 0 4 4), (15, Ptr nb4 0), (16, U8 (g8 ([g8 ww (4*i - 4), g8 ww (4*i - 3), g8 ww (4*i - 2), g8 ww (4*i - 1)]) 0)), (17, U8 (g8 subsL ((g8 ([g8 ww (4*i - 4), g8 ww (4*i - 3), g8 ww (4*i - 2), g8 ww (4*i - 1)]) 0).toNat)))] BL rfl (by decide +kernel) ?_)
   refine CU ⟨[], [0, 1, 2, 3, 4, 5, 6, 7, 8, 9, 10, 11, 12, 13, 14, 15, 16, 17], [], [0, 1, 2, 3, 4, 5, 6, 7, 8, 9, 10, 11, 12, 13, 14, 15, 16, 17], [18]⟩ 18 _ rfl rfl (by decide +kernel) rfl ⟨AU rfl rfl rfl, ⟨_, rfl, AD rfl (ED 5 1 1 AK AM rfl rfl (by omega) (by omega) (by omega))⟩, ⟨_, rfl, AD rfl (AL rfl (AZ BZ (AR 1 rfl (Seg.get (EC (i := 1) (by simp <;> omega))))))⟩, ⟨_, rfl, AD rfl (Ev_indexStrL subsL ((g8 ([g8 ww (4*i - 4), g8 ww (4*i - 3), g8 ww (4*i - 2), g8 ww (4*i - 1)]) 1).toNat) Tryd.underlying9 rfl rfl (by have := UInt8.toNat_lt (g8 ([g8 ww (4*i - 4), g8 ww (4*i - 3), g8 ww (4*i - 2), g8 ww (4*i - 1)]) 1); omega) (by rw [subsL_len]; have := UInt8.toNat_lt (g8 ([g8 ww (4*i - 4), g8 ww (4*i - 3), g8 ww (4*i - 2), g8 ww (4*i - 1)]) 1); omega))⟩, AU rfl rfl rfl, ⟨_, rfl, AD rfl (AJ rfl rfl fun _ => DK (g8 subsL ((g8 ([g8 ww (4*i - 4), g8 ww (4*i - 3), g8 ww (4*i - 2), g8 ww (4*i - 1)]) 1).toNat)) f)⟩, AU rfl rfl rfl, ⟨_, rfl, AD rfl (ED 5 1 2 AK AM rfl rfl (by omega) (by omega) (by omega))⟩, ⟨_, rfl, AD rfl (AL rfl (AZ BZ (AR 1 rfl (Seg.get (EC (i := 2) (by simp <;> omega))))))⟩, ⟨_, rfl, AD rfl (Ev_indexStrL subsL ((g8 ([g8 ww (4*i - 4), g8 ww (4*i - 3), g8 ww (4*i - 2), g8 ww (4*i - 1)]) 2).toNat) Tryd.underlying9 rfl rfl (by have := UInt8.toNat_lt (g8 ([g8 ww (4*i - 4), g8 ww (4*i - 3), g8 ww (4*i - 2), g8 ww (4*i - 1)]) 2); omega) (by rw [subsL_len]; have := UInt8.toNat_lt (g8 ([g8 ww (4*i - 4), g8 ww (4*i - 3), g8 ww (4*i - 2), g8 ww (4*i - 1)]) 2); omega))⟩, AU rfl rfl rfl, ⟨_, rfl, AD rfl (ED 5 1 3 AK AM rfl rfl (by omega) (by omega) (by omega))⟩, ⟨_, rfl, AD rfl (AL rfl (AZ BZ (AR 1 rfl (Seg.get (EC (i := 3) (by simp <;> omega))))))⟩, ⟨_, rfl, AD rfl (Ev_indexStrL subsL ((g8 ([g8 ww (4*i - 4), g8 ww (4*i - 3), g8 ww (4*i - 2), g8 ww (4*i - 1)]) 3).toNat) Tryd.underlying9 rfl rfl (by have := UInt8.toNat_lt (g8 ([g8 ww (4*i - 4), g8 ww (4*i - 3), g8 ww (4*i - 2), g8 ww (4*i - 1)]) 3); omega) (by rw [subsL_len]; have := UInt8.toNat_lt (g8 ([g8 ww (4*i - 4), g8 ww (4*i - 3), g8 ww (4*i - 2), g8 ww (4*i - 1)]) 3); omega))⟩, AU rfl rfl rfl, ⟨_, rfl, AD rfl (ED 5 1 0 AK AM rfl rfl (by omega) (by omega) (by omega))⟩, ⟨_, rfl, AD rfl (AL rfl (AZ BZ (AR 1 rfl (Seg.get (EC (i := 0) (by simp <;> omega))))))⟩, ⟨_, rfl, AD rfl (Ev_indexStrL subsL ((g8 ([g8 ww (4*i - 4), g8 ww (4*i - 3), g8 ww (4*i - 2), g8 ww (4*i - 1)]) 0).toNat) Tryd.underlying9 rfl rfl (by have := UInt8.toNat_lt (g8 ([g8 ww (4*i - 4), g8 ww (4*i - 3), g8 ww (4*i - 2), g8 ww (4*i - 1)]) 0); omega) (by rw [subsL_len]; have := UInt8.toNat_lt (g8 ([g8 ww (4*i - 4), g8 ww (4*i - 3), g8 ww (4*i - 2), g8 ww (4*i - 1)]) 0); omega))⟩, trivial⟩ rfl (AW rfl (BT 5 1 _ [(0, U8 ((g8 subsL ((g8 ([g8 ww (4*i - 4), g8 ww (4*i - 3), g8 ww (4*i - 2), g8 ww (4*i - 1)]) 1).toNat)) ^^^ f)), (1, U8 (g8 subsL ((g8 ([g8 ww (4*i - 4), g8 ww (4*i - 3), g8 ww (4*i - 2), g8 ww (4*i - 1)]) 2).toNat))), (2, U8 (g8 subsL ((g8 ([g8 ww (4*i - 4), g8 ww (4*i - 3), g8 ww (4*i - 2), g8 ww (4*i - 1)]) 3).toNat))), (3, U8 (g8 subsL ((g8 ([g8 ww (4*i - 4), g8 ww (4*i - 3), g8 ww (4*i - 2), g8 ww (4*i - 1)]) 0).toNat)))] (cu8 ([(g8 subsL ((g8 ([g8 ww (4*i - 4), g8 ww (4*i - 3), g8 ww (4*i - 2), g8 ww (4*i - 1)]) 1).toNat)) ^^^ f, g8 subsL ((g8 ([g8 ww (4*i - 4), g8 ww (4*i - 3), g8 ww (4*i - 2), g8 ww (4*i - 1)]) 2).toNat), g8 subsL ((g8 ([g8 ww (4*i - 4), g8 ww (4*i - 3), g8 ww (4*i - 2), g8 ww (4*i - 1)]) 3).toNat), g8 subsL ((g8 ([g8 ww (4*i - 4), g8 ww (4*i - 3), g8 ww (4*i - 2), g8 ww (4*i - 1)]) 0).toNat)])) AK AM C1 rfl rfl rfl (by kernel_rfl))) ?_
   rintro v1 L1 ⟨nb5, hnb5, rfl, rfl⟩
   refine ⟨[(19, Slc nb5 0 4 4)], ?_⟩
   show DP _ _ _ _ _ _ _ _ [_, _, ⟨nb5, cu8 ([(g8 subsL ((g8 ([g8 ww (4*i - 4), g8 ww (4*i - 3), g8 ww (4*i - 2), g8 ww (4*i - 1)]) 1).toNat)) ^^^ f, g8 subsL ((g8 ([g8 ww (4*i - 4), g8 ww (4*i - 3), g8 ww (4*i - 2), g8 ww (4*i - 1)]) 2).toNat), g8 subsL ((g8 ([g8 ww (4*i - 4), g8 ww (4*i - 3), g8 ww (4*i - 2), g8 ww (4*i - 1)]) 3).toNat), g8 subsL ((g8 ([g8 ww (4*i - 4), g8 ww (4*i - 3), g8 ww (4*i - 2), g8 ww (4*i - 1)]) 0).toNat)]), 5, (0, 0)⟩]
   refine DE ⟨[18], [0, 1, 2, 3, 4, 5, 6, 7, 8, 9, 10, 11, 12, 13, 14, 15, 16, 17, 19], [0, 1, 2, 3, 4, 5, 6, 7, 8, 9, 10, 11, 12, 13, 14, 15, 16, 17], [19], []⟩ rfl rfl (by decide +kernel) rfl ⟨⟨_, rfl, AD rfl (AE rfl)⟩, trivial⟩ ?_
   refine CC (F' := [(43, Slc nb4 0 4 4), (44, Ptr nb4 1), (45, U8 (g8 ([g8 ww (4*i - 4), g8 ww (4*i - 3), g8 ww (4*i - 2), g8 ww (4*i - 1)]) 1)), (46, U8 (g8 subsL ((g8 ([g8 ww (4*i - 4), g8 ww (4*i - 3), g8 ww (4*i - 2), g8 ww (4*i - 1)]) 1).toNat))), (47, U8 f), (48, U8 ((g8 subsL ((g8 ([g8 ww (4*i - 4), g8 ww (4*i - 3), g8 ww (4*i - 2), g8 ww (4*i - 1)]) 1).toNat)) ^^^ f)), (49, Slc nb4 0 4 4), (50, Ptr nb4 2), (51, U8 (g8 ([g8 ww (4*i - 4), g8 ww (4*i - 3), g8 ww (4*i - 2), g8 ww (4*i - 1)]) 2)), (52, U8 (g8 subsL ((g8 ([g8 ww (4*i - 4), g8 ww (4*i - 3), g8 ww (4*i - 2), g8 ww (4*i - 1)]) 2).toNat))), (53, Slc nb4 0 4 4), (54, Ptr nb4 3), (55, U8 (g8 ([g8 ww (4*i - 4), g8 ww (4*i - 3), g8 ww (4*i - 2), g8 ww (4*i - 1)]) 3)), (56, U8 (g8 subsL ((g8 ([g8 ww (4*i - 4), g8 ww (4*i - 3), g8 ww (4*i - 2), g8 ww (4*i - 1)]) 3).toNat))), (57, Slc nb4 0 4 4), (58, Ptr nb4 0), (59, U8 (g8 ([g8 ww (4*i - 4), g8 ww (4*i - 3), g8 ww (4*i - 2), g8 ww (4*i - 1)]) 0)), (60, U8 (g8 subsL ((g8 ([g8 ww (4*i - 4), g8 ww (4*i - 3), g8 ww (4*i - 2), g8 ww (4*i - 1)]) 0).toNat))), (61, Slc nb5 0 4 4), (6, Slc nb5 0 4 4), (15, Slc g0 0 (4*i) cp0), (16, I64 i), (17, I64 (4*(i:Int))), (18, I64 (4*(i:Int) - 4)), (19, Ptr g0 (4*i - 4)), (20, U8 (g8 ww (4*i - 4))), (21, Slc g0 0 (4*i) cp0), (22, I64 i), (23, I64 (4*(i:Int))), (24, I64 (4*(i:Int) - 3)), (25, Ptr g0 (4*i - 3)), (26, U8 (g8 ww (4*i - 3))), (27, Slc g0 0 (4*i) cp0), (28, I64 i), (29, I64 (4*(i:Int))), (30, I64 (4*(i:Int) - 2)), (31, Ptr g0 (4*i - 2)), (32, U8 (g8 ww (4*i - 2))), (33, Slc g0 0 (4*i) cp0), (34, I64 i), (35, I64 (4*(i:Int))), (36, I64 (4*(i:Int) - 1)), (37, Ptr g0 (4*i - 1)), (38, U8 (g8 ww (4*i - 1))), (39, Slc nb4 0 4 4), (2, .slice none 0 0), (3, Slc g0 0 (4*i) cp0), (4, U8 f), (5, I64 i), (11, I64 i), (12, .bool (decide (((i:Int)) < (44:Int)))), (40, I64 i), (41, I64 ((i % 4:Int))), (42, .bool (decide (((i % 4:Int)) = (0:Int))))]) (by kernel_rfl) ?_
   refine AC (AB (AA _ (AG rfl) rfl ?_))
   refine A0 (AY 199 [U8 f] (U8 (rdbl f)) (A4 _ Tryd.call199 rfl) (fun w1 _ => GS f w1)) rfl ?_
   show JL _ _ _ _ ((63, U8 (rdbl f)) :: _) [_, _, _]
   refine AA _ (AE rfl) rfl ?_
   refine AI (AC (AF (AB (AA _ (AE rfl) rfl ?_))))
   refine AI (AC (A9 (GP [2, 0] (by decide) ?_)))
   show JC _ _ _ _ [_, _]
   refine DI (ι := Nat × List UInt8 × Nat × List Value × Nat) (fun ⟨j, u, g1, sp1, cp1⟩ => [(2, .slice none 0 0), (4, U8 (rdbl f)), (5, I64 i), (6, Slc nb5 0 4 4), (11, I64 i), (12, .bool (decide (((i:Int)) < (44:Int)))), (15, Slc g0 0 (4*i) cp0), (16, I64 i), (17, I64 (4*(i:Int))), (18, I64 (4*(i:Int) - 4)), (19, Ptr g0 (4*i - 4)), (20, U8 (g8 ww (4*i - 4))), (21, Slc g0 0 (4*i) cp0), (22, I64 i), (23, I64 (4*(i:Int))), (24, I64 (4*(i:Int) - 3)), (25, Ptr g0 (4*i - 3)), (26, U8 (g8 ww (4*i - 3))), (27, Slc g0 0 (4*i) cp0), (28, I64 i), (29, I64 (4*(i:Int))), (30, I64 (4*(i:Int) - 2)), (31, Ptr g0 (4*i - 2)), (32, U8 (g8 ww (4*i - 2))), (33, Slc g0 0 (4*i) cp0), (34, I64 i), (35, I64 (4*(i:Int))), (36, I64 (4*(i:Int) - 1)), (37, Ptr g0 (4*i - 1)), (38, U8 (g8 ww (4*i - 1))), (39, Slc nb4 0 4 4), (40, I64 i), (41, I64 ((i % 4:Int))), (42, .bool (decide (((i % 4:Int)) = (0:Int)))), (43, Slc nb4 0 4 4), (44, Ptr nb4 1), (45, U8 (g8 ([g8 ww (4*i - 4), g8 ww (4*i - 3), g8 ww (4*i - 2), g8 ww (4*i - 1)]) 1)), (46, U8 (g8 subsL ((g8 ([g8 ww (4*i - 4), g8 ww (4*i - 3), g8 ww (4*i - 2), g8 ww (4*i - 1)]) 1).toNat))), (47, U8 f), (48, U8 ((g8 subsL ((g8 ([g8 ww (4*i - 4), g8 ww (4*i - 3), g8 ww (4*i - 2), g8 ww (4*i - 1)]) 1).toNat)) ^^^ f)), (49, Slc nb4 0 4 4), (50, Ptr nb4 2), (51, U8 (g8 ([g8 ww (4*i - 4), g8 ww (4*i - 3), g8 ww (4*i - 2), g8 ww (4*i - 1)]) 2)), (52, U8 (g8 subsL ((g8 ([g8 ww (4*i - 4), g8 ww (4*i - 3), g8 ww (4*i - 2), g8 ww (4*i - 1)]) 2).toNat))), (53, Slc nb4 0 4 4), (54, Ptr nb4 3), (55, U8 (g8 ([g8 ww (4*i - 4), g8 ww (4*i - 3), g8 ww (4*i - 2), g8 ww (4*i - 1)]) 3)), (56, U8 (g8 subsL ((g8 ([g8 ww (4*i - 4), g8 ww (4*i - 3), g8 ww (4*i - 2), g8 ww (4*i - 1)]) 3).toNat))), (57, Slc nb4 0 4 4), (58, Ptr nb4 0), (59, U8 (g8 ([g8 ww (4*i - 4), g8 ww (4*i - 3), g8 ww (4*i - 2), g8 ww (4*i - 1)]) 0)), (60, U8 (g8 subsL ((g8 ([g8 ww (4*i - 4), g8 ww (4*i - 3), g8 ww (4*i - 2), g8 ww (4*i - 1)]) 0).toNat))), (61, Slc nb5 0 4 4), (62, U8 f), (63, U8 (rdbl f)), (3, Slc g1 0 (4*i + j) cp1), (7, I64 j)]) (fun ⟨j, u, g1, sp1, cp1⟩ => [⟨nb5, cu8 ([(g8 subsL ((g8 ([g8 ww (4*i - 4), g8 ww (4*i - 3), g8 ww (4*i - 2), g8 ww (4*i - 1)]) 1).toNat)) ^^^ f, g8 subsL ((g8 ([g8 ww (4*i - 4), g8 ww (4*i - 3), g8 ww (4*i - 2), g8 ww (4*i - 1)]) 2).toNat), g8 subsL ((g8 ([g8 ww (4*i - 4), g8 ww (4*i - 3), g8 ww (4*i - 2), g8 ww (4*i - 1)]) 3).toNat), g8 subsL ((g8 ([g8 ww (4*i - 4), g8 ww (4*i - 3), g8 ww (4*i - 2), g8 ww (4*i - 1)]) 0).toNat)]), 5, (0, 0)⟩, ⟨g1, cu8 u ++ sp1, 5, (0, 0)⟩]) (fun ⟨j, u, g1, sp1, cp1⟩ => j ≤ 4 ∧ u = rIn ww i ([(g8 subsL ((g8 ([g8 ww (4*i - 4), g8 ww (4*i - 3), g8 ww (4*i - 2), g8 ww (4*i - 1)]) 1).toNat)) ^^^ f, g8 subsL ((g8 ([g8 ww (4*i - 4), g8 ww (4*i - 3), g8 ww (4*i - 2), g8 ww (4*i - 1)]) 2).toNat), g8 subsL ((g8 ([g8 ww (4*i - 4), g8 ww (4*i - 3), g8 ww (4*i - 2), g8 ww (4*i - 1)]) 3).toNat), g8 subsL ((g8 ([g8 ww (4*i - 4), g8 ww (4*i - 3), g8 ww (4*i - 2), g8 ww (4*i - 1)]) 0).toNat)]) j ∧ u.length = 4*i + j ∧ sp1.length = cp1 - (4*i + j) ∧ 4*i + j ≤ cp1 ∧ cp1 ≤ maxLen) (fun ⟨j, u, g1, sp1, cp1⟩ => 4 - j) (0, ww, g0, sp0, cp0) ⟨by omega, rfl, by omega, by omega, by omega, hx7⟩ (Sub.all rfl) rfl ?_
   rintro ⟨j, u, g1, sp1, cp1⟩ ⟨hy1, hy2, hy3, hy4, hy5, hy6⟩
   show JC _ _ _ [(2, .slice none 0 0), (4, U8 (rdbl f)), (5, I64 i), (6, Slc nb5 0 4 4), (11, I64 i), (12, .bool (decide (((i:Int)) < (44:Int)))), (15, Slc g0 0 (4*i) cp0), (16, I64 i), (17, I64 (4*(i:Int))), (18, I64 (4*(i:Int) - 4)), (19, Ptr g0 (4*i - 4)), (20, U8 (g8 ww (4*i - 4))), (21, Slc g0 0 (4*i) cp0), (22, I64 i), (23, I64 (4*(i:Int))), (24, I64 (4*(i:Int) - 3)), (25, Ptr g0 (4*i - 3)), (26, U8 (g8 ww (4*i - 3))), (27, Slc g0 0 (4*i) cp0), (28, I64 i), (29, I64 (4*(i:Int))), (30, I64 (4*(i:Int) - 2)), (31, Ptr g0 (4*i - 2)), (32, U8 (g8 ww (4*i - 2))), (33, Slc g0 0 (4*i) cp0), (34, I64 i), (35, I64 (4*(i:Int))), (36, I64 (4*(i:Int) - 1)), (37, Ptr g0 (4*i - 1)), (38, U8 (g8 ww (4*i - 1))), (39, Slc nb4 0 4 4), (40, I64 i), (41, I64 ((i % 4:Int))), (42, .bool (decide (((i % 4:Int)) = (0:Int)))), (43, Slc nb4 0 4 4), (44, Ptr nb4 1), (45, U8 (g8 ([g8 ww (4*i - 4), g8 ww (4*i - 3), g8 ww (4*i - 2), g8 ww (4*i - 1)]) 1)), (46, U8 (g8 subsL ((g8 ([g8 ww (4*i - 4), g8 ww (4*i - 3), g8 ww (4*i - 2), g8 ww (4*i - 1)]) 1).toNat))), (47, U8 f), (48, U8 ((g8 subsL ((g8 ([g8 ww (4*i - 4), g8 ww (4*i - 3), g8 ww (4*i - 2), g8 ww (4*i - 1)]) 1).toNat)) ^^^ f)), (49, Slc nb4 0 4 4), (50, Ptr nb4 2), (51, U8 (g8 ([g8 ww (4*i - 4), g8 ww (4*i - 3), g8 ww (4*i - 2), g8 ww (4*i - 1)]) 2)), (52, U8 (g8 subsL ((g8 ([g8 ww (4*i - 4), g8 ww (4*i - 3), g8 ww (4*i - 2), g8 ww (4*i - 1)]) 2).toNat))), (53, Slc nb4 0 4 4), (54, Ptr nb4 3), (55, U8 (g8 ([g8 ww (4*i - 4), g8 ww (4*i - 3), g8 ww (4*i - 2), g8 ww (4*i - 1)]) 3)), (56, U8 (g8 subsL ((g8 ([g8 ww (4*i - 4), g8 ww (4*i - 3), g8 ww (4*i - 2), g8 ww (4*i - 1)]) 3).toNat))), (57, Slc nb4 0 4 4), (58, Ptr nb4 0), (59, U8 (g8 ([g8 ww (4*i - 4), g8 ww (4*i - 3), g8 ww (4*i - 2), g8 ww (4*i - 1)]) 0)), (60, U8 (g8 subsL ((g8 ([g8 ww (4*i - 4), g8 ww (4*i - 3), g8 ww (4*i - 2), g8 ww (4*i - 1)]) 0).toNat))), (61, Slc nb5 0 4 4), (62, U8 f), (63, U8 (rdbl f)), (3, Slc g1 0 (4*i + j) cp1), (7, I64 j)] [⟨nb5, cu8 ([(g8 subsL ((g8 ([g8 ww (4*i - 4), g8 ww (4*i - 3), g8 ww (4*i - 2), g8 ww (4*i - 1)]) 1).toNat)) ^^^ f, g8 subsL ((g8 ([g8 ww (4*i - 4), g8 ww (4*i - 3), g8 ww (4*i - 2), g8 ww (4*i - 1)]) 2).toNat), g8 subsL ((g8 ([g8 ww (4*i - 4), g8 ww (4*i - 3), g8 ww (4*i - 2), g8 ww (4*i - 1)]) 3).toNat), g8 subsL ((g8 ([g8 ww (4*i - 4), g8 ww (4*i - 3), g8 ww (4*i - 2), g8 ww (4*i - 1)]) 0).toNat)]), 5, (0, 0)⟩, ⟨g1, cu8 u ++ sp1, 5, (0, 0)⟩]
   refine AF (AF (AB (AA _ (AG rfl) rfl ?_)))
   refine AA (.bool (decide (((j:Int)) < (4:Int)))) (AJ rfl rfl fun _ => B9 _ _) rfl ?_
   refine AI (AC (B5 (decide (((j:Int)) < (4:Int))) rfl (fun hb3 => ?_) (fun hb3 => ?_)))
   ·
    have hp3 : ((j:Int)) < (4:Int) := of_decide_eq_true hb3
    refine BJ (AC (AF (A9 (CT 85 3 [(0, Slc g1 0 (4*i + j) cp1), (1, Slc g1 0 (4*i + j) cp1), (2, I64 i), (3, I64 (4*(i:Int))), (4, I64 (4*(i:Int) - 16)), (5, I64 j), (6, I64 (4*(i:Int) + (j:Int) - 16)), (7, Ptr g1 (4*i + j - 16)), (8, U8 (g8 u (4*i + j - 16))), (9, Slc nb5 0 4 4), (10, I64 j), (11, Ptr nb5 j), (12, U8 (g8 ([(g8 subsL ((g8 ([g8 ww (4*i - 4), g8 ww (4*i - 3), g8 ww (4*i - 2), g8 ww (4*i - 1)]) 1).toNat)) ^^^ f, g8 subsL ((g8 ([g8 ww (4*i - 4), g8 ww (4*i - 3), g8 ww (4*i - 2), g8 ww (4*i - 1)]) 2).toNat), g8 subsL ((g8 ([g8 ww (4*i - 4), g8 ww (4*i - 3), g8 ww (4*i - 2), g8 ww (4*i - 1)]) 3).toNat), g8 subsL ((g8 ([g8 ww (4*i - 4), g8 ww (4*i - 3), g8 ww (4*i - 2), g8 ww (4*i - 1)]) 0).toNat)]) j)), (13, U8 ((g8 u (4*i + j - 16)) ^^^ (g8 ([(g8 subsL ((g8 ([g8 ww (4*i - 4), g8 ww (4*i - 3), g8 ww (4*i - 2), g8 ww (4*i - 1)]) 1).toNat)) ^^^ f, g8 subsL ((g8 ([g8 ww (4*i - 4), g8 ww (4*i - 3), g8 ww (4*i - 2), g8 ww (4*i - 1)]) 2).toNat), g8 subsL ((g8 ([g8 ww (4*i - 4), g8 ww (4*i - 3), g8 ww (4*i - 2), g8 ww (4*i - 1)]) 3).toNat), g8 subsL ((g8 ([g8 ww (4*i - 4), g8 ww (4*i - 3), g8 ww (4*i - 2), g8 ww (4*i - 1)]) 0).toNat)]) j)))] BL rfl (by decide +kernel) ?_))))
    refine CU ⟨[], [0, 1, 2, 3, 4, 5, 6, 7, 8, 9, 10, 11, 12, 13], [], [0, 1, 2, 3, 4, 5, 6, 7, 8, 9, 10, 11, 12, 13], [14]⟩ 14 _ rfl rfl (by decide +kernel) rfl ⟨AU rfl rfl rfl, AU rfl rfl rfl, AU rfl rfl rfl, ⟨_, rfl, AD rfl (AJ rfl rfl fun _ => DX _ _ (4*(i:Int)) (by omega) (by omega))⟩, ⟨_, rfl, AD rfl (AJ rfl rfl fun _ => C5 _ _ (4*(i:Int) - 16) (by omega) (by omega))⟩, AU rfl rfl rfl, ⟨_, rfl, AD rfl (AJ rfl rfl fun _ => BP _ _ (4*(i:Int) + (j:Int) - 16) (by omega) (by omega))⟩, ⟨_, rfl, AD rfl (ED 5 1 (4*i + j - 16) AK AM rfl rfl (by omega) (by omega) (by omega))⟩, ⟨_, rfl, AD rfl (AL rfl (AZ BZ (AR 1 rfl (BE (Seg.get (EC (i := (4*i + j - 16)) (by rw [hy3]; omega)))))))⟩, AU rfl rfl rfl, AU rfl rfl rfl, ⟨_, rfl, AD rfl (ED 5 1 j AK AM rfl rfl (by omega) (by omega) (by omega))⟩, ⟨_, rfl, AD rfl (AL rfl (AZ BZ (AR 0 rfl (Seg.get (EC (i := j) (by simp <;> omega))))))⟩, ⟨_, rfl, AD rfl (AJ rfl rfl fun _ => DK (g8 u (4*i + j - 16)) (g8 ([(g8 subsL ((g8 ([g8 ww (4*i - 4), g8 ww (4*i - 3), g8 ww (4*i - 2), g8 ww (4*i - 1)]) 1).toNat)) ^^^ f, g8 subsL ((g8 ([g8 ww (4*i - 4), g8 ww (4*i - 3), g8 ww (4*i - 2), g8 ww (4*i - 1)]) 2).toNat), g8 subsL ((g8 ([g8 ww (4*i - 4), g8 ww (4*i - 3), g8 ww (4*i - 2), g8 ww (4*i - 1)]) 3).toNat), g8 subsL ((g8 ([g8 ww (4*i - 4), g8 ww (4*i - 3), g8 ww (4*i - 2), g8 ww (4*i - 1)]) 0).toNat)]) j))⟩, trivial⟩ rfl (AW rfl (BT 5 1 _ [(0, U8 ((g8 u (4*i + j - 16)) ^^^ (g8 ([(g8 subsL ((g8 ([g8 ww (4*i - 4), g8 ww (4*i - 3), g8 ww (4*i - 2), g8 ww (4*i - 1)]) 1).toNat)) ^^^ f, g8 subsL ((g8 ([g8 ww (4*i - 4), g8 ww (4*i - 3), g8 ww (4*i - 2), g8 ww (4*i - 1)]) 2).toNat), g8 subsL ((g8 ([g8 ww (4*i - 4), g8 ww (4*i - 3), g8 ww (4*i - 2), g8 ww (4*i - 1)]) 3).toNat), g8 subsL ((g8 ([g8 ww (4*i - 4), g8 ww (4*i - 3), g8 ww (4*i - 2), g8 ww (4*i - 1)]) 0).toNat)]) j)))] (cu8 ([(g8 u (4*i + j - 16)) ^^^ (g8 ([(g8 subsL ((g8 ([g8 ww (4*i - 4), g8 ww (4*i - 3), g8 ww (4*i - 2), g8 ww (4*i - 1)]) 1).toNat)) ^^^ f, g8 subsL ((g8 ([g8 ww (4*i - 4), g8 ww (4*i - 3), g8 ww (4*i - 2), g8 ww (4*i - 1)]) 2).toNat), g8 subsL ((g8 ([g8 ww (4*i - 4), g8 ww (4*i - 3), g8 ww (4*i - 2), g8 ww (4*i - 1)]) 3).toNat), g8 subsL ((g8 ([g8 ww (4*i - 4), g8 ww (4*i - 3), g8 ww (4*i - 2), g8 ww (4*i - 1)]) 0).toNat)]) j)])) AK AM C1 rfl rfl rfl (by kernel_rfl))) ?_
    rintro v1 L1 ⟨nb6, hnb6, rfl, rfl⟩
    refine ⟨[], ?_⟩
    show DP _ _ _ _ _ _ _ _ [_, _, ⟨nb6, cu8 ([(g8 u (4*i + j - 16)) ^^^ (g8 ([(g8 subsL ((g8 ([g8 ww (4*i - 4), g8 ww (4*i - 3), g8 ww (4*i - 2), g8 ww (4*i - 1)]) 1).toNat)) ^^^ f, g8 subsL ((g8 ([g8 ww (4*i - 4), g8 ww (4*i - 3), g8 ww (4*i - 2), g8 ww (4*i - 1)]) 2).toNat), g8 subsL ((g8 ([g8 ww (4*i - 4), g8 ww (4*i - 3), g8 ww (4*i - 2), g8 ww (4*i - 1)]) 3).toNat), g8 subsL ((g8 ([g8 ww (4*i - 4), g8 ww (4*i - 3), g8 ww (4*i - 2), g8 ww (4*i - 1)]) 0).toNat)]) j)]), 5, (0, 0)⟩]
    refine CU ⟨[14], [0, 1, 2, 3, 4, 5, 6, 7, 8, 9, 10, 11, 12, 13], [1, 2, 3, 4, 5, 6, 7, 8, 9, 10, 11, 12, 13], [0], [15]⟩ 15 _ rfl rfl (by decide +kernel) rfl ⟨AU rfl rfl rfl, trivial⟩ rfl (AW rfl (DH 43 5 [false, true, false] (Slc g1 0 (4*i + j) cp1) (4*i + j) u ([(g8 u (4*i + j - 16)) ^^^ (g8 ([(g8 subsL ((g8 ([g8 ww (4*i - 4), g8 ww (4*i - 3), g8 ww (4*i - 2), g8 ww (4*i - 1)]) 1).toNat)) ^^^ f, g8 subsL ((g8 ([g8 ww (4*i - 4), g8 ww (4*i - 3), g8 ww (4*i - 2), g8 ww (4*i - 1)]) 2).toNat), g8 subsL ((g8 ([g8 ww (4*i - 4), g8 ww (4*i - 3), g8 ww (4*i - 2), g8 ww (4*i - 1)]) 3).toNat), g8 subsL ((g8 ([g8 ww (4*i - 4), g8 ww (4*i - 3), g8 ww (4*i - 2), g8 ww (4*i - 1)]) 0).toNat)]) j)]) (some ⟨nb6, 0, none⟩) 1 1 (4*i + j + 1) AK C4 rfl (.inr ⟨g1, sp1, cp1, rfl, rfl, (by first | exact hy3 | simp [hy3]), hy4, (by omega), (by omega)⟩) rfl (by simp) (SrcAt.mem (AR 2 rfl (AN _))) (by omega) (by unfold maxLen; omega) (by omega))) ?_
    rintro v1 L1 ⟨nb7, sp2, cp2, hg2, rfl, rfl, ha5, ha6, ha7, ha8⟩
    refine ⟨[(16, Slc nb7 0 (4*i + j + 1) cp2)], ?_⟩
    show DP _ _ _ _ _ _ _ _ [_, _, ⟨nb7, cu8 (u ++ ([(g8 u (4*i + j - 16)) ^^^ (g8 ([(g8 subsL ((g8 ([g8 ww (4*i - 4), g8 ww (4*i - 3), g8 ww (4*i - 2), g8 ww (4*i - 1)]) 1).toNat)) ^^^ f, g8 subsL ((g8 ([g8 ww (4*i - 4), g8 ww (4*i - 3), g8 ww (4*i - 2), g8 ww (4*i - 1)]) 2).toNat), g8 subsL ((g8 ([g8 ww (4*i - 4), g8 ww (4*i - 3), g8 ww (4*i - 2), g8 ww (4*i - 1)]) 3).toNat), g8 subsL ((g8 ([g8 ww (4*i - 4), g8 ww (4*i - 3), g8 ww (4*i - 2), g8 ww (4*i - 1)]) 0).toNat)]) j)])) ++ sp2, 5, (0, 0)⟩]
    refine DE ⟨[14, 15], [0, 1, 2, 3, 4, 5, 6, 7, 8, 9, 10, 11, 12, 13, 16], [0, 1, 2, 3, 4, 5, 6, 7, 8, 9, 10, 11, 12, 13], [16], []⟩ rfl rfl (by decide +kernel) rfl ⟨⟨_, rfl, AD rfl (AE rfl)⟩, trivial⟩ ?_
    refine CC (F' := [(68, Slc g1 0 (4*i + j) cp1), (69, Slc g1 0 (4*i + j) cp1), (70, I64 i), (71, I64 (4*(i:Int))), (72, I64 (4*(i:Int) - 16)), (73, I64 j), (74, I64 (4*(i:Int) + (j:Int) - 16)), (75, Ptr g1 (4*i + j - 16)), (76, U8 (g8 u (4*i + j - 16))), (77, Slc nb5 0 4 4), (78, I64 j), (79, Ptr nb5 j), (80, U8 (g8 ([(g8 subsL ((g8 ([g8 ww (4*i - 4), g8 ww (4*i - 3), g8 ww (4*i - 2), g8 ww (4*i - 1)]) 1).toNat)) ^^^ f, g8 subsL ((g8 ([g8 ww (4*i - 4), g8 ww (4*i - 3), g8 ww (4*i - 2), g8 ww (4*i - 1)]) 2).toNat), g8 subsL ((g8 ([g8 ww (4*i - 4), g8 ww (4*i - 3), g8 ww (4*i - 2), g8 ww (4*i - 1)]) 3).toNat), g8 subsL ((g8 ([g8 ww (4*i - 4), g8 ww (4*i - 3), g8 ww (4*i - 2), g8 ww (4*i - 1)]) 0).toNat)]) j)), (81, U8 ((g8 u (4*i + j - 16)) ^^^ (g8 ([(g8 subsL ((g8 ([g8 ww (4*i - 4), g8 ww (4*i - 3), g8 ww (4*i - 2), g8 ww (4*i - 1)]) 1).toNat)) ^^^ f, g8 subsL ((g8 ([g8 ww (4*i - 4), g8 ww (4*i - 3), g8 ww (4*i - 2), g8 ww (4*i - 1)]) 2).toNat), g8 subsL ((g8 ([g8 ww (4*i - 4), g8 ww (4*i - 3), g8 ww (4*i - 2), g8 ww (4*i - 1)]) 3).toNat), g8 subsL ((g8 ([g8 ww (4*i - 4), g8 ww (4*i - 3), g8 ww (4*i - 2), g8 ww (4*i - 1)]) 0).toNat)]) j))), (82, Slc nb6 0 1 1), (83, Slc nb7 0 (4*i + j + 1) cp2), (3, Slc nb7 0 (4*i + j + 1) cp2), (2, .slice none 0 0), (4, U8 (rdbl f)), (5, I64 i), (6, Slc nb5 0 4 4), (11, I64 i), (12, .bool (decide (((i:Int)) < (44:Int)))), (15, Slc g0 0 (4*i) cp0), (16, I64 i), (17, I64 (4*(i:Int))), (18, I64 (4*(i:Int) - 4)), (19, Ptr g0 (4*i - 4)), (20, U8 (g8 ww (4*i - 4))), (21, Slc g0 0 (4*i) cp0), (22, I64 i), (23, I64 (4*(i:Int))), (24, I64 (4*(i:Int) - 3)), (25, Ptr g0 (4*i - 3)), (26, U8 (g8 ww (4*i - 3))), (27, Slc g0 0 (4*i) cp0), (28, I64 i), (29, I64 (4*(i:Int))), (30, I64 (4*(i:Int) - 2)), (31, Ptr g0 (4*i - 2)), (32, U8 (g8 ww (4*i - 2))), (33, Slc g0 0 (4*i) cp0), (34, I64 i), (35, I64 (4*(i:Int))), (36, I64 (4*(i:Int) - 1)), (37, Ptr g0 (4*i - 1)), (38, U8 (g8 ww (4*i - 1))), (39, Slc nb4 0 4 4), (40, I64 i), (41, I64 ((i % 4:Int))), (42, .bool (decide (((i % 4:Int)) = (0:Int)))), (43, Slc nb4 0 4 4), (44, Ptr nb4 1), (45, U8 (g8 ([g8 ww (4*i - 4), g8 ww (4*i - 3), g8 ww (4*i - 2), g8 ww (4*i - 1)]) 1)), (46, U8 (g8 subsL ((g8 ([g8 ww (4*i - 4), g8 ww (4*i - 3), g8 ww (4*i - 2), g8 ww (4*i - 1)]) 1).toNat))), (47, U8 f), (48, U8 ((g8 subsL ((g8 ([g8 ww (4*i - 4), g8 ww (4*i - 3), g8 ww (4*i - 2), g8 ww (4*i - 1)]) 1).toNat)) ^^^ f)), (49, Slc nb4 0 4 4), (50, Ptr nb4 2), (51, U8 (g8 ([g8 ww (4*i - 4), g8 ww (4*i - 3), g8 ww (4*i - 2), g8 ww (4*i - 1)]) 2)), (52, U8 (g8 subsL ((g8 ([g8 ww (4*i - 4), g8 ww (4*i - 3), g8 ww (4*i - 2), g8 ww (4*i - 1)]) 2).toNat))), (53, Slc nb4 0 4 4), (54, Ptr nb4 3), (55, U8 (g8 ([g8 ww (4*i - 4), g8 ww (4*i - 3), g8 ww (4*i - 2), g8 ww (4*i - 1)]) 3)), (56, U8 (g8 subsL ((g8 ([g8 ww (4*i - 4), g8 ww (4*i - 3), g8 ww (4*i - 2), g8 ww (4*i - 1)]) 3).toNat))), (57, Slc nb4 0 4 4), (58, Ptr nb4 0), (59, U8 (g8 ([g8 ww (4*i - 4), g8 ww (4*i - 3), g8 ww (4*i - 2), g8 ww (4*i - 1)]) 0)), (60, U8 (g8 subsL ((g8 ([g8 ww (4*i - 4), g8 ww (4*i - 3), g8 ww (4*i - 2), g8 ww (4*i - 1)]) 0).toNat))), (61, Slc nb5 0 4 4), (62, U8 f), (63, U8 (rdbl f)), (7, I64 j), (64, I64 j), (65, .bool (decide (((j:Int)) < (4:Int))))]) (by kernel_rfl) ?_
    refine A5 (AC (AB (AA _ (AG rfl) rfl ?_)))
    refine AA (I64 ((j:Int) + 1)) (AJ rfl rfl fun _ => BP _ _ ((j:Int) + 1) (by omega) (by omega)) rfl ?_
    refine AA _ (AE rfl) rfl ?_
    refine AI (B6 (CA [true, false, true] ?_))
    show K _ _ [_, _] _
    refine DN (j + 1, u ++ ([(g8 u (4*i + j - 16)) ^^^ (g8 ([(g8 subsL ((g8 ([g8 ww (4*i - 4), g8 ww (4*i - 3), g8 ww (4*i - 2), g8 ww (4*i - 1)]) 1).toNat)) ^^^ f, g8 subsL ((g8 ([g8 ww (4*i - 4), g8 ww (4*i - 3), g8 ww (4*i - 2), g8 ww (4*i - 1)]) 2).toNat), g8 subsL ((g8 ([g8 ww (4*i - 4), g8 ww (4*i - 3), g8 ww (4*i - 2), g8 ww (4*i - 1)]) 3).toNat), g8 subsL ((g8 ([g8 ww (4*i - 4), g8 ww (4*i - 3), g8 ww (4*i - 2), g8 ww (4*i - 1)]) 0).toNat)]) j)]), nb7, sp2, cp2) ⟨by omega, by rw [rIn, ← hy2], by rw [ha5]; omega, by rw [ha6]; omega, by omega, by omega⟩ (by first | (simp; omega) | simp | (dsimp only; omega) | omega) (Sub.cons rfl (Sub.cons rfl (Sub.cons rfl (Sub.cons rfl (Sub.cons rfl (Sub.cons rfl (Sub.cons rfl (Sub.cons rfl (Sub.cons rfl (Sub.cons rfl (Sub.cons rfl (Sub.cons rfl (Sub.cons rfl (Sub.cons rfl (Sub.cons rfl (Sub.cons rfl (Sub.cons rfl (Sub.cons rfl (Sub.cons rfl (Sub.cons rfl (Sub.cons rfl (Sub.cons rfl (Sub.cons rfl (Sub.cons rfl (Sub.cons rfl (Sub.cons rfl (Sub.cons rfl (Sub.cons rfl (Sub.cons rfl (Sub.cons rfl (Sub.cons rfl (Sub.cons rfl (Sub.cons rfl (Sub.cons rfl (Sub.cons rfl (Sub.cons rfl (Sub.cons rfl (Sub.cons rfl (Sub.cons rfl (Sub.cons rfl (Sub.cons rfl (Sub.cons rfl (Sub.cons rfl (Sub.cons rfl (Sub.cons rfl (Sub.cons rfl (Sub.cons rfl (Sub.cons rfl (Sub.cons rfl (Sub.cons rfl (Sub.cons rfl (Sub.cons rfl (Sub.cons rfl (Sub.cons rfl (Sub.cons rfl (Sub.cons (FM (by omega)) (Sub.all rfl))))))))))))))))))))))))))))))))))))))))))))))))))))))))) rfl
   ·
    have hp3 : ¬ (((j:Int)) < (4:Int)) := of_decide_eq_false hb3
    refine DA (AQ (AQ (BV (A5 (AC (AB (AA _ (AG rfl) rfl ?_)))))))
    refine AA (I64 ((i:Int) + 1)) (AJ rfl rfl fun _ => BP _ _ ((i:Int) + 1) (by omega) (by omega)) rfl ?_
    refine AA _ (AE rfl) rfl ?_
    refine AI (B6 (CA [false, true] ?_))
    show K _ _ [_] _
    refine DN (i + 1, rdbl f, u, g1, sp1, cp1) ⟨by omega, by omega, by rw [show i + 1 - 4 = (i - 4) + 1 from by omega, rN, ← hx3]; simp only [rStep, show i - 4 + 4 = i from by omega]; rw [if_pos (by omega), hy2, show j = 4 from by omega]; rfl, by omega, by omega, by omega, hy6⟩ (by first | (simp; omega) | simp | (dsimp only; omega) | omega) (Sub.cons rfl (Sub.cons (FM (by omega)) (Sub.all rfl))) rfl
  ·
   have hp2 : ¬ (((i % 4:Int)) = (0:Int)) := of_decide_eq_false hb2
   refine BJ (AC (AF (AB (AA _ (AE rfl) rfl ?_))))
   refine AI (AC (A9 (GP [1, 0] (by decide) ?_)))
   show JC _ _ _ _ [_, _]
   refine DI (ι := Nat × List UInt8 × Nat × List Value × Nat) (fun ⟨j, u, g1, sp1, cp1⟩ => [(2, .slice none 0 0), (4, U8 f), (5, I64 i), (6, Slc nb4 0 4 4), (11, I64 i), (12, .bool (decide (((i:Int)) < (44:Int)))), (15, Slc g0 0 (4*i) cp0), (16, I64 i), (17, I64 (4*(i:Int))), (18, I64 (4*(i:Int) - 4)), (19, Ptr g0 (4*i - 4)), (20, U8 (g8 ww (4*i - 4))), (21, Slc g0 0 (4*i) cp0), (22, I64 i), (23, I64 (4*(i:Int))), (24, I64 (4*(i:Int) - 3)), (25, Ptr g0 (4*i - 3)), (26, U8 (g8 ww (4*i - 3))), (27, Slc g0 0 (4*i) cp0), (28, I64 i), (29, I64 (4*(i:Int))), (30, I64 (4*(i:Int) - 2)), (31, Ptr g0 (4*i - 2)), (32, U8 (g8 ww (4*i - 2))), (33, Slc g0 0 (4*i) cp0), (34, I64 i), (35, I64 (4*(i:Int))), (36, I64 (4*(i:Int) - 1)), (37, Ptr g0 (4*i - 1)), (38, U8 (g8 ww (4*i - 1))), (39, Slc nb4 0 4 4), (40, I64 i), (41, I64 ((i % 4:Int))), (42, .bool (decide (((i % 4:Int)) = (0:Int)))), (3, Slc g1 0 (4*i + j) cp1), (7, I64 j)]) (fun ⟨j, u, g1, sp1, cp1⟩ => [⟨nb4, cu8 ([g8 ww (4*i - 4), g8 ww (4*i - 3), g8 ww (4*i - 2), g8 ww (4*i - 1)]), 5, (0, 0)⟩, ⟨g1, cu8 u ++ sp1, 5, (0, 0)⟩]) (fun ⟨j, u, g1, sp1, cp1⟩ => j ≤ 4 ∧ u = rIn ww i ([g8 ww (4*i - 4), g8 ww (4*i - 3), g8 ww (4*i - 2), g8 ww (4*i - 1)]) j ∧ u.length = 4*i + j ∧ sp1.length = cp1 - (4*i + j) ∧ 4*i + j ≤ cp1 ∧ cp1 ≤ maxLen) (fun ⟨j, u, g1, sp1, cp1⟩ => 4 - j) (0, ww, g0, sp0, cp0) ⟨by omega, rfl, by omega, by omega, by omega, hx7⟩ (Sub.all rfl) rfl ?_
   rintro ⟨j, u, g1, sp1, cp1⟩ ⟨hy1, hy2, hy3, hy4, hy5, hy6⟩
   show JC _ _ _ [(2, .slice none 0 0), (4, U8 f), (5, I64 i), (6, Slc nb4 0 4 4), (11, I64 i), (12, .bool (decide (((i:Int)) < (44:Int)))), (15, Slc g0 0 (4*i) cp0), (16, I64 i), (17, I64 (4*(i:Int))), (18, I64 (4*(i:Int) - 4)), (19, Ptr g0 (4*i - 4)), (20, U8 (g8 ww (4*i - 4))), (21, Slc g0 0 (4*i) cp0), (22, I64 i), (23, I64 (4*(i:Int))), (24, I64 (4*(i:Int) - 3)), (25, Ptr g0 (4*i - 3)), (26, U8 (g8 ww (4*i - 3))), (27, Slc g0 0 (4*i) cp0), (28, I64 i), (29, I64 (4*(i:Int))), (30, I64 (4*(i:Int) - 2)), (31, Ptr g0 (4*i - 2)), (32, U8 (g8 ww (4*i - 2))), (33, Slc g0 0 (4*i) cp0), (34, I64 i), (35, I64 (4*(i:Int))), (36, I64 (4*(i:Int) - 1)), (37, Ptr g0 (4*i - 1)), (38, U8 (g8 ww (4*i - 1))), (39, Slc nb4 0 4 4), (40, I64 i), (41, I64 ((i % 4:Int))), (42, .bool (decide (((i % 4:Int)) = (0:Int)))), (3, Slc g1 0 (4*i + j) cp1), (7, I64 j)] [⟨nb4, cu8 ([g8 ww (4*i - 4), g8 ww (4*i - 3), g8 ww (4*i - 2), g8 ww (4*i - 1)]), 5, (0, 0)⟩, ⟨g1, cu8 u ++ sp1, 5, (0, 0)⟩]
   refine AF (AF (AB (AA _ (AG rfl) rfl ?_)))
   refine AA (.bool (decide (((j:Int)) < (4:Int)))) (AJ rfl rfl fun _ => B9 _ _) rfl ?_
   refine AI (AC (B5 (decide (((j:Int)) < (4:Int))) rfl (fun hb4 => ?_) (fun hb4 => ?_)))
   ·
    have hp4 : ((j:Int)) < (4:Int) := of_decide_eq_true hb4
    refine BJ (AC (AF (A9 (CT 85 3 [(0, Slc g1 0 (4*i + j) cp1), (1, Slc g1 0 (4*i + j) cp1), (2, I64 i), (3, I64 (4*(i:Int))), (4, I64 (4*(i:Int) - 16)), (5, I64 j), (6, I64 (4*(i:Int) + (j:Int) - 16)), (7, Ptr g1 (4*i + j - 16)), (8, U8 (g8 u (4*i + j - 16))), (9, Slc nb4 0 4 4), (10, I64 j), (11, Ptr nb4 j), (12, U8 (g8 ([g8 ww (4*i - 4), g8 ww (4*i - 3), g8 ww (4*i - 2), g8 ww (4*i - 1)]) j)), (13, U8 ((g8 u (4*i + j - 16)) ^^^ (g8 ([g8 ww (4*i - 4), g8 ww (4*i - 3), g8 ww (4*i - 2), g8 ww (4*i - 1)]) j)))] BL rfl (by decide +kernel) ?_))))
    refine CU ⟨[], [0, 1, 2, 3, 4, 5, 6, 7, 8, 9, 10, 11, 12, 13], [], [0, 1, 2, 3, 4, 5, 6, 7, 8, 9, 10, 11, 12, 13], [14]⟩ 14 _ rfl rfl (by decide +kernel) rfl ⟨AU rfl rfl rfl, AU rfl rfl rfl, AU rfl rfl rfl, ⟨_, rfl, AD rfl (AJ rfl rfl fun _ => DX _ _ (4*(i:Int)) (by omega) (by omega))⟩, ⟨_, rfl, AD rfl (AJ rfl rfl fun _ => C5 _ _ (4*(i:Int) - 16) (by omega) (by omega))⟩, AU rfl rfl rfl, ⟨_, rfl, AD rfl (AJ rfl rfl fun _ => BP _ _ (4*(i:Int) + (j:Int) - 16) (by omega) (by omega))⟩, ⟨_, rfl, AD rfl (ED 5 1 (4*i + j - 16) AK AM rfl rfl (by omega) (by omega) (by omega))⟩, ⟨_, rfl, AD rfl (AL rfl (AZ BZ (AR 1 rfl (BE (Seg.get (EC (i := (4*i + j - 16)) (by rw [hy3]; omega)))))))⟩, AU rfl rfl rfl, AU rfl rfl rfl, ⟨_, rfl, AD rfl (ED 5 1 j AK AM rfl rfl (by omega) (by omega) (by omega))⟩, ⟨_, rfl, AD rfl (AL rfl (AZ BZ (AR 0 rfl (Seg.get (EC (i := j) (by simp <;> omega))))))⟩, ⟨_, rfl, AD rfl (AJ rfl rfl fun _ => DK (g8 u (4*i + j - 16)) (g8 ([g8 ww (4*i - 4), g8 ww (4*i - 3), g8 ww (4*i - 2), g8 ww (4*i - 1)]) j))⟩, trivial⟩ rfl (AW rfl (BT 5 1 _ [(0, U8 ((g8 u (4*i + j - 16)) ^^^ (g8 ([g8 ww (4*i - 4), g8 ww (4*i - 3), g8 ww (4*i - 2), g8 ww (4*i - 1)]) j)))] (cu8 ([(g8 u (4*i + j - 16)) ^^^ (g8 ([g8 ww (4*i - 4), g8 ww (4*i - 3), g8 ww (4*i - 2), g8 ww (4*i - 1)]) j)])) AK AM C1 rfl rfl rfl (by kernel_rfl))) ?_
    rintro v1 L1 ⟨nb8, hnb8, rfl, rfl⟩
    refine ⟨[], ?_⟩
    show DP _ _ _ _ _ _ _ _ [_, _, ⟨nb8, cu8 ([(g8 u (4*i + j - 16)) ^^^ (g8 ([g8 ww (4*i - 4), g8 ww (4*i - 3), g8 ww (4*i - 2), g8 ww (4*i - 1)]) j)]), 5, (0, 0)⟩]
    refine CU ⟨[14], [0, 1, 2, 3, 4, 5, 6, 7, 8, 9, 10, 11, 12, 13], [1, 2, 3, 4, 5, 6, 7, 8, 9, 10, 11, 12, 13], [0], [15]⟩ 15 _ rfl rfl (by decide +kernel) rfl ⟨AU rfl rfl rfl, trivial⟩ rfl (AW rfl (DH 43 5 [false, true, false] (Slc g1 0 (4*i + j) cp1) (4*i + j) u ([(g8 u (4*i + j - 16)) ^^^ (g8 ([g8 ww (4*i - 4), g8 ww (4*i - 3), g8 ww (4*i - 2), g8 ww (4*i - 1)]) j)]) (some ⟨nb8, 0, none⟩) 1 1 (4*i + j + 1) AK C4 rfl (.inr ⟨g1, sp1, cp1, rfl, rfl, (by first | exact hy3 | simp [hy3]), hy4, (by omega), (by omega)⟩) rfl (by simp) (SrcAt.mem (AR 2 rfl (AN _))) (by omega) (by unfold maxLen; omega) (by omega))) ?_
    rintro v1 L1 ⟨nb9, sp3, cp3, hg3, rfl, rfl, ha9, ha10, ha11, ha12⟩
    refine ⟨[(16, Slc nb9 0 (4*i + j + 1) cp3)], ?_⟩
    show DP _ _ _ _ _ _ _ _ [_, _, ⟨nb9, cu8 (u ++ ([(g8 u (4*i + j - 16)) ^^^ (g8 ([g8 ww (4*i - 4), g8 ww (4*i - 3), g8 ww (4*i - 2), g8 ww (4*i - 1)]) j)])) ++ sp3, 5, (0, 0)⟩]
    refine DE ⟨[14, 15], [0, 1, 2, 3, 4, 5, 6, 7, 8, 9, 10, 11, 12, 13, 16], [0, 1, 2, 3, 4, 5, 6, 7, 8, 9, 10, 11, 12, 13], [16], []⟩ rfl rfl (by decide +kernel) rfl ⟨⟨_, rfl, AD rfl (AE rfl)⟩, trivial⟩ ?_
    refine CC (F' := [(68, Slc g1 0 (4*i + j) cp1), (69, Slc g1 0 (4*i + j) cp1), (70, I64 i), (71, I64 (4*(i:Int))), (72, I64 (4*(i:Int) - 16)), (73, I64 j), (74, I64 (4*(i:Int) + (j:Int) - 16)), (75, Ptr g1 (4*i + j - 16)), (76, U8 (g8 u (4*i + j - 16))), (77, Slc nb4 0 4 4), (78, I64 j), (79, Ptr nb4 j), (80, U8 (g8 ([g8 ww (4*i - 4), g8 ww (4*i - 3), g8 ww (4*i - 2), g8 ww (4*i - 1)]) j)), (81, U8 ((g8 u (4*i + j - 16)) ^^^ (g8 ([g8 ww (4*i - 4), g8 ww (4*i - 3), g8 ww (4*i - 2), g8 ww (4*i - 1)]) j))), (82, Slc nb8 0 1 1), (83, Slc nb9 0 (4*i + j + 1) cp3), (3, Slc nb9 0 (4*i + j + 1) cp3), (2, .slice none 0 0), (4, U8 f), (5, I64 i), (6, Slc nb4 0 4 4), (11, I64 i), (12, .bool (decide (((i:Int)) < (44:Int)))), (15, Slc g0 0 (4*i) cp0), (16, I64 i), (17, I64 (4*(i:Int))), (18, I64 (4*(i:Int) - 4)), (19, Ptr g0 (4*i - 4)), (20, U8 (g8 ww (4*i - 4))), (21, Slc g0 0 (4*i) cp0), (22, I64 i), (23, I64 (4*(i:Int))), (24, I64 (4*(i:Int) - 3)), (25, Ptr g0 (4*i - 3)), (26, U8 (g8 ww (4*i - 3))), (27, Slc g0 0 (4*i) cp0), (28, I64 i), (29, I64 (4*(i:Int))), (30, I64 (4*(i:Int) - 2)), (31, Ptr g0 (4*i - 2)), (32, U8 (g8 ww (4*i - 2))), (33, Slc g0 0 (4*i) cp0), (34, I64 i), (35, I64 (4*(i:Int))), (36, I64 (4*(i:Int) - 1)), (37, Ptr g0 (4*i - 1)), (38, U8 (g8 ww (4*i - 1))), (39, Slc nb4 0 4 4), (40, I64 i), (41, I64 ((i % 4:Int))), (42, .bool (decide (((i % 4:Int)) = (0:Int)))), (7, I64 j), (64, I64 j), (65, .bool (decide (((j:Int)) < (4:Int))))]) (by kernel_rfl) ?_
    refine A5 (AC (AB (AA _ (AG rfl) rfl ?_)))
    refine AA (I64 ((j:Int) + 1)) (AJ rfl rfl fun _ => BP _ _ ((j:Int) + 1) (by omega) (by omega)) rfl ?_
    refine AA _ (AE rfl) rfl ?_
    refine AI (B6 (CA [true, false, true] ?_))
    show K _ _ [_, _] _
    refine DN (j + 1, u ++ ([(g8 u (4*i + j - 16)) ^^^ (g8 ([g8 ww (4*i - 4), g8 ww (4*i - 3), g8 ww (4*i - 2), g8 ww (4*i - 1)]) j)]), nb9, sp3, cp3) ⟨by omega, by rw [rIn, ← hy2], by rw [ha9]; omega, by rw [ha10]; omega, by omega, by omega⟩ (by first | (simp; omega) | simp | (dsimp only; omega) | omega) (Sub.cons rfl (Sub.cons rfl (Sub.cons rfl (Sub.cons rfl (Sub.cons rfl (Sub.cons rfl (Sub.cons rfl (Sub.cons rfl (Sub.cons rfl (Sub.cons rfl (Sub.cons rfl (Sub.cons rfl (Sub.cons rfl (Sub.cons rfl (Sub.cons rfl (Sub.cons rfl (Sub.cons rfl (Sub.cons rfl (Sub.cons rfl (Sub.cons rfl (Sub.cons rfl (Sub.cons rfl (Sub.cons rfl (Sub.cons rfl (Sub.cons rfl (Sub.cons rfl (Sub.cons rfl (Sub.cons rfl (Sub.cons rfl (Sub.cons rfl (Sub.cons rfl (Sub.cons rfl (Sub.cons rfl (Sub.cons rfl (Sub.cons (FM (by omega)) (Sub.all rfl)))))))))))))))))))))))))))))))))))) rfl
   ·
    have hp4 : ¬ (((j:Int)) < (4:Int)) := of_decide_eq_false hb4
    refine DA (AQ (AQ (BV (A5 (AC (AB (AA _ (AG rfl) rfl ?_)))))))
    refine AA (I64 ((i:Int) + 1)) (AJ rfl rfl fun _ => BP _ _ ((i:Int) + 1) (by omega) (by omega)) rfl ?_
    refine AA _ (AE rfl) rfl ?_
    refine AI (B6 (CA [false, true] ?_))
    show K _ _ [_] _
    refine DN (i + 1, f, u, g1, sp1, cp1) ⟨by omega, by omega, by rw [show i + 1 - 4 = (i - 4) + 1 from by omega, rN, ← hx3]; simp only [rStep, show i - 4 + 4 = i from by omega]; rw [if_neg (by omega), hy2, show j = 4 from by omega], by omega, by omega, by omega, hy6⟩ (by first | (simp; omega) | simp | (dsimp only; omega) | omega) (Sub.cons rfl (Sub.cons (FM (by omega)) (Sub.all rfl))) rfl
 ·
  have hp1 : ¬ (((i:Int)) < (44:Int)) := of_decide_eq_false hb1
  refine DA (AQ (AQ (BV (AC (AF (AB (AA _ (AG rfl) rfl ?_)))))))
  refine AA _ (AE rfl) rfl ?_
  refine AI (AC (BO (BQ (Slc g0 0 (4*i) cp0) (res1 Tryd.results187 (B2 rfl)) fun w1 hw1 => ?_)))
  have e1 : i = 44 := by omega
  subst e1
  have e3 : ww = rkeysL key := by rw [rkeysL, ← hx3]
  rw [e3] at hw1
  exact ⟨_, _, rfl, ⟨g0, sp0, cp0, hx6, hx5, rfl, rfl⟩, hw1⟩
theorem radd_c (b ks : List UInt8) (c cap n : Nat) (w : World) (hb : b.length = 16) (hks : ks.length = 176) (hn : n ≤ 10) (hm : RdA w c 0 (cu8 ks)) : Calls Tryd.prog 212 #[.agg (cu8 b).toArray, Slc c 0 176 cap, I64 n] w (Post w [] (fun v L => v = .agg (cu8 (raddL ks n b)).toArray ∧ L = [])) := by
 refine enter w [] 26 [] [.agg (cu8 b).toArray, Slc c 0 176 cap, I64 n] Tryd.func212 rfl rfl (by simp) (BR (by simp) (by simp) (by simp)) ?_
 show JC _ _ _ [(0, .agg (cu8 b).toArray), (1, Slc c 0 176 cap), (2, I64 n)] _
 refine AF (AB (AV (CG (.agg (cu8 b).toArray) (cu8 b) rfl (by first | rfl | simp)) rfl ?_))
 rintro v1 L1 ⟨nb1, hnb1, rfl, rfl⟩
 show JL _ _ _ _ ((3, Ptr nb1 0) :: _) [⟨nb1, cu8 b, 27, (0, 0)⟩]
 refine AV (A7 _ (cu8 (zr8 16)) DF (by kernel_rfl)) rfl ?_
 rintro v1 L1 ⟨nb2, hnb2, rfl, rfl⟩
 show JL _ _ _ _ ((6, Ptr nb2 0) :: _) [_, ⟨nb2, cu8 (zr8 16), 27, (0, 0)⟩]
 refine AI (AC (AF (AF (AB (AA _ (AE rfl) rfl ?_)))))
 refine AI (AC (A9 (DI (ι := Nat × List UInt8) (fun ⟨k, s⟩ => [(1, Slc c 0 176 cap), (2, I64 n), (3, Ptr nb1 0), (6, Ptr nb2 0), (7, I64 k)]) (fun ⟨k, s⟩ => [⟨nb1, cu8 s, 27, (0, 0)⟩, ⟨nb2, cu8 (zr8 16), 27, (0, 0)⟩]) (fun ⟨k, s⟩ => k ≤ 16 ∧ s = raddN ks n b k ∧ s.length = 16) (fun ⟨k, s⟩ => 16 - k) (0, b) ⟨by omega, rfl, hb⟩ (Sub.all rfl) rfl ?_)))
 rintro ⟨k, s⟩ ⟨hx1, hx2, hs⟩
 show JC _ _ _ [(1, Slc c 0 176 cap), (2, I64 n), (3, Ptr nb1 0), (6, Ptr nb2 0), (7, I64 k)] [⟨nb1, cu8 s, 27, (0, 0)⟩, ⟨nb2, cu8 (zr8 16), 27, (0, 0)⟩]
 refine AF (AF (AB (AA _ (AG rfl) rfl ?_)))
 refine AA (.bool (decide (((k:Int)) < (16:Int)))) (AJ rfl rfl fun _ => B9 _ _) rfl ?_
 refine AI (AC (B5 (decide (((k:Int)) < (16:Int))) rfl (fun hb1 => ?_) (fun hb1 => ?_)))
 ·
  have hp1 : ((k:Int)) < (16:Int) := of_decide_eq_true hb1
  refine BJ (AC (AF (A9 (CT 26 2 [(0, I64 k), (1, I64 k), (2, Ptr nb1 k), (3, U8 (g8 s k)), (4, Slc c 0 176 cap), (5, I64 n), (6, I64 (16*(n:Int))), (7, I64 k), (8, I64 ((k:Int) + 16*(n:Int))), (9, Ptr c (k + 16*n)), (10, U8 (g8 ks (k + 16*n))), (11, U8 ((g8 s k) ^^^ (g8 ks (k + 16*n)))), (12, Ptr nb1 k)] BL rfl (by decide +kernel) ?_))))
  have hl1 : (s.set k ((g8 s k) ^^^ (g8 ks (k + 16*n)))).length = 16 := by first | (rw [List.length_set]; exact hs) | simp [hs]
  refine C2 ⟨[], [0, 1, 2, 3, 4, 5, 6, 7, 8, 9, 10, 11, 12], [], [0, 1, 2, 3, 4, 5, 6, 7, 8, 9, 10, 11, 12], [13]⟩ 13 rfl rfl (by decide +kernel) rfl ⟨AU rfl rfl rfl, AU rfl rfl rfl, ⟨_, rfl, AD rfl (A1 16 5 1 k BF AM rfl rfl (by omega) (by omega) (by omega))⟩, ⟨_, rfl, AD rfl (AL rfl (AZ BZ (AR 0 rfl (Seg.get (EC (i := k) (by rw [hs]; omega))))))⟩, AU rfl rfl rfl, AU rfl rfl rfl, ⟨_, rfl, AD rfl (AJ rfl rfl fun _ => DX _ _ (16*(n:Int)) (by omega) (by omega))⟩, AU rfl rfl rfl, ⟨_, rfl, AD rfl (AJ rfl rfl fun _ => BP _ _ ((k:Int) + 16*(n:Int)) (by omega) (by omega))⟩, ⟨_, rfl, AD rfl (ED 5 1 (k + 16*n) AK AM rfl rfl (by omega) (by omega) (by omega))⟩, ⟨_, rfl, AD rfl (AL rfl (AZ BZ (BW (hm.mem (by simp)) (Seg.get (EC (i := (k + 16*n)) (by rw [hks]; omega))) (by omega))))⟩, ⟨_, rfl, AD rfl (AJ rfl rfl fun _ => DK (g8 s k) (g8 ks (k + 16*n)))⟩, ⟨_, rfl, AD rfl (A1 16 5 1 k BF AM rfl rfl (by omega) (by omega) (by omega))⟩, trivial⟩ rfl (AW rfl (CN 0 nb1 k 1 (cu8 s) 27 (U8 ((g8 s k) ^^^ (g8 ks (k + 16*n)))) ([U8 ((g8 s k) ^^^ (g8 ks (k + 16*n)))]) (cu8 (s.set k ((g8 s k) ^^^ (g8 ks (k + 16*n))))) rfl rfl rfl rfl AM rfl (by simp [Value.oneCell']) (by simp [hs]; try omega) (lay8 _ _ _ (by rw [hs]; omega)))) ?_
  show DP _ _ _ _ _ _ _ _ [⟨nb1, cu8 (s.set k ((g8 s k) ^^^ (g8 ks (k + 16*n)))), 27, (0, 0)⟩, _]
  refine DE ⟨[13], [0, 1, 2, 3, 4, 5, 6, 7, 8, 9, 10, 11, 12], [0, 1, 2, 3, 4, 5, 6, 7, 8, 9, 10, 11, 12], [], []⟩ rfl rfl (by decide +kernel) rfl trivial ?_
  refine CC (F' := [(12, I64 k), (13, I64 k), (14, Ptr nb1 k), (15, U8 (g8 s k)), (16, Slc c 0 176 cap), (17, I64 n), (18, I64 (16*(n:Int))), (19, I64 k), (20, I64 ((k:Int) + 16*(n:Int))), (21, Ptr c (k + 16*n)), (22, U8 (g8 ks (k + 16*n))), (23, U8 ((g8 s k) ^^^ (g8 ks (k + 16*n)))), (24, Ptr nb1 k), (1, Slc c 0 176 cap), (2, I64 n), (3, Ptr nb1 0), (6, Ptr nb2 0), (7, I64 k), (8, I64 k), (9, .bool (decide (((k:Int)) < (16:Int))))]) (by kernel_rfl) ?_
  refine A5 (AC (AB (AA _ (AG rfl) rfl ?_)))
  refine AA (I64 ((k:Int) + 1)) (AJ rfl rfl fun _ => BP _ _ ((k:Int) + 1) (by omega) (by omega)) rfl ?_
  refine AA _ (AE rfl) rfl ?_
  refine AI (B6 (DN (k + 1, s.set k ((g8 s k) ^^^ (g8 ks (k + 16*n)))) ⟨by omega, by rw [raddN, ← hx2], hl1⟩ (by first | (simp; omega) | simp | (dsimp only; omega) | omega) (Sub.all rfl) rfl))
 ·
  have hp1 : ¬ (((k:Int)) < (16:Int)) := of_decide_eq_false hb1
  refine DA (AQ (AQ (BV (AC (AF (AB (AA (.agg (cu8 s).toArray) (AL rfl (BH BM AT (A8 hs) (AR 0 rfl (AN _)))) rfl ?_)))))))
  refine A0 (AX 1 nb2 16 (cu8 (zr8 16)) 27 (cu8 s) rfl rfl rfl AT (A8 hs) (by first | exact CD | exact CS | exact CR | (simp [cu8, cu32, cu64, Value.oneCell']; done)) (by simp [(AP 16)]) (A6 (by simp [(AP 16), hs]))) rfl ?_
  show JL _ _ _ _ _ [_, ⟨nb2, cu8 s, 27, (0, 0)⟩]
  refine AI (AC (BO (BQ (.agg (cu8 s).toArray) (res1 Tryd.results212 (DY rfl (BH BM AT (A8 hs) (AR 1 rfl (AN _))))) fun w1 hw1 => ?_)))
  have e1 : k = 16 := by omega
  subst e1
  rw [show s = raddL ks n b from by rw [raddL]; exact hx2]
  exact ⟨_, [], rfl, ⟨rfl, rfl⟩, hw1.sub (by simp) (by simp)⟩
theorem renc_c (b ks : List UInt8) (c cap : Nat) (w : World) (hb : b.length = 16) (hks : ks.length = 176) (hm : RdA w c 0 (cu8 ks)) : Calls Tryd.prog 205 #[Slc c 0 176 cap, .agg (cu8 b).toArray] w (Post w [] (fun v L => v = .agg (cu8 (rencL ks b)).toArray ∧ L = [])) := by
 refine enter w [] 135 [] [Slc c 0 176 cap, .agg (cu8 b).toArray] Tryd.func205 rfl rfl (by simp) (BR (by simp) (by simp) (by simp)) ?_
 show JC _ _ _ [(0, Slc c 0 176 cap), (1, .agg (cu8 b).toArray)] _
 refine AF (AB (AV (CG (.agg (cu8 b).toArray) (cu8 b) rfl (by first | rfl | simp)) rfl ?_))
 rintro v1 L1 ⟨nb1, hnb1, rfl, rfl⟩
 show JL _ _ _ _ ((3, Ptr nb1 0) :: _) [⟨nb1, cu8 b, 27, (0, 0)⟩]
 refine AV (A7 _ (cu8 (zr8 16)) DF (by kernel_rfl)) rfl ?_
 rintro v1 L1 ⟨nb2, hnb2, rfl, rfl⟩
 show JL _ _ _ _ ((4, Ptr nb2 0) :: _) [_, ⟨nb2, cu8 (zr8 16), 27, (0, 0)⟩]
 refine AI (AC (AF (AB (AA (.agg (cu8 b).toArray) (AL rfl (BH BM AT (A8 hb) (AR 0 rfl (AN _)))) rfl ?_))))
 refine AA _ (AG rfl) rfl ?_
 refine A0 (AY 212 [.agg (cu8 b).toArray, Slc c 0 176 cap, I64 0] (.agg (cu8 (raddL ks 0 b)).toArray) (A4 _ Tryd.call212 rfl) (fun w1 hw1 => radd_c b ks c cap 0 w1 hb hks (by omega) (RdA.of hw1 (BW (hm.mem (by simp)) (AN _) (by omega)) (by simp [hks])))) rfl ?_
 show JL _ _ _ _ ((17, .agg (cu8 (raddL ks 0 b)).toArray) :: _) [_, _]
 refine AV (A7 _ (cu8 (zr8 16)) DF (by kernel_rfl)) rfl ?_
 rintro v1 L1 ⟨nb3, hnb3, rfl, rfl⟩
 show JL _ _ _ _ ((5, Ptr nb3 0) :: _) [_, _, ⟨nb3, cu8 (zr8 16), 27, (0, 0)⟩]
 refine A0 (AX 2 nb3 16 (cu8 (zr8 16)) 27 (cu8 (raddL ks 0 b)) rfl rfl rfl AT (A8 (FW hb)) (by first | exact CD | exact CS | exact CR | (simp [cu8, cu32, cu64, Value.oneCell']; done)) (by simp [(AP 16)]) (A6 (by simp [(AP 16), (FW hb)]))) rfl ?_
 show JL _ _ _ _ _ [_, _, ⟨nb3, cu8 (raddL ks 0 b), 27, (0, 0)⟩]
 refine AI (AC (AF (AF (AB (AA _ (AE rfl) rfl ?_)))))
 refine AI (AC (A9 (CA [false, true, true] ?_)))
 show JC _ _ _ _ [_, _]
 refine DI (ι := Nat × List UInt8) (fun ⟨n, s⟩ => [(0, Slc c 0 176 cap), (4, Ptr nb2 0), (5, Ptr nb3 0), (6, I64 n)]) (fun ⟨n, s⟩ => [⟨nb2, cu8 (zr8 16), 27, (0, 0)⟩, ⟨nb3, cu8 s, 27, (0, 0)⟩]) (fun ⟨n, s⟩ => 1 ≤ n ∧ n ≤ 11 ∧ s = rencN ks b (n - 1) ∧ s.length = 16) (fun ⟨n, s⟩ => 11 - n) (1, raddL ks 0 b) ⟨by omega, by omega, rfl, FW hb⟩ (Sub.all rfl) rfl ?_
 rintro ⟨n, s⟩ ⟨hx1, hx2, hx3, hs⟩
 show JC _ _ _ [(0, Slc c 0 176 cap), (4, Ptr nb2 0), (5, Ptr nb3 0), (6, I64 n)] [⟨nb2, cu8 (zr8 16), 27, (0, 0)⟩, ⟨nb3, cu8 s, 27, (0, 0)⟩]
 refine AF (AF (AB (AA _ (AG rfl) rfl ?_)))
 refine AA (.bool (decide (((n:Int)) ≤ (10:Int)))) (AJ rfl rfl fun _ => bin_leq_i _ _) rfl ?_
 refine AI (AC (B5 (decide (((n:Int)) ≤ (10:Int))) rfl (fun hb1 => ?_) (fun hb1 => ?_)))
 ·
  have hp1 : ((n:Int)) ≤ (10:Int) := of_decide_eq_true hb1
  refine BJ (AC (AF (A9 (AF (AB (AV (A7 _ (cu8 (zr8 16)) DF (by kernel_rfl)) rfl ?_))))))
  rintro v1 L1 ⟨nb4, hnb4, rfl, rfl⟩
  show JL _ _ _ _ ((7, Ptr nb4 0) :: _) [_, _, ⟨nb4, cu8 (zr8 16), 27, (0, 0)⟩]
  refine AI (AC (AF (AF (AB (AA _ (AE rfl) rfl ?_)))))
  refine AI (AC (A9 (DI (ι := Nat × List UInt8) (fun ⟨cc, t⟩ => [(0, Slc c 0 176 cap), (4, Ptr nb2 0), (5, Ptr nb3 0), (6, I64 n), (7, Ptr nb4 0), (18, I64 n), (19, .bool (decide (((n:Int)) ≤ (10:Int)))), (8, I64 cc)]) (fun ⟨cc, t⟩ => [⟨nb2, cu8 (zr8 16), 27, (0, 0)⟩, ⟨nb3, cu8 s, 27, (0, 0)⟩, ⟨nb4, cu8 t, 27, (0, 0)⟩]) (fun ⟨cc, t⟩ => cc ≤ 4 ∧ t = rshN s cc ∧ t.length = 16) (fun ⟨cc, t⟩ => 4 - cc) (0, zr8 16) ⟨by omega, by rw [rshN], AP 16⟩ (Sub.all rfl) rfl ?_)))
  rintro ⟨cc, t⟩ ⟨hy1, hy2, ht⟩
  show JC _ _ _ [(0, Slc c 0 176 cap), (4, Ptr nb2 0), (5, Ptr nb3 0), (6, I64 n), (7, Ptr nb4 0), (18, I64 n), (19, .bool (decide (((n:Int)) ≤ (10:Int)))), (8, I64 cc)] [⟨nb2, cu8 (zr8 16), 27, (0, 0)⟩, ⟨nb3, cu8 s, 27, (0, 0)⟩, ⟨nb4, cu8 t, 27, (0, 0)⟩]
  refine AF (AF (AB (AA _ (AG rfl) rfl ?_)))
  refine AA (.bool (decide (((cc:Int)) < (4:Int)))) (AJ rfl rfl fun _ => B9 _ _) rfl ?_
  refine AI (AC (B5 (decide (((cc:Int)) < (4:Int))) rfl (fun hb2 => ?_) (fun hb2 => ?_)))
  ·
   have hp2 : ((cc:Int)) < (4:Int) := of_decide_eq_true hb2
   refine BJ (AC (AF (A9 (AF (AB (AA _ (AE rfl) rfl ?_))))))
   refine AI (AC (A9 (DI (ι := Nat × List UInt8) (fun ⟨r, u⟩ => [(0, Slc c 0 176 cap), (4, Ptr nb2 0), (5, Ptr nb3 0), (6, I64 n), (7, Ptr nb4 0), (8, I64 cc), (18, I64 n), (19, .bool (decide (((n:Int)) ≤ (10:Int)))), (22, I64 cc), (23, .bool (decide (((cc:Int)) < (4:Int)))), (9, I64 r)]) (fun ⟨r, u⟩ => [⟨nb2, cu8 (zr8 16), 27, (0, 0)⟩, ⟨nb3, cu8 s, 27, (0, 0)⟩, ⟨nb4, cu8 u, 27, (0, 0)⟩]) (fun ⟨r, u⟩ => r ≤ 4 ∧ u = rshIn s t cc r ∧ u.length = 16) (fun ⟨r, u⟩ => 4 - r) (0, t) ⟨by omega, by rw [rshIn], ht⟩ (Sub.all rfl) rfl ?_)))
   rintro ⟨r, u⟩ ⟨hz1, hz2, hu⟩
   show JC _ _ _ [(0, Slc c 0 176 cap), (4, Ptr nb2 0), (5, Ptr nb3 0), (6, I64 n), (7, Ptr nb4 0), (8, I64 cc), (18, I64 n), (19, .bool (decide (((n:Int)) ≤ (10:Int)))), (22, I64 cc), (23, .bool (decide (((cc:Int)) < (4:Int)))), (9, I64 r)] [⟨nb2, cu8 (zr8 16), 27, (0, 0)⟩, ⟨nb3, cu8 s, 27, (0, 0)⟩, ⟨nb4, cu8 u, 27, (0, 0)⟩]
   refine AF (AF (AB (AA _ (AG rfl) rfl ?_)))
   refine AA (.bool (decide (((r:Int)) < (4:Int)))) (AJ rfl rfl fun _ => B9 _ _) rfl ?_
   refine AI (AC (B5 (decide (((r:Int)) < (4:Int))) rfl (fun hb3 => ?_) (fun hb3 => ?_)))
   ·
    have hp3 : ((r:Int)) < (4:Int) := of_decide_eq_true hb3
    refine BJ (AC (AF (A9 (AB (AA _ (AG rfl) rfl ?_)))))
    refine AA (I64 (4*(cc:Int))) (AJ rfl rfl fun _ => DX _ _ (4*(cc:Int)) (by omega) (by omega)) rfl ?_
    refine AA _ (AG rfl) rfl ?_
    refine AA (I64 (4*(cc:Int) + (r:Int))) (AJ rfl rfl fun _ => BP _ _ (4*(cc:Int) + (r:Int)) (by omega) (by omega)) rfl ?_
    refine AA _ (AG rfl) rfl ?_
    refine AA _ (AG rfl) rfl ?_
    refine AA (I64 ((cc:Int) + (r:Int))) (AJ rfl rfl fun _ => BP _ _ ((cc:Int) + (r:Int)) (by omega) (by omega)) rfl ?_
    obtain ⟨dq1, hdq1, hdq1a, hdq1b⟩ : ∃ q : Nat, q = (cc + r) % 4 ∧ (q : Int) = ((cc:Int) + (r:Int)) % 4 ∧ (q < 4) := ⟨_, rfl, by first | rfl | omega, by omega⟩
    refine AA (I64 dq1) (AJ rfl rfl fun _ => F3 _ _ ((dq1:Int)) (by omega) (by omega) (by omega)) rfl ?_
    refine AA (I64 (4*(dq1:Int))) (AJ rfl rfl fun _ => DX _ _ (4*(dq1:Int)) (by omega) (by omega)) rfl ?_
    refine AA _ (AG rfl) rfl ?_
    refine AA (I64 (4*(dq1:Int) + (r:Int))) (AJ rfl rfl fun _ => BP _ _ (4*(dq1:Int) + (r:Int)) (by omega) (by omega)) rfl ?_
    refine AA (Ptr nb3 (4*dq1 + r)) (A1 16 5 1 (4*dq1 + r) BF AM rfl rfl (by omega) (by omega) (by omega)) rfl ?_
    refine AA (U8 (g8 s (4*dq1 + r))) (AL rfl (AZ BZ (AR 1 rfl (Seg.get (EC (i := (4*dq1 + r)) (by rw [hs]; omega)))))) rfl ?_
    refine AA (U8 (g8 subsL ((g8 s (4*dq1 + r)).toNat))) (Ev_indexStrL subsL ((g8 s (4*dq1 + r)).toNat) Tryd.underlying9 rfl rfl (by have := UInt8.toNat_lt (g8 s (4*dq1 + r)); omega) (by rw [subsL_len]; have := UInt8.toNat_lt (g8 s (4*dq1 + r)); omega)) rfl ?_
    refine AA (Ptr nb4 (4*cc + r)) (A1 16 5 1 (4*cc + r) BF AM rfl rfl (by omega) (by omega) (by omega)) rfl ?_
    have hl1 : (u.set (4*cc + r) (g8 subsL ((g8 s (4*dq1 + r)).toNat))).length = 16 := by first | (rw [List.length_set]; exact hu) | simp [hu]
    refine A0 (CN 2 nb4 (4*cc + r) 1 (cu8 u) 27 (U8 (g8 subsL ((g8 s (4*dq1 + r)).toNat))) ([U8 (g8 subsL ((g8 s (4*dq1 + r)).toNat))]) (cu8 (u.set (4*cc + r) (g8 subsL ((g8 s (4*dq1 + r)).toNat)))) rfl rfl rfl rfl AM rfl (by simp [Value.oneCell']) (by simp [hu]; try omega) (lay8 _ _ _ (by rw [hu]; omega))) rfl ?_
    show JL _ _ _ _ _ [_, _, ⟨nb4, cu8 (u.set (4*cc + r) (g8 subsL ((g8 s (4*dq1 + r)).toNat))), 27, (0, 0)⟩]
    refine AI (A5 (AC (AB (AA _ (AG rfl) rfl ?_))))
    refine AA (I64 ((r:Int) + 1)) (AJ rfl rfl fun _ => BP _ _ ((r:Int) + 1) (by omega) (by omega)) rfl ?_
    refine AA _ (AE rfl) rfl ?_
    refine AI (B6 (DN (r + 1, u.set (4*cc + r) (g8 subsL ((g8 s (4*dq1 + r)).toNat))) ⟨by omega, by (try subst hdq1); rw [rshIn, ← hz2], hl1⟩ (by first | (simp; omega) | simp | (dsimp only; omega) | omega) (Sub.all rfl) rfl))
   ·
    have hp3 : ¬ (((r:Int)) < (4:Int)) := of_decide_eq_false hb3
    refine DA (AQ (AQ (BV (A5 (AC (AB (AA _ (AG rfl) rfl ?_)))))))
    refine AA (I64 ((cc:Int) + 1)) (AJ rfl rfl fun _ => BP _ _ ((cc:Int) + 1) (by omega) (by omega)) rfl ?_
    refine AA _ (AE rfl) rfl ?_
    refine AI (B6 (DN (cc + 1, u) ⟨by omega, by rw [rshN, ← hy2, hz2, show r = 4 from by omega], hu⟩ (by first | (simp; omega) | simp | (dsimp only; omega) | omega) (Sub.all rfl) rfl))
  ·
   have hp2 : ¬ (((cc:Int)) < (4:Int)) := of_decide_eq_false hb2
   refine DA (AQ (AQ (BV (AC (AF (AB (AA (.agg (cu8 t).toArray) (AL rfl (BH BM AT (A8 ht) (AR 2 rfl (AN _)))) rfl ?_)))))))
   refine A0 (AX 1 nb3 16 (cu8 s) 27 (cu8 t) rfl rfl rfl AT (A8 ht) (by first | exact CD | exact CS | exact CR | (simp [cu8, cu32, cu64, Value.oneCell']; done)) (by simp [hs]) (A6 (by simp [hs, ht]))) rfl ?_
   show JL _ _ _ _ _ [_, ⟨nb3, cu8 t, 27, (0, 0)⟩, _]
   refine AI (AC (AF (AF (AB (AA _ (AG rfl) rfl ?_)))))
   refine AA (.bool (decide (((n:Int)) < (10:Int)))) (AJ rfl rfl fun _ => B9 _ _) rfl ?_
   refine AI (AC (B5 (decide (((n:Int)) < (10:Int))) rfl (fun hb4 => ?_) (fun hb4 => ?_)))
   ·
    have hp4 : ((n:Int)) < (10:Int) := of_decide_eq_true hb4
    refine AF (AB (AA _ (AE rfl) rfl ?_))
    refine AI (AC (A9 (DI (ι := Nat × List UInt8) (fun ⟨d, m⟩ => [(0, Slc c 0 176 cap), (4, Ptr nb2 0), (5, Ptr nb3 0), (6, I64 n), (7, Ptr nb4 0), (8, I64 cc), (18, I64 n), (19, .bool (decide (((n:Int)) ≤ (10:Int)))), (22, I64 cc), (23, .bool (decide (((cc:Int)) < (4:Int)))), (45, .agg (cu8 t).toArray), (46, I64 n), (47, .bool (decide (((n:Int)) < (10:Int)))), (10, I64 d)]) (fun ⟨d, m⟩ => [⟨nb2, cu8 (zr8 16), 27, (0, 0)⟩, ⟨nb3, cu8 m, 27, (0, 0)⟩, ⟨nb4, cu8 t, 27, (0, 0)⟩]) (fun ⟨d, m⟩ => d ≤ 4 ∧ m = rmxN t d ∧ m.length = 16) (fun ⟨d, m⟩ => 4 - d) (0, t) ⟨by omega, by rw [rmxN], ht⟩ (Sub.all rfl) rfl ?_)))
    rintro ⟨d, m⟩ ⟨hv1, hv2, hm2⟩
    show JC _ _ _ [(0, Slc c 0 176 cap), (4, Ptr nb2 0), (5, Ptr nb3 0), (6, I64 n), (7, Ptr nb4 0), (8, I64 cc), (18, I64 n), (19, .bool (decide (((n:Int)) ≤ (10:Int)))), (22, I64 cc), (23, .bool (decide (((cc:Int)) < (4:Int)))), (45, .agg (cu8 t).toArray), (46, I64 n), (47, .bool (decide (((n:Int)) < (10:Int)))), (10, I64 d)] [⟨nb2, cu8 (zr8 16), 27, (0, 0)⟩, ⟨nb3, cu8 m, 27, (0, 0)⟩, ⟨nb4, cu8 t, 27, (0, 0)⟩]
    refine AF (AF (AB (AA _ (AG rfl) rfl ?_)))
    refine AA (.bool (decide (((d:Int)) < (4:Int)))) (AJ rfl rfl fun _ => B9 _ _) rfl ?_
    refine AI (AC (B5 (decide (((d:Int)) < (4:Int))) rfl (fun hb5 => ?_) (fun hb5 => ?_)))
    ·
     have hp5 : ((d:Int)) < (4:Int) := of_decide_eq_true hb5
     refine BJ (AC (AF (A9 (AF (CT 135 1 [(0, I64 d), (1, I64 (4*(d:Int))), (2, Ptr nb4 (4*d)), (3, U8 (g8 t (4*d))), (4, I64 d), (5, I64 (4*(d:Int))), (6, I64 (4*(d:Int) + 1)), (7, Ptr nb4 (4*d + 1)), (8, U8 (g8 t (4*d + 1))), (9, I64 d), (10, I64 (4*(d:Int))), (11, I64 (4*(d:Int) + 2)), (12, Ptr nb4 (4*d + 2)), (13, U8 (g8 t (4*d + 2))), (14, I64 d), (15, I64 (4*(d:Int))), (16, I64 (4*(d:Int) + 3)), (17, Ptr nb4 (4*d + 3)), (18, U8 (g8 t (4*d + 3))), (19, U8 (g8 t (4*d))), (20, U8 (g8 t (4*d + 1))), (21, U8 (g8 t (4*d + 2))), (22, U8 (g8 t (4*d + 3)))] BL rfl (by decide +kernel) ?_)))))
     refine DE ⟨[], [0, 1, 2, 3, 4, 5, 6, 7, 8, 9, 10, 11, 12, 13, 14, 15, 16, 17, 18, 19, 20, 21, 22], [], [0, 1, 2, 3, 4, 5, 6, 7, 8, 9, 10, 11, 12, 13, 14, 15, 16, 17, 18, 19, 20, 21, 22], []⟩ rfl rfl (by decide +kernel) rfl ⟨AU rfl rfl rfl, ⟨_, rfl, AD rfl (AJ rfl rfl fun _ => DX _ _ (4*(d:Int)) (by omega) (by omega))⟩, ⟨_, rfl, AD rfl (A1 16 5 1 (4*d) BF AM rfl rfl (by omega) (by omega) (by omega))⟩, ⟨_, rfl, AD rfl (AL rfl (AZ BZ (AR 2 rfl (Seg.get (EC (i := (4*d)) (by rw [ht]; omega))))))⟩, AU rfl rfl rfl, ⟨_, rfl, AD rfl (AJ rfl rfl fun _ => DX _ _ (4*(d:Int)) (by omega) (by omega))⟩, ⟨_, rfl, AD rfl (AJ rfl rfl fun _ => BP _ _ (4*(d:Int) + 1) (by omega) (by omega))⟩, ⟨_, rfl, AD rfl (A1 16 5 1 (4*d + 1) BF AM rfl rfl (by omega) (by omega) (by omega))⟩, ⟨_, rfl, AD rfl (AL rfl (AZ BZ (AR 2 rfl (Seg.get (EC (i := (4*d + 1)) (by rw [ht]; omega))))))⟩, AU rfl rfl rfl, ⟨_, rfl, AD rfl (AJ rfl rfl fun _ => DX _ _ (4*(d:Int)) (by omega) (by omega))⟩, ⟨_, rfl, AD rfl (AJ rfl rfl fun _ => BP _ _ (4*(d:Int) + 2) (by omega) (by omega))⟩, ⟨_, rfl, AD rfl (A1 16 5 1 (4*d + 2) BF AM rfl rfl (by omega) (by omega) (by omega))⟩, ⟨_, rfl, AD rfl (AL rfl (AZ BZ (AR 2 rfl (Seg.get (EC (i := (4*d + 2)) (by rw [ht]; omega))))))⟩, AU rfl rfl rfl, ⟨_, rfl, AD rfl (AJ rfl rfl fun _ => DX _ _ (4*(d:Int)) (by omega) (by omega))⟩, ⟨_, rfl, AD rfl (AJ rfl rfl fun _ => BP _ _ (4*(d:Int) + 3) (by omega) (by omega))⟩, ⟨_, rfl, AD rfl (A1 16 5 1 (4*d + 3) BF AM rfl rfl (by omega) (by omega) (by omega))⟩, ⟨_, rfl, AD rfl (AL rfl (AZ BZ (AR 2 rfl (Seg.get (EC (i := (4*d + 3)) (by rw [ht]; omega))))))⟩, ⟨_, rfl, AD rfl (AE rfl)⟩, ⟨_, rfl, AD rfl (AE rfl)⟩, ⟨_, rfl, AD rfl (AE rfl)⟩, ⟨_, rfl, AD rfl (AE rfl)⟩, trivial⟩ ?_
     refine CC (F' := [(52, I64 d), (53, I64 (4*(d:Int))), (54, Ptr nb4 (4*d)), (55, U8 (g8 t (4*d))), (56, I64 d), (57, I64 (4*(d:Int))), (58, I64 (4*(d:Int) + 1)), (59, Ptr nb4 (4*d + 1)), (60, U8 (g8 t (4*d + 1))), (61, I64 d), (62, I64 (4*(d:Int))), (63, I64 (4*(d:Int) + 2)), (64, Ptr nb4 (4*d + 2)), (65, U8 (g8 t (4*d + 2))), (66, I64 d), (67, I64 (4*(d:Int))), (68, I64 (4*(d:Int) + 3)), (69, Ptr nb4 (4*d + 3)), (70, U8 (g8 t (4*d + 3))), (11, U8 (g8 t (4*d))), (12, U8 (g8 t (4*d + 1))), (13, U8 (g8 t (4*d + 2))), (14, U8 (g8 t (4*d + 3))), (0, Slc c 0 176 cap), (4, Ptr nb2 0), (5, Ptr nb3 0), (6, I64 n), (7, Ptr nb4 0), (8, I64 cc), (18, I64 n), (19, .bool (decide (((n:Int)) ≤ (10:Int)))), (22, I64 cc), (23, .bool (decide (((cc:Int)) < (4:Int)))), (45, .agg (cu8 t).toArray), (46, I64 n), (47, .bool (decide (((n:Int)) < (10:Int)))), (10, I64 d), (48, I64 d), (49, .bool (decide (((d:Int)) < (4:Int))))]) (by kernel_rfl) ?_
     refine AC (AF (AB (AA _ (AG rfl) rfl ?_)))
     refine AA (I64 (4*(d:Int))) (AJ rfl rfl fun _ => DX _ _ (4*(d:Int)) (by omega) (by omega)) rfl ?_
     refine AA _ (AG rfl) rfl ?_
     refine A0 (AY 199 [U8 (g8 t (4*d))] (U8 (rdbl (g8 t (4*d)))) (A4 _ Tryd.call199 rfl) (fun w1 _ => GS (g8 t (4*d)) w1)) rfl ?_
     show JL _ _ _ _ ((74, U8 (rdbl (g8 t (4*d)))) :: _) [_, _, _]
     refine AA _ (AG rfl) rfl ?_
     refine A0 (AY 199 [U8 (g8 t (4*d + 1))] (U8 (rdbl (g8 t (4*d + 1)))) (A4 _ Tryd.call199 rfl) (fun w1 _ => GS (g8 t (4*d + 1)) w1)) rfl ?_
     show JL _ _ _ _ ((76, U8 (rdbl (g8 t (4*d + 1)))) :: _) [_, _, _]
     refine AA (U8 ((rdbl (g8 t (4*d))) ^^^ (rdbl (g8 t (4*d + 1))))) (AJ rfl rfl fun _ => DK (rdbl (g8 t (4*d))) (rdbl (g8 t (4*d + 1)))) rfl ?_
     refine AA _ (AG rfl) rfl ?_
     refine AA (U8 (((rdbl (g8 t (4*d))) ^^^ (rdbl (g8 t (4*d + 1)))) ^^^ (g8 t (4*d + 1)))) (AJ rfl rfl fun _ => DK ((rdbl (g8 t (4*d))) ^^^ (rdbl (g8 t (4*d + 1)))) (g8 t (4*d + 1))) rfl ?_
     refine AA _ (AG rfl) rfl ?_
     refine AA (U8 ((((rdbl (g8 t (4*d))) ^^^ (rdbl (g8 t (4*d + 1)))) ^^^ (g8 t (4*d + 1))) ^^^ (g8 t (4*d + 2)))) (AJ rfl rfl fun _ => DK (((rdbl (g8 t (4*d))) ^^^ (rdbl (g8 t (4*d + 1)))) ^^^ (g8 t (4*d + 1))) (g8 t (4*d + 2))) rfl ?_
     refine AA _ (AG rfl) rfl ?_
     refine AA (U8 (((((rdbl (g8 t (4*d))) ^^^ (rdbl (g8 t (4*d + 1)))) ^^^ (g8 t (4*d + 1))) ^^^ (g8 t (4*d + 2))) ^^^ (g8 t (4*d + 3)))) (AJ rfl rfl fun _ => DK ((((rdbl (g8 t (4*d))) ^^^ (rdbl (g8 t (4*d + 1)))) ^^^ (g8 t (4*d + 1))) ^^^ (g8 t (4*d + 2))) (g8 t (4*d + 3))) rfl ?_
     refine AA (Ptr nb3 (4*d)) (A1 16 5 1 (4*d) BF AM rfl rfl (by omega) (by omega) (by omega)) rfl ?_
     have hl2 : (m.set (4*d) (((((rdbl (g8 t (4*d))) ^^^ (rdbl (g8 t (4*d + 1)))) ^^^ (g8 t (4*d + 1))) ^^^ (g8 t (4*d + 2))) ^^^ (g8 t (4*d + 3)))).length = 16 := by first | (rw [List.length_set]; exact hm2) | simp [hm2]
     refine A0 (CN 1 nb3 (4*d) 1 (cu8 m) 27 (U8 (((((rdbl (g8 t (4*d))) ^^^ (rdbl (g8 t (4*d + 1)))) ^^^ (g8 t (4*d + 1))) ^^^ (g8 t (4*d + 2))) ^^^ (g8 t (4*d + 3)))) ([U8 (((((rdbl (g8 t (4*d))) ^^^ (rdbl (g8 t (4*d + 1)))) ^^^ (g8 t (4*d + 1))) ^^^ (g8 t (4*d + 2))) ^^^ (g8 t (4*d + 3)))]) (cu8 (m.set (4*d) (((((rdbl (g8 t (4*d))) ^^^ (rdbl (g8 t (4*d + 1)))) ^^^ (g8 t (4*d + 1))) ^^^ (g8 t (4*d + 2))) ^^^ (g8 t (4*d + 3))))) rfl rfl rfl rfl AM rfl (by simp [Value.oneCell']) (by simp [hm2]; try omega) (lay8 _ _ _ (by rw [hm2]; omega))) rfl ?_
     show JL _ _ _ _ _ [_, ⟨nb3, cu8 (m.set (4*d) (((((rdbl (g8 t (4*d))) ^^^ (rdbl (g8 t (4*d + 1)))) ^^^ (g8 t (4*d + 1))) ^^^ (g8 t (4*d + 2))) ^^^ (g8 t (4*d + 3)))), 27, (0, 0)⟩, _]
     refine AI (AC (AF (AB (AA _ (AG rfl) rfl ?_))))
     refine AA (I64 (4*(d:Int))) (AJ rfl rfl fun _ => DX _ _ (4*(d:Int)) (by omega) (by omega)) rfl ?_
     refine AA (I64 (4*(d:Int) + 1)) (AJ rfl rfl fun _ => BP _ _ (4*(d:Int) + 1) (by omega) (by omega)) rfl ?_
     refine AA _ (AG rfl) rfl ?_
     refine AA _ (AG rfl) rfl ?_
     refine A0 (AY 199 [U8 (g8 t (4*d + 1))] (U8 (rdbl (g8 t (4*d + 1)))) (A4 _ Tryd.call199 rfl) (fun w1 _ => GS (g8 t (4*d + 1)) w1)) rfl ?_
     show JL _ _ _ _ ((90, U8 (rdbl (g8 t (4*d + 1)))) :: _) [_, _, _]
     refine AA (U8 ((g8 t (4*d)) ^^^ (rdbl (g8 t (4*d + 1))))) (AJ rfl rfl fun _ => DK (g8 t (4*d)) (rdbl (g8 t (4*d + 1)))) rfl ?_
     refine AA _ (AG rfl) rfl ?_
     refine A0 (AY 199 [U8 (g8 t (4*d + 2))] (U8 (rdbl (g8 t (4*d + 2)))) (A4 _ Tryd.call199 rfl) (fun w1 _ => GS (g8 t (4*d + 2)) w1)) rfl ?_
     show JL _ _ _ _ ((93, U8 (rdbl (g8 t (4*d + 2)))) :: _) [_, _, _]
     refine AA (U8 (((g8 t (4*d)) ^^^ (rdbl (g8 t (4*d + 1)))) ^^^ (rdbl (g8 t (4*d + 2))))) (AJ rfl rfl fun _ => DK ((g8 t (4*d)) ^^^ (rdbl (g8 t (4*d + 1)))) (rdbl (g8 t (4*d + 2)))) rfl ?_
     refine AA _ (AG rfl) rfl ?_
     refine AA (U8 ((((g8 t (4*d)) ^^^ (rdbl (g8 t (4*d + 1)))) ^^^ (rdbl (g8 t (4*d + 2)))) ^^^ (g8 t (4*d + 2)))) (AJ rfl rfl fun _ => DK (((g8 t (4*d)) ^^^ (rdbl (g8 t (4*d + 1)))) ^^^ (rdbl (g8 t (4*d + 2)))) (g8 t (4*d + 2))) rfl ?_
     refine AA _ (AG rfl) rfl ?_
     refine AA (U8 (((((g8 t (4*d)) ^^^ (rdbl (g8 t (4*d + 1)))) ^^^ (rdbl (g8 t (4*d + 2)))) ^^^ (g8 t (4*d + 2))) ^^^ (g8 t (4*d + 3)))) (AJ rfl rfl fun _ => DK ((((g8 t (4*d)) ^^^ (rdbl (g8 t (4*d + 1)))) ^^^ (rdbl (g8 t (4*d + 2)))) ^^^ (g8 t (4*d + 2))) (g8 t (4*d + 3))) rfl ?_
     refine AA (Ptr nb3 (4*d + 1)) (A1 16 5 1 (4*d + 1) BF AM rfl rfl (by omega) (by omega) (by omega)) rfl ?_
     have hl3 : ((m.set (4*d) (((((rdbl (g8 t (4*d))) ^^^ (rdbl (g8 t (4*d + 1)))) ^^^ (g8 t (4*d + 1))) ^^^ (g8 t (4*d + 2))) ^^^ (g8 t (4*d + 3)))).set (4*d + 1) (((((g8 t (4*d)) ^^^ (rdbl (g8 t (4*d + 1)))) ^^^ (rdbl (g8 t (4*d + 2)))) ^^^ (g8 t (4*d + 2))) ^^^ (g8 t (4*d + 3)))).length = 16 := by first | (rw [List.length_set]; exact hl2) | simp [hl2]
     refine A0 (CN 1 nb3 (4*d + 1) 1 (cu8 (m.set (4*d) (((((rdbl (g8 t (4*d))) ^^^ (rdbl (g8 t (4*d + 1)))) ^^^ (g8 t (4*d + 1))) ^^^ (g8 t (4*d + 2))) ^^^ (g8 t (4*d + 3))))) 27 (U8 (((((g8 t (4*d)) ^^^ (rdbl (g8 t (4*d + 1)))) ^^^ (rdbl (g8 t (4*d + 2)))) ^^^ (g8 t (4*d + 2))) ^^^ (g8 t (4*d + 3)))) ([U8 (((((g8 t (4*d)) ^^^ (rdbl (g8 t (4*d + 1)))) ^^^ (rdbl (g8 t (4*d + 2)))) ^^^ (g8 t (4*d + 2))) ^^^ (g8 t (4*d + 3)))]) (cu8 ((m.set (4*d) (((((rdbl (g8 t (4*d))) ^^^ (rdbl (g8 t (4*d + 1)))) ^^^ (g8 t (4*d + 1))) ^^^ (g8 t (4*d + 2))) ^^^ (g8 t (4*d + 3)))).set (4*d + 1) (((((g8 t (4*d)) ^^^ (rdbl (g8 t (4*d + 1)))) ^^^ (rdbl (g8 t (4*d + 2)))) ^^^ (g8 t (4*d + 2))) ^^^ (g8 t (4*d + 3))))) rfl rfl rfl rfl AM rfl (by simp [Value.oneCell']) (by simp [hl2]; try omega) (lay8 _ _ _ (by rw [hl2]; omega))) rfl ?_
     show JL _ _ _ _ _ [_, ⟨nb3, cu8 ((m.set (4*d) (((((rdbl (g8 t (4*d))) ^^^ (rdbl (g8 t (4*d + 1)))) ^^^ (g8 t (4*d + 1))) ^^^ (g8 t (4*d + 2))) ^^^ (g8 t (4*d + 3)))).set (4*d + 1) (((((g8 t (4*d)) ^^^ (rdbl (g8 t (4*d + 1)))) ^^^ (rdbl (g8 t (4*d + 2)))) ^^^ (g8 t (4*d + 2))) ^^^ (g8 t (4*d + 3)))), 27, (0, 0)⟩, _]
     refine AI (AC (AF (AB (AA _ (AG rfl) rfl ?_))))
     refine AA (I64 (4*(d:Int))) (AJ rfl rfl fun _ => DX _ _ (4*(d:Int)) (by omega) (by omega)) rfl ?_
     refine AA (I64 (4*(d:Int) + 2)) (AJ rfl rfl fun _ => BP _ _ (4*(d:Int) + 2) (by omega) (by omega)) rfl ?_
     refine AA _ (AG rfl) rfl ?_
     refine AA _ (AG rfl) rfl ?_
     refine AA (U8 ((g8 t (4*d)) ^^^ (g8 t (4*d + 1)))) (AJ rfl rfl fun _ => DK (g8 t (4*d)) (g8 t (4*d + 1))) rfl ?_
     refine AA _ (AG rfl) rfl ?_
     refine A0 (AY 199 [U8 (g8 t (4*d + 2))] (U8 (rdbl (g8 t (4*d + 2)))) (A4 _ Tryd.call199 rfl) (fun w1 _ => GS (g8 t (4*d + 2)) w1)) rfl ?_
     show JL _ _ _ _ ((107, U8 (rdbl (g8 t (4*d + 2)))) :: _) [_, _, _]
     refine AA (U8 (((g8 t (4*d)) ^^^ (g8 t (4*d + 1))) ^^^ (rdbl (g8 t (4*d + 2))))) (AJ rfl rfl fun _ => DK ((g8 t (4*d)) ^^^ (g8 t (4*d + 1))) (rdbl (g8 t (4*d + 2)))) rfl ?_
     refine AA _ (AG rfl) rfl ?_
     refine A0 (AY 199 [U8 (g8 t (4*d + 3))] (U8 (rdbl (g8 t (4*d + 3)))) (A4 _ Tryd.call199 rfl) (fun w1 _ => GS (g8 t (4*d + 3)) w1)) rfl ?_
     show JL _ _ _ _ ((110, U8 (rdbl (g8 t (4*d + 3)))) :: _) [_, _, _]
     refine AA (U8 ((((g8 t (4*d)) ^^^ (g8 t (4*d + 1))) ^^^ (rdbl (g8 t (4*d + 2)))) ^^^ (rdbl (g8 t (4*d + 3))))) (AJ rfl rfl fun _ => DK (((g8 t (4*d)) ^^^ (g8 t (4*d + 1))) ^^^ (rdbl (g8 t (4*d + 2)))) (rdbl (g8 t (4*d + 3)))) rfl ?_
     refine AA _ (AG rfl) rfl ?_
     refine AA (U8 (((((g8 t (4*d)) ^^^ (g8 t (4*d + 1))) ^^^ (rdbl (g8 t (4*d + 2)))) ^^^ (rdbl (g8 t (4*d + 3)))) ^^^ (g8 t (4*d + 3)))) (AJ rfl rfl fun _ => DK ((((g8 t (4*d)) ^^^ (g8 t (4*d + 1))) ^^^ (rdbl (g8 t (4*d + 2)))) ^^^ (rdbl (g8 t (4*d + 3)))) (g8 t (4*d + 3))) rfl ?_
     refine AA (Ptr nb3 (4*d + 2)) (A1 16 5 1 (4*d + 2) BF AM rfl rfl (by omega) (by omega) (by omega)) rfl ?_
     have hl4 : (((m.set (4*d) (((((rdbl (g8 t (4*d))) ^^^ (rdbl (g8 t (4*d + 1)))) ^^^ (g8 t (4*d + 1))) ^^^ (g8 t (4*d + 2))) ^^^ (g8 t (4*d + 3)))).set (4*d + 1) (((((g8 t (4*d)) ^^^ (rdbl (g8 t (4*d + 1)))) ^^^ (rdbl (g8 t (4*d + 2)))) ^^^ (g8 t (4*d + 2))) ^^^ (g8 t (4*d + 3)))).set (4*d + 2) (((((g8 t (4*d)) ^^^ (g8 t (4*d + 1))) ^^^ (rdbl (g8 t (4*d + 2)))) ^^^ (rdbl (g8 t (4*d + 3)))) ^^^ (g8 t (4*d + 3)))).length = 16 := by first | (rw [List.length_set]; exact hl3) | simp [hl3]
     refine A0 (CN 1 nb3 (4*d + 2) 1 (cu8 ((m.set (4*d) (((((rdbl (g8 t (4*d))) ^^^ (rdbl (g8 t (4*d + 1)))) ^^^ (g8 t (4*d + 1))) ^^^ (g8 t (4*d + 2))) ^^^ (g8 t (4*d + 3)))).set (4*d + 1) (((((g8 t (4*d)) ^^^ (rdbl (g8 t (4*d + 1)))) ^^^ (rdbl (g8 t (4*d + 2)))) ^^^ (g8 t (4*d + 2))) ^^^ (g8 t (4*d + 3))))) 27 (U8 (((((g8 t (4*d)) ^^^ (g8 t (4*d + 1))) ^^^ (rdbl (g8 t (4*d + 2)))) ^^^ (rdbl (g8 t (4*d + 3)))) ^^^ (g8 t (4*d + 3)))) ([U8 (((((g8 t (4*d)) ^^^ (g8 t (4*d + 1))) ^^^ (rdbl (g8 t (4*d + 2)))) ^^^ (rdbl (g8 t (4*d + 3)))) ^^^ (g8 t (4*d + 3)))]) (cu8 (((m.set (4*d) (((((rdbl (g8 t (4*d))) ^^^ (rdbl (g8 t (4*d + 1)))) ^^^ (g8 t (4*d + 1))) ^^^ (g8 t (4*d + 2))) ^^^ (g8 t (4*d + 3)))).set (4*d + 1) (((((g8 t (4*d)) ^^^ (rdbl (g8 t (4*d + 1)))) ^^^ (rdbl (g8 t (4*d + 2)))) ^^^ (g8 t (4*d + 2))) ^^^ (g8 t (4*d + 3)))).set (4*d + 2) (((((g8 t (4*d)) ^^^ (g8 t (4*d + 1))) ^^^ (rdbl (g8 t (4*d + 2)))) ^^^ (rdbl (g8 t (4*d + 3)))) ^^^ (g8 t (4*d + 3))))) rfl rfl rfl rfl AM rfl (by simp [Value.oneCell']) (by simp [hl3]; try omega) (lay8 _ _ _ (by rw [hl3]; omega))) rfl ?_
     show JL _ _ _ _ _ [_, ⟨nb3, cu8 (((m.set (4*d) (((((rdbl (g8 t (4*d))) ^^^ (rdbl (g8 t (4*d + 1)))) ^^^ (g8 t (4*d + 1))) ^^^ (g8 t (4*d + 2))) ^^^ (g8 t (4*d + 3)))).set (4*d + 1) (((((g8 t (4*d)) ^^^ (rdbl (g8 t (4*d + 1)))) ^^^ (rdbl (g8 t (4*d + 2)))) ^^^ (g8 t (4*d + 2))) ^^^ (g8 t (4*d + 3)))).set (4*d + 2) (((((g8 t (4*d)) ^^^ (g8 t (4*d + 1))) ^^^ (rdbl (g8 t (4*d + 2)))) ^^^ (rdbl (g8 t (4*d + 3)))) ^^^ (g8 t (4*d + 3)))), 27, (0, 0)⟩, _]
     refine AI (AC (AB (AA _ (AG rfl) rfl ?_)))
     refine AA (I64 (4*(d:Int))) (AJ rfl rfl fun _ => DX _ _ (4*(d:Int)) (by omega) (by omega)) rfl ?_
     refine AA (I64 (4*(d:Int) + 3)) (AJ rfl rfl fun _ => BP _ _ (4*(d:Int) + 3) (by omega) (by omega)) rfl ?_
     refine AA _ (AG rfl) rfl ?_
     refine A0 (AY 199 [U8 (g8 t (4*d))] (U8 (rdbl (g8 t (4*d)))) (A4 _ Tryd.call199 rfl) (fun w1 _ => GS (g8 t (4*d)) w1)) rfl ?_
     show JL _ _ _ _ ((119, U8 (rdbl (g8 t (4*d)))) :: _) [_, _, _]
     refine AA _ (AG rfl) rfl ?_
     refine AA (U8 ((rdbl (g8 t (4*d))) ^^^ (g8 t (4*d)))) (AJ rfl rfl fun _ => DK (rdbl (g8 t (4*d))) (g8 t (4*d))) rfl ?_
     refine AA _ (AG rfl) rfl ?_
     refine AA (U8 (((rdbl (g8 t (4*d))) ^^^ (g8 t (4*d))) ^^^ (g8 t (4*d + 1)))) (AJ rfl rfl fun _ => DK ((rdbl (g8 t (4*d))) ^^^ (g8 t (4*d))) (g8 t (4*d + 1))) rfl ?_
     refine AA _ (AG rfl) rfl ?_
     refine AA (U8 ((((rdbl (g8 t (4*d))) ^^^ (g8 t (4*d))) ^^^ (g8 t (4*d + 1))) ^^^ (g8 t (4*d + 2)))) (AJ rfl rfl fun _ => DK (((rdbl (g8 t (4*d))) ^^^ (g8 t (4*d))) ^^^ (g8 t (4*d + 1))) (g8 t (4*d + 2))) rfl ?_
     refine AA _ (AG rfl) rfl ?_
     refine A0 (AY 199 [U8 (g8 t (4*d + 3))] (U8 (rdbl (g8 t (4*d + 3)))) (A4 _ Tryd.call199 rfl) (fun w1 _ => GS (g8 t (4*d + 3)) w1)) rfl ?_
     show JL _ _ _ _ ((127, U8 (rdbl (g8 t (4*d + 3)))) :: _) [_, _, _]
     refine AA (U8 (((((rdbl (g8 t (4*d))) ^^^ (g8 t (4*d))) ^^^ (g8 t (4*d + 1))) ^^^ (g8 t (4*d + 2))) ^^^ (rdbl (g8 t (4*d + 3))))) (AJ rfl rfl fun _ => DK ((((rdbl (g8 t (4*d))) ^^^ (g8 t (4*d))) ^^^ (g8 t (4*d + 1))) ^^^ (g8 t (4*d + 2))) (rdbl (g8 t (4*d + 3)))) rfl ?_
     refine AA (Ptr nb3 (4*d + 3)) (A1 16 5 1 (4*d + 3) BF AM rfl rfl (by omega) (by omega) (by omega)) rfl ?_
     have hl5 : ((((m.set (4*d) (((((rdbl (g8 t (4*d))) ^^^ (rdbl (g8 t (4*d + 1)))) ^^^ (g8 t (4*d + 1))) ^^^ (g8 t (4*d + 2))) ^^^ (g8 t (4*d + 3)))).set (4*d + 1) (((((g8 t (4*d)) ^^^ (rdbl (g8 t (4*d + 1)))) ^^^ (rdbl (g8 t (4*d + 2)))) ^^^ (g8 t (4*d + 2))) ^^^ (g8 t (4*d + 3)))).set (4*d + 2) (((((g8 t (4*d)) ^^^ (g8 t (4*d + 1))) ^^^ (rdbl (g8 t (4*d + 2)))) ^^^ (rdbl (g8 t (4*d + 3)))) ^^^ (g8 t (4*d + 3)))).set (4*d + 3) (((((rdbl (g8 t (4*d))) ^^^ (g8 t (4*d))) ^^^ (g8 t (4*d + 1))) ^^^ (g8 t (4*d + 2))) ^^^ (rdbl (g8 t (4*d + 3))))).length = 16 := by first | (rw [List.length_set]; exact hl4) | simp [hl4]
     refine A0 (CN 1 nb3 (4*d + 3) 1 (cu8 (((m.set (4*d) (((((rdbl (g8 t (4*d))) ^^^ (rdbl (g8 t (4*d + 1)))) ^^^ (g8 t (4*d + 1))) ^^^ (g8 t (4*d + 2))) ^^^ (g8 t (4*d + 3)))).set (4*d + 1) (((((g8 t (4*d)) ^^^ (rdbl (g8 t (4*d + 1)))) ^^^ (rdbl (g8 t (4*d + 2)))) ^^^ (g8 t (4*d + 2))) ^^^ (g8 t (4*d + 3)))).set (4*d + 2) (((((g8 t (4*d)) ^^^ (g8 t (4*d + 1))) ^^^ (rdbl (g8 t (4*d + 2)))) ^^^ (rdbl (g8 t (4*d + 3)))) ^^^ (g8 t (4*d + 3))))) 27 (U8 (((((rdbl (g8 t (4*d))) ^^^ (g8 t (4*d))) ^^^ (g8 t (4*d + 1))) ^^^ (g8 t (4*d + 2))) ^^^ (rdbl (g8 t (4*d + 3))))) ([U8 (((((rdbl (g8 t (4*d))) ^^^ (g8 t (4*d))) ^^^ (g8 t (4*d + 1))) ^^^ (g8 t (4*d + 2))) ^^^ (rdbl (g8 t (4*d + 3))))]) (cu8 ((((m.set (4*d) (((((rdbl (g8 t (4*d))) ^^^ (rdbl (g8 t (4*d + 1)))) ^^^ (g8 t (4*d + 1))) ^^^ (g8 t (4*d + 2))) ^^^ (g8 t (4*d + 3)))).set (4*d + 1) (((((g8 t (4*d)) ^^^ (rdbl (g8 t (4*d + 1)))) ^^^ (rdbl (g8 t (4*d + 2)))) ^^^ (g8 t (4*d + 2))) ^^^ (g8 t (4*d + 3)))).set (4*d + 2) (((((g8 t (4*d)) ^^^ (g8 t (4*d + 1))) ^^^ (rdbl (g8 t (4*d + 2)))) ^^^ (rdbl (g8 t (4*d + 3)))) ^^^ (g8 t (4*d + 3)))).set (4*d + 3) (((((rdbl (g8 t (4*d))) ^^^ (g8 t (4*d))) ^^^ (g8 t (4*d + 1))) ^^^ (g8 t (4*d + 2))) ^^^ (rdbl (g8 t (4*d + 3)))))) rfl rfl rfl rfl AM rfl (by simp [Value.oneCell']) (by simp [hl4]; try omega) (lay8 _ _ _ (by rw [hl4]; omega))) rfl ?_
     show JL _ _ _ _ _ [_, ⟨nb3, cu8 ((((m.set (4*d) (((((rdbl (g8 t (4*d))) ^^^ (rdbl (g8 t (4*d + 1)))) ^^^ (g8 t (4*d + 1))) ^^^ (g8 t (4*d + 2))) ^^^ (g8 t (4*d + 3)))).set (4*d + 1) (((((g8 t (4*d)) ^^^ (rdbl (g8 t (4*d + 1)))) ^^^ (rdbl (g8 t (4*d + 2)))) ^^^ (g8 t (4*d + 2))) ^^^ (g8 t (4*d + 3)))).set (4*d + 2) (((((g8 t (4*d)) ^^^ (g8 t (4*d + 1))) ^^^ (rdbl (g8 t (4*d + 2)))) ^^^ (rdbl (g8 t (4*d + 3)))) ^^^ (g8 t (4*d + 3)))).set (4*d + 3) (((((rdbl (g8 t (4*d))) ^^^ (g8 t (4*d))) ^^^ (g8 t (4*d + 1))) ^^^ (g8 t (4*d + 2))) ^^^ (rdbl (g8 t (4*d + 3))))), 27, (0, 0)⟩, _]
     refine AI (A5 (AC (AB (AA _ (AG rfl) rfl ?_))))
     refine AA (I64 ((d:Int) + 1)) (AJ rfl rfl fun _ => BP _ _ ((d:Int) + 1) (by omega) (by omega)) rfl ?_
     refine AA _ (AE rfl) rfl ?_
     refine AI (B6 (DN (d + 1, (((m.set (4*d) (((((rdbl (g8 t (4*d))) ^^^ (rdbl (g8 t (4*d + 1)))) ^^^ (g8 t (4*d + 1))) ^^^ (g8 t (4*d + 2))) ^^^ (g8 t (4*d + 3)))).set (4*d + 1) (((((g8 t (4*d)) ^^^ (rdbl (g8 t (4*d + 1)))) ^^^ (rdbl (g8 t (4*d + 2)))) ^^^ (g8 t (4*d + 2))) ^^^ (g8 t (4*d + 3)))).set (4*d + 2) (((((g8 t (4*d)) ^^^ (g8 t (4*d + 1))) ^^^ (rdbl (g8 t (4*d + 2)))) ^^^ (rdbl (g8 t (4*d + 3)))) ^^^ (g8 t (4*d + 3)))).set (4*d + 3) (((((rdbl (g8 t (4*d))) ^^^ (g8 t (4*d))) ^^^ (g8 t (4*d + 1))) ^^^ (g8 t (4*d + 2))) ^^^ (rdbl (g8 t (4*d + 3))))) ⟨by omega, by rw [rmxN, ← hv2], hl5⟩ (by first | (simp; omega) | simp | (dsimp only; omega) | omega) (Sub.all rfl) rfl))
    ·
     have hp5 : ¬ (((d:Int)) < (4:Int)) := of_decide_eq_false hb5
     refine DA (AQ (AQ (BV (AC (AB (AA (.agg (cu8 m).toArray) (AL rfl (BH BM AT (A8 hm2) (AR 1 rfl (AN _)))) rfl ?_))))))
     refine AA _ (AG rfl) rfl ?_
     refine AA _ (AG rfl) rfl ?_
     refine A0 (AY 212 [.agg (cu8 m).toArray, Slc c 0 176 cap, I64 n] (.agg (cu8 (raddL ks n m)).toArray) (A4 _ Tryd.call212 rfl) (fun w1 hw1 => radd_c m ks c cap n w1 hm2 hks (by omega) (RdA.of hw1 (BW (hm.mem (by simp)) (AN _) (by omega)) (by simp [hks])))) rfl ?_
     show JL _ _ _ _ ((133, .agg (cu8 (raddL ks n m)).toArray) :: _) [_, _, _]
     refine A0 (AX 1 nb3 16 (cu8 m) 27 (cu8 (raddL ks n m)) rfl rfl rfl AT (A8 (FW hm2)) (by first | exact CD | exact CS | exact CR | (simp [cu8, cu32, cu64, Value.oneCell']; done)) (by simp [hm2]) (A6 (by simp [hm2, (FW hm2)]))) rfl ?_
     show JL _ _ _ _ _ [_, ⟨nb3, cu8 (raddL ks n m), 27, (0, 0)⟩, _]
     refine AI (A5 (AC (AB (AA _ (AG rfl) rfl ?_))))
     refine AA (I64 ((n:Int) + 1)) (AJ rfl rfl fun _ => BP _ _ ((n:Int) + 1) (by omega) (by omega)) rfl ?_
     refine AA _ (AE rfl) rfl ?_
     refine AI (B6 (CA [true, true, false] ?_))
     show K _ _ [_, _] _
     refine DN (n + 1, raddL ks n m) ⟨by omega, by omega, by rw [show n + 1 - 1 = (n - 1) + 1 from by omega, rencN, ← hx3]; simp only [rRound, show n - 1 + 1 = n from by omega]; rw [if_pos (by omega), hv2, hy2, show d = 4 from by omega, show cc = 4 from by omega], (FW hm2)⟩ (by first | (simp; omega) | simp | (dsimp only; omega) | omega) (Sub.all rfl) rfl
   ·
    have hp4 : ¬ (((n:Int)) < (10:Int)) := of_decide_eq_false hb4
    refine BJ (AC (AB (AA (.agg (cu8 t).toArray) (AL rfl (BH BM AT (A8 ht) (AR 1 rfl (AN _)))) rfl ?_)))
    refine AA _ (AG rfl) rfl ?_
    refine AA _ (AG rfl) rfl ?_
    refine A0 (AY 212 [.agg (cu8 t).toArray, Slc c 0 176 cap, I64 n] (.agg (cu8 (raddL ks n t)).toArray) (A4 _ Tryd.call212 rfl) (fun w1 hw1 => radd_c t ks c cap n w1 ht hks (by omega) (RdA.of hw1 (BW (hm.mem (by simp)) (AN _) (by omega)) (by simp [hks])))) rfl ?_
    show JL _ _ _ _ ((133, .agg (cu8 (raddL ks n t)).toArray) :: _) [_, _, _]
    refine A0 (AX 1 nb3 16 (cu8 t) 27 (cu8 (raddL ks n t)) rfl rfl rfl AT (A8 (FW ht)) (by first | exact CD | exact CS | exact CR | (simp [cu8, cu32, cu64, Value.oneCell']; done)) (by simp [ht]) (A6 (by simp [ht, (FW ht)]))) rfl ?_
    show JL _ _ _ _ _ [_, ⟨nb3, cu8 (raddL ks n t), 27, (0, 0)⟩, _]
    refine AI (A5 (AC (AB (AA _ (AG rfl) rfl ?_))))
    refine AA (I64 ((n:Int) + 1)) (AJ rfl rfl fun _ => BP _ _ ((n:Int) + 1) (by omega) (by omega)) rfl ?_
    refine AA _ (AE rfl) rfl ?_
    refine AI (B6 (CA [true, true, false] ?_))
    show K _ _ [_, _] _
    refine DN (n + 1, raddL ks n t) ⟨by omega, by omega, by rw [show n + 1 - 1 = (n - 1) + 1 from by omega, rencN, ← hx3]; simp only [rRound, show n - 1 + 1 = n from by omega]; rw [if_neg (by omega), hy2, show cc = 4 from by omega], (FW ht)⟩ (by first | (simp; omega) | simp | (dsimp only; omega) | omega) (Sub.all rfl) rfl
 ·
  have hp1 : ¬ (((n:Int)) ≤ (10:Int)) := of_decide_eq_false hb1
  refine DA (AQ (AQ (BV (AC (AF (AB (AA (.agg (cu8 s).toArray) (AL rfl (BH BM AT (A8 hs) (AR 1 rfl (AN _)))) rfl ?_)))))))
  refine A0 (AX 0 nb2 16 (cu8 (zr8 16)) 27 (cu8 s) rfl rfl rfl AT (A8 hs) (by first | exact CD | exact CS | exact CR | (simp [cu8, cu32, cu64, Value.oneCell']; done)) (by simp [(AP 16)]) (A6 (by simp [(AP 16), hs]))) rfl ?_
  show JL _ _ _ _ _ [⟨nb2, cu8 s, 27, (0, 0)⟩, _]
  refine AI (AC (BO (BQ (.agg (cu8 s).toArray) (res1 Tryd.results205 (DY rfl (BH BM AT (A8 hs) (AR 0 rfl (AN _))))) fun w1 hw1 => ?_)))
  have e1 : n = 11 := by omega
  subst e1
  rw [show s = rencL ks b from hx3]
  exact ⟨_, [], rfl, ⟨rfl, rfl⟩, hw1.sub (by simp) (by simp)⟩
end Go.Proofs.YtkdpdgpphpngeaaDoor
namespace Go.Proofs.YtkdpdgpphpngeaaDoor
open Go Go.Sx
theorem rIn_len (w : List UInt8) (i : Nat) (t : List UInt8) : ∀ k, (rIn w i t k).length = w.length + k
 | 0 => rfl
 | k + 1 => by simp [rIn, rIn_len w i t k]; omega
theorem rN_len (key : List UInt8) (hk : key.length = 16) : ∀ m, (rN key m).2.length = 16 + 4*m
 | 0 => by simp [rN, hk]
 | m + 1 => by
  have h := rN_len key hk m
  rw [rN]; unfold rStep
  split <;> (simp only [rIn_len, h]; omega)
theorem rkeysL_len (key : List UInt8) (hk : key.length = 16) : (rkeysL key).length = 176 := by rw [rkeysL, rN_len key hk]
theorem encL_len (ks b : List UInt8) (hb : b.length = 16) : (encL ks b).length = 16 := by rw [encL]; exact FN (GA _ _)
theorem rshIn_len (s t : List UInt8) (c : Nat) : ∀ r, (rshIn s t c r).length = t.length
 | 0 => rfl
 | r + 1 => by simp [rshIn, rshIn_len s t c r]
theorem rshN_len (s : List UInt8) : ∀ c, (rshN s c).length = 16
 | 0 => AP 16
 | c + 1 => by rw [rshN, rshIn_len, rshN_len s c]
theorem rmxN_len (t : List UInt8) : ∀ d, (rmxN t d).length = t.length
 | 0 => rfl
 | d + 1 => by simp [rmxN, rmxN_len t d]
theorem rencN_len (ks b : List UInt8) (hb : b.length = 16) : ∀ n, (rencN ks b n).length = 16
  | 0 => FW hb
  | n + 1 => by
    rw [rencN]; unfold rRound
    split
    · exact FW (by rw [rmxN_len, rshN_len])
    · exact FW (rshN_len _ _)
theorem GR (ks b : List UInt8) (hb : b.length = 16) : (rencL ks b).length = 16 := rencN_len ks b hb 10
theorem ksN_get (ws : List UInt8) (h : ws.length = 176) : ∀ j, j ≤ 44 → ∀ p, p < 4*j → g8 (ksN ws j) p = g8 ws p
  | 0, _, p, hp => by omega
  | j + 1, hj, p, hp => by
    have h1 := ksN_len ws h j (by omega)
    have h2 : (mid ws (4*j) 4).length = 4 := D8 (by omega)
    rw [ksN, show 4*(j % 4) + 16*(j / 4) = 4*j from by omega, g8_spl (by rw [h2, h1]; omega), h2]
    split
    · rename_i hc
      rw [g8_mid (by omega)]; congr 1; omega
    · exact ksN_get ws h j (by omega) p (by omega)
theorem ksN_all (ws : List UInt8) (h : ws.length = 176) : ksN ws 44 = ws :=
 ext8 (by rw [ksN_len ws h 44 (by omega), h]) fun j hj => ksN_get ws h 44 (by omega) j (by rw [ksN_len ws h 44 (by omega)] at hj; omega)
theorem wsIn_old (ws : List UInt8) (i : Nat) (w : List UInt8) (h : 4*i + 4 ≤ ws.length) : ∀ k, k ≤ 4 → ∀ p, p < 4*i → g8 (wsIn ws i w k) p = g8 ws p
 | 0, _, p, hp => rfl
 | k + 1, hk, p, hp => by
  rw [wsIn, FS _ _ _ _ (by rw [wsIn_len]; omega), if_neg (by omega)]
  exact wsIn_old ws i w h k (by omega) p hp
theorem wsIn_new (ws : List UInt8) (i : Nat) (w : List UInt8) (hi : 4 ≤ i) (h : 4*i + 4 ≤ ws.length) : ∀ k, k ≤ 4 → ∀ j, j < k → g8 (wsIn ws i w k) (4*i + j) = g8 ws (4*i + j - 16) ^^^ g8 w j
  | 0, _, j, hj => by omega
  | k + 1, hk, j, hj => by
    rw [wsIn, FS _ _ _ _ (by rw [wsIn_len]; omega)]
    split
    · have : k = j := by omega
      subst this
      rw [wsIn_old ws i w h k (by omega) _ (by omega)]
    · exact wsIn_new ws i w hi h k (by omega) j (by omega)
theorem rIn_old (w : List UInt8) (i : Nat) (t : List UInt8) : ∀ k p, p < w.length → g8 (rIn w i t k) p = g8 w p
 | 0, p, hp => rfl
 | k + 1, p, hp => by
  rw [rIn, g8_app, if_pos (by rw [rIn_len]; omega)]
  exact rIn_old w i t k p hp
theorem rIn_new (w : List UInt8) (i : Nat) (t : List UInt8) (hi : 4 ≤ i) (h : w.length = 4*i) : ∀ k, k ≤ 4 → ∀ j, j < k → g8 (rIn w i t k) (4*i + j) = g8 w (4*i + j - 16) ^^^ g8 t j
  | 0, _, j, hj => by omega
  | k + 1, hk, j, hj => by
    rw [rIn, g8_app]
    split
    · rename_i hc
      rw [rIn_len] at hc
      exact rIn_new w i t hi h k (by omega) j (by omega)
    · rename_i hc
      rw [rIn_len] at hc
      have : k = j := by omega
      subst this
      rw [rIn_len, show 4*i + k - (w.length + k) = 0 from by omega, rIn_old w i t k _ (by omega)]
      rfl
theorem there_get (a : UInt8) : g8 thereL a.toNat = subst1 a := by revert a; apply u8_all; decide +kernel
theorem there_subs (a : UInt8) : g8 thereL a.toNat = g8 subsL a.toNat := by rw [there_get, subs_subst]
theorem ltq4 {p : Nat → Prop} (h0 : p 0) (h1 : p 1) (h2 : p 2) (h3 : p 3) : ∀ j, j < 4 → p j
 | 0, _ => h0
 | 1, _ => h1
 | 2, _ => h2
 | 3, _ => h3
theorem ws_first (key : List UInt8) (hk : key.length = 16) : ∀ i, i ≤ 4 → (wsN key i).1 = 1 ∧ ∀ p, p < 4*i → g8 (wsN key i).2 p = g8 key p
  | 0, _ => ⟨rfl, fun p hp => by omega⟩
  | i + 1, hi => by
    have ih := ws_first key hk i (by omega)
    have hl := wsN_len key hk i
    have h2 : (mid key (4*i) 4).length = 4 := D8 (by omega)
    rw [wsN]; unfold wsStep
    rw [if_pos (by omega)]
    refine ⟨ih.1, fun p hp => ?_⟩
    show g8 (spl _ _ _) p = _
    rw [g8_spl (by rw [h2, hl]; omega), h2]
    split
    · rw [g8_mid (by omega)]; congr 1; omega
    · exact ih.2 p (by omega)
theorem ws_rN (key : List UInt8) (hk : key.length = 16) : ∀ m, m ≤ 40 → (wsN key (m + 4)).1 = (rN key m).1 ∧ ∀ p, p < 4*(m + 4) → g8 (wsN key (m + 4)).2 p = g8 (rN key m).2 p
  | 0, _ => by
    have h := ws_first key hk 4 (by omega)
    exact ⟨h.1, h.2⟩
  | m + 1, hm => by
    obtain ⟨ih1, ih2⟩ := ws_rN key hk m (by omega)
    have hl := wsN_len key hk (m + 4)
    have hr := rN_len key hk m
    have hmid : ∀ j, j < 4 → g8 (mid (wsN key (m + 4)).2 (4*(m + 4) - 4) 4) j = g8 (rN key m).2 (4*(m + 4) - 4 + j) := fun j hj => by
      rw [g8_mid hj]; exact ih2 _ (by omega)
    rw [show m + 1 + 4 = (m + 4) + 1 from by omega, wsN, rN]
    unfold wsStep rStep
    rw [if_neg (by omega)]
    dsimp only
    have step : ∀ (w t : List UInt8), (∀ j, j < 4 → g8 w j = g8 t j) → ∀ p, p < 4*(m + 4 + 1) → g8 (wsIn (wsN key (m + 4)).2 (m + 4) w 4) p = g8 (rIn (rN key m).2 (m + 4) t 4) p := by
      intro w t hwt p hp
      by_cases hc : p < 4*(m + 4)
      · rw [wsIn_old _ _ _ (by omega) 4 (by omega) p hc, rIn_old _ _ _ 4 p (by omega)]
        exact ih2 p hc
      · obtain ⟨j, rfl⟩ : ∃ j, p = 4*(m + 4) + j := ⟨p - 4*(m + 4), by omega⟩
        rw [wsIn_new _ _ _ (by omega) (by omega) 4 (by omega) j (by omega), rIn_new _ _ _ (by omega) (by omega) 4 (by omega) j (by omega)]
        rw [hwt j (by omega), ih2 _ (by omega)]
    split
    · refine ⟨by rw [rdbl_eq]; exact congrArg dbl ih1, step _ _ (ltq4 ?_ ?_ ?_ ?_)⟩
      · show g8 thereL _ ^^^ _ = g8 subsL _ ^^^ _
        rw [there_subs, ih1, hmid 1 (by omega)]
        rw [show 4*(m + 4) - 4 + 1 = 4*(m + 4) - 3 from by omega]
      · show g8 thereL _ = g8 subsL _
        rw [there_subs, hmid 2 (by omega)]
        rw [show 4*(m + 4) - 4 + 2 = 4*(m + 4) - 2 from by omega]
      · show g8 thereL _ = g8 subsL _
        rw [there_subs, hmid 3 (by omega)]
        rw [show 4*(m + 4) - 4 + 3 = 4*(m + 4) - 1 from by omega]
      · show g8 thereL _ = g8 subsL _
        rw [there_subs, hmid 0 (by omega)]; rfl
    · refine ⟨ih1, step _ _ (ltq4 ?_ ?_ ?_ ?_)⟩
      · rw [hmid 0 (by omega)]; rfl
      · rw [hmid 1 (by omega), show 4*(m + 4) - 4 + 1 = 4*(m + 4) - 3 from by omega]; rfl
      · rw [hmid 2 (by omega), show 4*(m + 4) - 4 + 2 = 4*(m + 4) - 2 from by omega]; rfl
      · rw [hmid 3 (by omega), show 4*(m + 4) - 4 + 3 = 4*(m + 4) - 1 from by omega]; rfl
theorem rkeys_rk (key : List UInt8) (hk : key.length = 16) : rkeysL key = rkL key := by
 rw [rkL, ksN_all _ (wsN_len key hk 44)]
 refine ext8 (by rw [rkeysL_len key hk, wsN_len key hk]) fun j hj => ?_
 rw [rkeysL_len key hk] at hj
 exact ((ws_rN key hk 40 (by omega)).2 j (by omega)).symm
theorem addN_get (a b : List UInt8) : ∀ k, k ≤ a.length → ∀ p, g8 (addN a b k) p = if p < k then g8 a p ^^^ g8 b p else g8 a p
  | 0, _, p => rfl
  | k + 1, hk, p => by
    rw [addN, FS _ _ _ _ (by rw [addN_len]; omega)]
    split
    · rename_i h; subst h
      rw [addN_get a b k (by omega), if_neg (by omega), if_pos (by omega)]
    · rw [addN_get a b k (by omega)]
      by_cases h : p < k
      · rw [if_pos h, if_pos (by omega)]
      · rw [if_neg h, if_neg (by omega)]
theorem addL_get {a b : List UInt8} (ha : a.length = 16) {p : Nat} (hp : p < 16) : g8 (addL a b) p = g8 a p ^^^ g8 b p := by
 rw [addL, addN_get a b 16 (by omega), if_pos hp]
theorem raddN_get (ks : List UInt8) (n : Nat) (b : List UInt8) : ∀ k, k ≤ b.length → ∀ p, g8 (raddN ks n b k) p = if p < k then g8 b p ^^^ g8 ks (p + 16*n) else g8 b p
  | 0, _, p => rfl
  | k + 1, hk, p => by
    rw [raddN, FS _ _ _ _ (by rw [raddN_len]; omega)]
    split
    · rename_i h; subst h
      rw [raddN_get ks n b k (by omega), if_neg (by omega), if_pos (by omega)]
    · rw [raddN_get ks n b k (by omega)]
      by_cases h : p < k
      · rw [if_pos h, if_pos (by omega)]
      · rw [if_neg h, if_neg (by omega)]
theorem radd_add {ks b : List UInt8} (n : Nat) (hb : b.length = 16) : raddL ks n b = addL b (mid ks (16*n) 16) := by
 refine ext8 (by rw [FW hb, FN hb]) fun j hj => ?_
 rw [FW hb] at hj
 rw [addL_get hb hj, g8_mid hj, raddL, raddN_get ks n b 16 (by omega), if_pos hj, Nat.add_comm]
theorem sh1N_get (tb b : List UInt8) : ∀ k, k ≤ 16 → ∀ p, p < k → g8 (sh1N tb b k) p = g8 tb (g8 b (4*((p % 4 + p / 4) % 4) + p % 4)).toNat
  | 0, _, p, hp => by omega
  | k + 1, hk, p, hp => by
    rw [sh1N, FS _ _ _ _ (by rw [sh1N_len]; omega)]
    split
    · rename_i h; subst h; rfl
    · exact sh1N_get tb b k (by omega) p (by omega)
theorem rshIn_get (s t : List UInt8) (c : Nat) (h : 4*c + 4 ≤ t.length) : ∀ r, r ≤ 4 → ∀ p, g8 (rshIn s t c r) p = if 4*c ≤ p ∧ p < 4*c + r then g8 subsL (g8 s (4*((c + (p - 4*c)) % 4) + (p - 4*c))).toNat else g8 t p
  | 0, _, p => by rw [if_neg (by omega)]; rfl
  | r + 1, hr, p => by
    rw [rshIn, FS _ _ _ _ (by rw [rshIn_len]; omega)]
    split
    · rename_i h; subst h
      rw [if_pos (by omega), Nat.add_sub_cancel_left]
    · rw [rshIn_get s t c h r (by omega)]
      by_cases h : 4*c ≤ p ∧ p < 4*c + r
      · rw [if_pos h, if_pos (by omega)]
      · rw [if_neg h, if_neg (by omega)]
theorem rshN_get (s : List UInt8) : ∀ c, c ≤ 4 → ∀ p, p < 4*c → g8 (rshN s c) p = g8 subsL (g8 s (4*((p / 4 + p % 4) % 4) + p % 4)).toNat
  | 0, _, p, hp => by omega
  | c + 1, hc, p, hp => by
    rw [rshN, rshIn_get s _ c (by rw [rshN_len]; omega) 4 (by omega)]
    split
    · rename_i h
      have e1 : p / 4 = c := by omega
      have e2 : p % 4 = p - 4*c := by omega
      rw [e1, e2]
    · exact rshN_get s c (by omega) p (by omega)
theorem rsh_sh (s : List UInt8) : rshN s 4 = sh1L thereL s := by
 refine ext8 (by rw [rshN_len, GA]) fun p hp => ?_
 rw [rshN_len] at hp
 rw [rshN_get s 4 (by omega) p (by omega), sh1L, sh1N_get _ _ 16 (by omega) p hp, there_subs, Nat.add_comm (p / 4)]
theorem mixIn_old (b m o : List UInt8) (i : Nat) (h : i < o.length) : ∀ j p, p ≠ i → g8 (mixIn b m o i j) p = g8 o p
 | 0, p, _ => rfl
 | j + 1, p, hp => by
  rw [mixIn, FS _ _ _ _ (by rw [mixIn_len]; exact h), if_neg (fun e => hp e.symm)]
  exact mixIn_old b m o i h j p hp
theorem mixIn_new (b m o : List UInt8) (i : Nat) (h : i < o.length) (j : Nat) : g8 (mixIn b m o i (j + 1)) i = g8 (mixIn b m o i j) i ^^^ gmul (g8 m j) (g8 b ((j + i % 4) % 4 + 4*(i / 4))) := by
 rw [mixIn, FS _ _ _ _ (by rw [mixIn_len]; exact h), if_pos rfl]
def mixAt (b m : List UInt8) (i : Nat) : UInt8 := ((gmul (g8 m 0) (g8 b ((0 + i % 4) % 4 + 4*(i / 4))) ^^^ gmul (g8 m 1) (g8 b ((1 + i % 4) % 4 + 4*(i / 4)))) ^^^ gmul (g8 m 2) (g8 b ((2 + i % 4) % 4 + 4*(i / 4)))) ^^^ gmul (g8 m 3) (g8 b ((3 + i % 4) % 4 + 4*(i / 4)))
theorem mixN_rest (b m : List UInt8) : ∀ i, i ≤ 16 → ∀ p, i ≤ p → g8 (mixN b m i) p = 0
 | 0, _, p, _ => g8_zr
 | i + 1, hi, p, hp => by
  rw [mixN, mixIn_old _ _ _ _ (by rw [mixN_len]; omega) _ _ (by omega)]
  exact mixN_rest b m i (by omega) p (by omega)
theorem mixN_get (b m : List UInt8) : ∀ i, i ≤ 16 → ∀ p, p < i → g8 (mixN b m i) p = mixAt b m p
  | 0, _, p, hp => by omega
  | i + 1, hi, p, hp => by
    have hl : i < (mixN b m i).length := by rw [mixN_len]; omega
    rw [mixN]
    by_cases h : p = i
    · subst h
      rw [mixIn_new _ _ _ _ hl, mixIn_new _ _ _ _ hl, mixIn_new _ _ _ _ hl, mixIn_new _ _ _ _ hl]
      rw [show g8 (mixIn b m (mixN b m p) p 0) p = 0 from mixN_rest b m p (by omega) p (by omega), UInt8.zero_xor]
      rfl
    · rw [mixIn_old _ _ _ _ hl _ _ h]
      exact mixN_get b m i (by omega) p (by omega)
theorem mixL_get (b m : List UInt8) {p : Nat} (hp : p < 16) : g8 (mixL b m) p = mixAt b m p := mixN_get b m 16 (by omega) p hp
theorem mixAt0 (b m : List UInt8) (c : Nat) : mixAt b m (4*c) = ((gmul (g8 m 0) (g8 b (4*c)) ^^^ gmul (g8 m 1) (g8 b (4*c + 1))) ^^^ gmul (g8 m 2) (g8 b (4*c + 2))) ^^^ gmul (g8 m 3) (g8 b (4*c + 3)) := by
 unfold mixAt
 rw [show (0 + 4*c % 4) % 4 + 4*(4*c / 4) = 4*c from by omega, show (1 + 4*c % 4) % 4 + 4*(4*c / 4) = 4*c + 1 from by omega, show (2 + 4*c % 4) % 4 + 4*(4*c / 4) = 4*c + 2 from by omega, show (3 + 4*c % 4) % 4 + 4*(4*c / 4) = 4*c + 3 from by omega]
theorem mixAt1 (b m : List UInt8) (c : Nat) : mixAt b m (4*c + 1) = ((gmul (g8 m 0) (g8 b (4*c + 1)) ^^^ gmul (g8 m 1) (g8 b (4*c + 2))) ^^^ gmul (g8 m 2) (g8 b (4*c + 3))) ^^^ gmul (g8 m 3) (g8 b (4*c)) := by
 unfold mixAt
 rw [show (0 + (4*c + 1) % 4) % 4 + 4*((4*c + 1) / 4) = 4*c + 1 from by omega, show (1 + (4*c + 1) % 4) % 4 + 4*((4*c + 1) / 4) = 4*c + 2 from by omega, show (2 + (4*c + 1) % 4) % 4 + 4*((4*c + 1) / 4) = 4*c + 3 from by omega, show (3 + (4*c + 1) % 4) % 4 + 4*((4*c + 1) / 4) = 4*c from by omega]
theorem mixAt2 (b m : List UInt8) (c : Nat) : mixAt b m (4*c + 2) = ((gmul (g8 m 0) (g8 b (4*c + 2)) ^^^ gmul (g8 m 1) (g8 b (4*c + 3))) ^^^ gmul (g8 m 2) (g8 b (4*c))) ^^^ gmul (g8 m 3) (g8 b (4*c + 1)) := by
 unfold mixAt
 rw [show (0 + (4*c + 2) % 4) % 4 + 4*((4*c + 2) / 4) = 4*c + 2 from by omega, show (1 + (4*c + 2) % 4) % 4 + 4*((4*c + 2) / 4) = 4*c + 3 from by omega, show (2 + (4*c + 2) % 4) % 4 + 4*((4*c + 2) / 4) = 4*c from by omega, show (3 + (4*c + 2) % 4) % 4 + 4*((4*c + 2) / 4) = 4*c + 1 from by omega]
theorem mixAt3 (b m : List UInt8) (c : Nat) : mixAt b m (4*c + 3) = ((gmul (g8 m 0) (g8 b (4*c + 3)) ^^^ gmul (g8 m 1) (g8 b (4*c))) ^^^ gmul (g8 m 2) (g8 b (4*c + 1))) ^^^ gmul (g8 m 3) (g8 b (4*c + 2)) := by
 unfold mixAt
 rw [show (0 + (4*c + 3) % 4) % 4 + 4*((4*c + 3) / 4) = 4*c + 3 from by omega, show (1 + (4*c + 3) % 4) % 4 + 4*((4*c + 3) / 4) = 4*c from by omega, show (2 + (4*c + 3) % 4) % 4 + 4*((4*c + 3) / 4) = 4*c + 1 from by omega, show (3 + (4*c + 3) % 4) % 4 + 4*((4*c + 3) / 4) = 4*c + 2 from by omega]
theorem gmul2 (x : UInt8) : gmul 2 x = rdbl x := by revert x; apply u8_all; decide +kernel
theorem gmul3 (x : UInt8) : gmul 3 x = rdbl x ^^^ x := by revert x; apply u8_all; decide +kernel
theorem rmxN_get (t : List UInt8) (ht : t.length = 16) : ∀ d, d ≤ 4 → ∀ p, p < 4*d → g8 (rmxN t d) p = mixAt t [2, 3, 1, 1] p
  | 0, _, p, hp => by omega
  | d + 1, hd, p, hp => by
    have hl := rmxN_len t d
    by_cases h : p < 4*d
    · simp only [rmxN]
      rw [FS _ _ _ _ (by simp; omega), if_neg (by omega), FS _ _ _ _ (by simp; omega), if_neg (by omega), FS _ _ _ _ (by simp; omega), if_neg (by omega), FS _ _ _ _ (by omega), if_neg (by omega)]
      exact rmxN_get t ht d (by omega) p h
    · have hc : p = 4*d ∨ p = 4*d + 1 ∨ p = 4*d + 2 ∨ p = 4*d + 3 := by omega
      simp only [rmxN]
      rcases hc with rfl | rfl | rfl | rfl
      · rw [FS _ _ _ _ (by simp; omega), if_neg (by omega), FS _ _ _ _ (by simp; omega), if_neg (by omega), FS _ _ _ _ (by simp; omega), if_neg (by omega), FS _ _ _ _ (by omega), if_pos rfl, mixAt0]
        simp only [g8, List.getD_cons_zero, List.getD_cons_succ, gmul2, gmul3, one_gmul]
        ac_rfl
      · rw [FS _ _ _ _ (by simp; omega), if_neg (by omega), FS _ _ _ _ (by simp; omega), if_neg (by omega), FS _ _ _ _ (by simp; omega), if_pos rfl, mixAt1]
        simp only [g8, List.getD_cons_zero, List.getD_cons_succ, gmul2, gmul3, one_gmul]
        ac_rfl
      · rw [FS _ _ _ _ (by simp; omega), if_neg (by omega), FS _ _ _ _ (by simp; omega), if_pos rfl, mixAt2]
        simp only [g8, List.getD_cons_zero, List.getD_cons_succ, gmul2, gmul3, one_gmul]
        ac_rfl
      · rw [FS _ _ _ _ (by simp; omega), if_pos rfl, mixAt3]
        simp only [g8, List.getD_cons_zero, List.getD_cons_succ, gmul2, gmul3, one_gmul]
        ac_rfl
theorem rmx_mix (t : List UInt8) (ht : t.length = 16) : rmxN t 4 = mixL t [2, 3, 1, 1] := by
 refine ext8 (by rw [rmxN_len, mixL_len, ht]) fun p hp => ?_
 rw [rmxN_len, ht] at hp
 rw [rmxN_get t ht 4 (by omega) p (by omega), mixL_get _ _ hp]
theorem rencN_enc (ks b : List UInt8) (hb : b.length = 16) : ∀ j, j ≤ 9 → rencN ks b j = encN ks b j
 | 0, _ => by rw [rencN, encN, radd_add 0 hb]
 | j + 1, hj => by
  rw [rencN, encN, rencN_enc ks b hb j (by omega)]
  unfold rRound
  rw [if_pos (by omega), rsh_sh, rmx_mix _ (GA _ _), radd_add _ (mixL_len _ _)]
  rfl
theorem renc_enc (key b : List UInt8) (hk : key.length = 16) (hb : b.length = 16) : encL (rkL key) b = rencL (rkeysL key) b := by
 rw [rkeys_rk key hk, rencL, rencN, rencN_enc _ b hb 9 (by omega), encL]
 unfold rRound
 rw [if_neg (by omega), rsh_sh, radd_add _ (GA _ _)]
end Go.Proofs.YtkdpdgpphpngeaaDoor
namespace Go.Sx
def nxS (k : Nat) (p : UInt64 × List UInt8 × UInt64) : UInt64 × List UInt8 × UInt64 :=
 ((((g8 p.2.1 (15 - k)).toUInt64 + (p.2.2 &&& 255)) + p.1) >>> 8, p.2.1.set (15 - k) (((g8 p.2.1 (15 - k)).toUInt64 + (p.2.2 &&& 255)) + p.1).toUInt8, p.2.2 >>> 8)
def nxN (c : List UInt8) (n : UInt64) : Nat → UInt64 × List UInt8 × UInt64
 | 0 => (0, c, n)
 | k + 1 => nxS k (nxN c n k)
def nextL (c : List UInt8) (n : UInt64) : List UInt8 := (nxN c n 16).2.1
theorem nxN_len (c : List UInt8) (n : UInt64) : ∀ k, (nxN c n k).2.1.length = c.length
 | 0 => rfl
 | k + 1 => by simp [nxN, nxS, nxN_len c n k]
theorem nextL_len {c : List UInt8} {n : UInt64} (h : c.length = 16) : (nextL c n).length = 16 := by rw [nextL, nxN_len, h]
def rvN (c : List UInt8) : Nat → UInt64 × UInt64
 | 0 => (0, 0)
 | k + 1 => ((rvN c k).1 * 256 + (g8 c (k + 8)).toUInt64, (rvN c k).2 * 256 + (g8 c k).toUInt64)
def rwN (c : List UInt8) (lo hi : UInt64) : Nat → List UInt8 × UInt64 × UInt64
 | 0 => (c, lo, hi)
 | k + 1 => (((rwN c lo hi k).1.set (7 - k) (rwN c lo hi k).2.2.toUInt8).set (15 - k) (rwN c lo hi k).2.1.toUInt8, (rwN c lo hi k).2.1 / 256, (rwN c lo hi k).2.2 / 256)
def rnextL (c : List UInt8) (n : UInt64) : List UInt8 :=
 (rwN c ((rvN c 8).1 + n) (if (rvN c 8).1 + n < (rvN c 8).1 then (rvN c 8).2 + 1 else (rvN c 8).2) 8).1
theorem rwN_len (c : List UInt8) (lo hi : UInt64) : ∀ k, (rwN c lo hi k).1.length = c.length
 | 0 => rfl
 | k + 1 => by simp [rwN, rwN_len c lo hi k]
theorem rnextL_len {c : List UInt8} {n : UInt64} (h : c.length = 16) : (rnextL c n).length = 16 := by rw [rnextL, rwN_len, h]
def ctrN (c : List UInt8) : Nat → List UInt8
 | 0 => c
 | k + 1 => nextL (ctrN c k) 1
theorem FR {c : List UInt8} (h : c.length = 16) : ∀ k, (ctrN c k).length = 16
 | 0 => h
 | k + 1 => nextL_len (FR h k)
def xorN (s b : List UInt8) : Nat → List UInt8
 | 0 => s
 | k + 1 => (xorN s b k).set k (g8 (xorN s b k) k ^^^ g8 b k)
theorem GL (s b : List UInt8) : ∀ k, (xorN s b k).length = s.length
 | 0 => rfl
 | k + 1 => by simp [xorN, GL s b k]
def lowV (c : List UInt8) : Nat → Nat
 | 0 => 0
 | k + 1 => lowV c k + 256 ^ k * (g8 c (15 - k)).toNat
theorem lowV_set {c : List UInt8} (h : c.length = 16) (i : Nat) (v : UInt8) : ∀ k, k ≤ i → i ≤ 15 → lowV (c.set (15 - i) v) k = lowV c k
 | 0, _, _ => rfl
 | k + 1, hk, hi => by
  rw [lowV, lowV, lowV_set h i v k (by omega) hi, FS _ _ _ _ (by omega), if_neg (by omega)]
theorem lowV_lt {c : List UInt8} : ∀ k, lowV c k < 256 ^ k
 | 0 => by simp [lowV]
 | k + 1 => by
  have h1 := @lowV_lt c k
  have h2 := (g8 c (15 - k)).toNat_lt
  have h3 : 256 ^ k * (g8 c (15 - k)).toNat ≤ 256 ^ k * 255 := Nat.mul_le_mul_left _ (by omega)
  rw [lowV, Nat.pow_succ]; omega
theorem lowV_inj {a b : List UInt8} (ha : a.length = 16) (hb : b.length = 16) (h : lowV a 16 = lowV b 16) : a = b := by
  have key : ∀ k, k ≤ 16 → lowV a k = lowV b k → ∀ j, j < k → g8 a (15 - j) = g8 b (15 - j) := by
    intro k
    induction k with
    | zero => intro _ _ j hj; omega
    | succ k ih =>
      intro hk h j hj
      rw [lowV, lowV] at h
      have h1 := @lowV_lt a k
      have h2 := @lowV_lt b k
      have e1 : (g8 a (15 - k)).toNat = (g8 b (15 - k)).toNat := by
        have hp : 0 < 256 ^ k := Nat.pow_pos (by omega)
        have := congrArg (· / 256 ^ k) h
        simpa [Nat.add_mul_div_left _ _ hp, Nat.div_eq_of_lt h1, Nat.div_eq_of_lt h2] using this
      have e2 : lowV a k = lowV b k := by rw [e1] at h; omega
      by_cases hjk : j = k
      · subst hjk; exact UInt8.toNat_inj.1 e1
      · exact ih (by omega) e2 j (by omega)
  refine ext8 (by omega) fun j hj => ?_
  have := key 16 (by omega) h (15 - j) (by omega)
  rwa [show 15 - (15 - j) = j from by omega] at this
theorem nxN_far (c : List UInt8) (n : UInt64) (h : c.length = 16) : ∀ k, k ≤ 16 → ∀ j, k ≤ j → j ≤ 15 → g8 (nxN c n k).2.1 (15 - j) = g8 c (15 - j)
 | 0, _, j, _, _ => rfl
 | k + 1, hk, j, hj, hj2 => by
  show g8 ((nxN c n k).2.1.set (15 - k) _) (15 - j) = _
  rw [FS _ _ _ _ (by rw [nxN_len]; omega), if_neg (by omega)]
  exact nxN_far c n h k (by omega) j (by omega) hj2
theorem nxN_n (c : List UInt8) (n : UInt64) : ∀ k, (nxN c n k).2.2.toNat = n.toNat / 256 ^ k
 | 0 => by simp [nxN]
 | k + 1 => by
  show ((nxN c n k).2.2 >>> 8).toNat = _
  rw [UInt64.toNat_shiftRight, nxN_n c n k, Nat.shiftRight_eq_div_pow, Nat.pow_succ, ← Nat.div_div_eq_div_mul]
  rfl
theorem nxN_inv (c : List UInt8) (n : UInt64) (h : c.length = 16) : ∀ k, k ≤ 16 → (nxN c n k).1.toNat ≤ 1 ∧ lowV (nxN c n k).2.1 k + 256 ^ k * (nxN c n k).1.toNat = lowV c k + n.toNat % 256 ^ k
 | 0, _ => by simp [nxN, lowV, Nat.mod_one]
 | k + 1, hk => by
  obtain ⟨h1, h2⟩ := nxN_inv c n h k (by omega)
  have hl : (nxN c n k).2.1.length = 16 := by rw [nxN_len, h]
  have hn := nxN_n c n k
  have hf := nxN_far c n h k (by omega) k (by omega) (by omega)
  have hand : ((nxN c n k).2.2 &&& 255).toNat = n.toNat / 256 ^ k % 256 := by
   rw [UInt64.toNat_and, hn, show (255 : UInt64).toNat = 2 ^ 8 - 1 from rfl, Nat.and_two_pow_sub_one_eq_mod]
  have hg := (g8 c (15 - k)).toNat_lt
  have hm : n.toNat / 256 ^ k % 256 < 256 := Nat.mod_lt _ (by omega)
  have hs : (((g8 (nxN c n k).2.1 (15 - k)).toUInt64 + ((nxN c n k).2.2 &&& 255)) + (nxN c n k).1).toNat = (g8 c (15 - k)).toNat + n.toNat / 256 ^ k % 256 + (nxN c n k).1.toNat := by
   rw [UInt64.toNat_add, UInt64.toNat_add, hand, hf, UInt8.toNat_toUInt64]
   omega
  generalize hS : ((g8 (nxN c n k).2.1 (15 - k)).toUInt64 + ((nxN c n k).2.2 &&& 255)) + (nxN c n k).1 = s at hs
  have e1 : (nxN c n (k + 1)).1 = s >>> 8 := by rw [← hS]; rfl
  have e2 : (nxN c n (k + 1)).2.1 = (nxN c n k).2.1.set (15 - k) s.toUInt8 := by rw [← hS]; rfl
  have e3 : (s >>> 8).toNat = s.toNat / 256 := by rw [UInt64.toNat_shiftRight, Nat.shiftRight_eq_div_pow]; rfl
  have e4 : s.toUInt8.toNat = s.toNat % 256 := by rw [UInt64.toNat_toUInt8]
  rw [e1, e2, e3]
  refine ⟨by omega, ?_⟩
  rw [lowV, lowV_set hl k _ k (by omega) (by omega), FS _ _ _ _ (by omega), if_pos rfl, e4, lowV]
  have hpm : n.toNat % 256 ^ (k + 1) = n.toNat % 256 ^ k + 256 ^ k * (n.toNat / 256 ^ k % 256) := by
   rw [Nat.pow_succ, Nat.mod_mul]
  rw [hpm, Nat.pow_succ]
  have hq : 256 ^ k * (s.toNat % 256) + 256 ^ k * 256 * (s.toNat / 256) = 256 ^ k * s.toNat := by
   rw [Nat.mul_assoc, ← Nat.mul_add, Nat.mod_add_div]
  have hr : 256 ^ k * s.toNat = 256 ^ k * (g8 c (15 - k)).toNat + 256 ^ k * (n.toNat / 256 ^ k % 256) + 256 ^ k * (nxN c n k).1.toNat := by
   rw [hs, Nat.mul_add, Nat.mul_add]
  omega
theorem nextL_val {c : List UInt8} {n : UInt64} (h : c.length = 16) : lowV (nextL c n) 16 = (lowV c 16 + n.toNat) % 256 ^ 16 := by
 obtain ⟨h1, h2⟩ := nxN_inv c n h 16 (by omega)
 have hn : n.toNat % 256 ^ 16 = n.toNat := Nat.mod_eq_of_lt (by have := n.toNat_lt; omega)
 rw [hn] at h2
 have hl := @lowV_lt (nextL c n) 16
 rw [← h2]
 show _ = (lowV (nextL c n) 16 + _) % _
 rw [Nat.add_mul_mod_self_left, Nat.mod_eq_of_lt hl]
theorem rvN_val (c : List UInt8) (h : c.length = 16) : ∀ k, k ≤ 8 → (rvN c k).1.toNat * 256 ^ (8 - k) + lowV c (8 - k) = lowV c 8 ∧ (rvN c k).1.toNat < 256 ^ k ∧
    (rvN c k).2.toNat * 256 ^ (16 - k) + lowV c (16 - k) = lowV c 16 ∧ (rvN c k).2.toNat < 256 ^ k
  | 0, _ => by simp [rvN]
  | k + 1, hk => by
    obtain ⟨h1, h2, h3, h4⟩ := rvN_val c h k (by omega)
    have hp : 256 ^ k * 256 ≤ 256 ^ 8 := by rw [← Nat.pow_succ]; exact Nat.pow_le_pow_right (by omega) (by omega)
    have g1 := (g8 c (k + 8)).toNat_lt
    have g2 := (g8 c k).toNat_lt
    have e1 : ((rvN c k).1 * 256 + (g8 c (k + 8)).toUInt64).toNat = (rvN c k).1.toNat * 256 + (g8 c (k + 8)).toNat := by
      rw [UInt64.toNat_add, UInt64.toNat_mul, UInt8.toNat_toUInt64]
      simp only [show (256 : UInt64).toNat = 256 from rfl]
      omega
    have e2 : ((rvN c k).2 * 256 + (g8 c k).toUInt64).toNat = (rvN c k).2.toNat * 256 + (g8 c k).toNat := by
      rw [UInt64.toNat_add, UInt64.toNat_mul, UInt8.toNat_toUInt64]
      simp only [show (256 : UInt64).toNat = 256 from rfl]
      omega
    have s1 : 8 - k = (8 - (k + 1)) + 1 := by omega
    have s2 : 16 - k = (16 - (k + 1)) + 1 := by omega
    rw [s1, lowV, Nat.pow_succ, show 15 - (8 - (k + 1)) = k + 8 from by omega] at h1
    rw [s2, lowV, Nat.pow_succ, show 15 - (16 - (k + 1)) = k from by omega] at h3
    refine ⟨?_, ?_, ?_, ?_⟩
    · show ((rvN c k).1 * 256 + (g8 c (k + 8)).toUInt64).toNat * _ + _ = _
      rw [e1, Nat.add_mul, Nat.mul_assoc, Nat.mul_comm 256]
      rw [Nat.mul_comm (g8 c (k + 8)).toNat]; omega
    · show ((rvN c k).1 * 256 + (g8 c (k + 8)).toUInt64).toNat < _
      rw [e1, Nat.pow_succ]; omega
    · show ((rvN c k).2 * 256 + (g8 c k).toUInt64).toNat * _ + _ = _
      rw [e2, Nat.add_mul, Nat.mul_assoc, Nat.mul_comm 256]
      rw [Nat.mul_comm (g8 c k).toNat]; omega
    · show ((rvN c k).2 * 256 + (g8 c k).toUInt64).toNat < _
      rw [e2, Nat.pow_succ]; omega
theorem rwN_nums (c : List UInt8) (lo hi : UInt64) : ∀ k, (rwN c lo hi k).2.1.toNat = lo.toNat / 256 ^ k ∧ (rwN c lo hi k).2.2.toNat = hi.toNat / 256 ^ k
  | 0 => by simp [rwN]
  | k + 1 => by
    obtain ⟨h1, h2⟩ := rwN_nums c lo hi k
    constructor
    · show ((rwN c lo hi k).2.1 / 256).toNat = _
      rw [UInt64.toNat_div, h1, Nat.pow_succ, ← Nat.div_div_eq_div_mul]; rfl
    · show ((rwN c lo hi k).2.2 / 256).toNat = _
      rw [UInt64.toNat_div, h2, Nat.pow_succ, ← Nat.div_div_eq_div_mul]; rfl
theorem rwN_get (c : List UInt8) (lo hi : UInt64) (h : c.length = 16) : ∀ k, k ≤ 8 → ∀ j, j < k →
    (g8 (rwN c lo hi k).1 (15 - j)).toNat = lo.toNat / 256 ^ j % 256 ∧ (g8 (rwN c lo hi k).1 (7 - j)).toNat = hi.toNat / 256 ^ j % 256
  | 0, _, j, hj => by omega
  | k + 1, hk, j, hj => by
    have hl : (rwN c lo hi k).1.length = 16 := by rw [rwN_len, h]
    obtain ⟨n1, n2⟩ := rwN_nums c lo hi k
    show (g8 (((rwN c lo hi k).1.set (7 - k) _).set (15 - k) _) (15 - j)).toNat = _ ∧ (g8 (((rwN c lo hi k).1.set (7 - k) _).set (15 - k) _) (7 - j)).toNat = _
    rw [FS _ _ _ _ (by rw [List.length_set]; omega), FS _ _ _ _ (by omega), FS _ _ _ _ (by rw [List.length_set]; omega), FS _ _ _ _ (by omega)]
    by_cases hjk : j = k
    · subst hjk
      rw [if_pos rfl, if_neg (by omega), if_pos rfl, UInt64.toNat_toUInt8, UInt64.toNat_toUInt8, n1, n2]
      exact ⟨rfl, rfl⟩
    · obtain ⟨a1, a2⟩ := rwN_get c lo hi h k (by omega) j (by omega)
      rw [if_neg (by omega), if_neg (by omega), if_neg (by omega), if_neg (by omega)]
      exact ⟨a1, a2⟩
theorem digits_mod (x : Nat) : ∀ k, x % 256 ^ (k + 1) = x % 256 ^ k + 256 ^ k * (x / 256 ^ k % 256) := fun k => by rw [Nat.pow_succ, Nat.mod_mul]
theorem rwN_val (c : List UInt8) (lo hi : UInt64) (h : c.length = 16) : lowV (rwN c lo hi 8).1 16 = lo.toNat + 256 ^ 8 * hi.toNat := by
 have hg := rwN_get c lo hi h 8 (by omega)
 have k1 : ∀ k, k ≤ 8 → lowV (rwN c lo hi 8).1 k = lo.toNat % 256 ^ k := by
  intro k
  induction k with
  | zero => intro _; simp [lowV, Nat.mod_one]
  | succ k ih => intro hk; rw [lowV, ih (by omega), (hg k (by omega)).1, digits_mod]
 have k2 : ∀ k, k ≤ 8 → lowV (rwN c lo hi 8).1 (k + 8) = lo.toNat + 256 ^ 8 * (hi.toNat % 256 ^ k) := by
  intro k
  induction k with
  | zero =>
   intro _
   rw [Nat.zero_add, k1 8 (by omega), Nat.mod_eq_of_lt (by have := lo.toNat_lt; omega)]; simp [Nat.mod_one]
  | succ k ih =>
   intro hk
   rw [show k + 1 + 8 = (k + 8) + 1 from by omega, lowV, ih (by omega), show 15 - (k + 8) = 7 - k from by omega, (hg k (by omega)).2, digits_mod, Nat.mul_add, Nat.pow_add, Nat.mul_comm (256 ^ k) (256 ^ 8)]
   rw [Nat.mul_assoc]; omega
 rw [k2 8 (by omega), Nat.mod_eq_of_lt (by have := hi.toNat_lt; omega)]
theorem next_rnext {c : List UInt8} {n : UInt64} (h : c.length = 16) : nextL c n = rnextL c n := by
  refine lowV_inj (nextL_len h) (rnextL_len h) ?_
  rw [nextL_val h, rnextL, rwN_val _ _ _ h]
  obtain ⟨h1, h2, h3, h4⟩ := rvN_val c h 8 (by omega)
  simp only [Nat.sub_self, Nat.pow_zero, Nat.mul_one, lowV, Nat.add_zero] at h1
  rw [show 16 - 8 = 8 from rfl] at h3
  have hn := n.toNat_lt
  have e1 : ((rvN c 8).1 + n).toNat = ((rvN c 8).1.toNat + n.toNat) % 256 ^ 8 := by rw [UInt64.toNat_add]
  have hh : ((rvN c 8).2 + 1).toNat = ((rvN c 8).2.toNat + 1) % 256 ^ 8 := by rw [UInt64.toNat_add]; rfl
  have hL : lowV c 8 = (rvN c 8).1.toNat := by rw [show lowV c 8 = _ from h1.symm]
  rw [← h3, hL]
  by_cases hc : (rvN c 8).1 + n < (rvN c 8).1
  · rw [if_pos hc, e1, hh]
    rw [UInt64.lt_iff_toNat_lt, e1] at hc
    omega
  · rw [if_neg hc, e1]
    rw [UInt64.lt_iff_toNat_lt, e1] at hc
    omega
def strG (blk : Nat → List UInt8) : Nat → List UInt8
 | 0 => []
 | k + 1 => strG blk k ++ blk k
theorem GH {blk : Nat → List UInt8} (h : ∀ k, (blk k).length = 16) : ∀ k, (strG blk k).length = 16*k
 | 0 => rfl
 | k + 1 => by rw [strG, List.length_append, GH h k, h k]; omega
def strT (blk : Nat → List UInt8) (n : Nat) : List UInt8 := (strG blk (n / 16 + 1)).take n
theorem strG_take {blk : Nat → List UInt8} (h : ∀ k, (blk k).length = 16) (n m : Nat) (hm : n ≤ 16*m) : ∀ d, (strG blk (m + d)).take n = (strG blk m).take n
 | 0 => rfl
 | d + 1 => by rw [← Nat.add_assoc, strG, List.take_append_of_le_length (by rw [GH h]; omega), strG_take h n m hm d]
theorem strT_any {blk : Nat → List UInt8} (h : ∀ k, (blk k).length = 16) {n m : Nat} (hm : n ≤ 16*m) : (strG blk m).take n = strT blk n := by
 have h1 := strG_take h n (n / 16 + 1) (by omega) m
 have h2 := strG_take h n m hm (n / 16 + 1)
 rw [strT, ← h1, ← h2, Nat.add_comm]
theorem GG {blk : Nat → List UInt8} (h : ∀ k, (blk k).length = 16) (n : Nat) : (strT blk n).length = n := by
 rw [strT, List.length_take, GH h]; omega
theorem strT_part {blk : Nat → List UInt8} (h : ∀ k, (blk k).length = 16) {n k : Nat} (h1 : 16*k ≤ n) (h2 : n ≤ 16*k + 16) : strG blk k ++ mid (blk k) 0 (n - 16*k) = strT blk n := by
 rw [← strT_any h (m := k + 1) (by omega), strG, List.take_append, GH h, List.take_of_length_le (by rw [GH h]; omega), mid, List.drop_zero]
theorem strT_full {blk : Nat → List UInt8} (h : ∀ k, (blk k).length = 16) {n k : Nat} (h2 : 16*k + 16 = n) : strG blk k ++ blk k = strT blk n := by
 rw [← strT_any h (m := k + 1) (by omega), strG, List.take_of_length_le (by rw [List.length_append, GH h, h]; omega)]
theorem strT_zero {blk : Nat → List UInt8} : strT blk 0 = [] := by rw [strT, List.take_zero]
theorem strG_congr {a b : Nat → List UInt8} (h : ∀ k, a k = b k) : ∀ k, strG a k = strG b k
 | 0 => rfl
 | k + 1 => by rw [strG, strG, strG_congr h k, h k]
theorem strT_congr {a b : Nat → List UInt8} (h : ∀ k, a k = b k) (n : Nat) : strT a n = strT b n := by rw [strT, strT, strG_congr h]
end Go.Sx
namespace Go.Proofs.YtkdpdgpphpngeaaDoor
open Go Go.Sx
attribute [local irreducible] mid zr8 rkeysL rencL encL rkL thereL backL nextL rnextL
theorem next_c (c : List UInt8) (n : UInt64) (w : World) (hc : c.length = 16) : Calls Tryd.prog 211 #[.agg (cu8 c).toArray, U64 n] w (Post w [] (fun v L => v = .agg (cu8 (nextL c n)).toArray ∧ L = [])) := by
 refine enter w [] 30 [] [.agg (cu8 c).toArray, U64 n] Tryd.func211 rfl rfl (by simp) (BR (by simp) (by simp) (by simp)) ?_
 show JC _ _ _ [(0, .agg (cu8 c).toArray), (1, U64 n)] _
 refine AF (AB (AV (CG (.agg (cu8 c).toArray) (cu8 c) rfl (by first | rfl | simp)) rfl ?_))
 rintro v1 L1 ⟨nb1, hnb1, rfl, rfl⟩
 show JL _ _ _ _ ((2, Ptr nb1 0) :: _) [⟨nb1, cu8 c, 27, (0, 0)⟩]
 refine AV (A7 _ (cu8 (zr8 16)) DF (by kernel_rfl)) rfl ?_
 rintro v1 L1 ⟨nb2, hnb2, rfl, rfl⟩
 show JL _ _ _ _ ((4, Ptr nb2 0) :: _) [_, ⟨nb2, cu8 (zr8 16), 27, (0, 0)⟩]
 refine AI (AC (AF (AB (AA _ (AE rfl) rfl ?_))))
 refine AI (AC (AF (AF (AB (AA _ (AE rfl) rfl ?_)))))
 refine AI (AC (A9 (DI (ι := Nat × UInt64 × List UInt8 × UInt64) (fun ⟨k, cr, s, m⟩ => [(2, Ptr nb1 0), (4, Ptr nb2 0), (5, U64 cr), (1, U64 m), (6, I64 (-(k:Int) + 15))]) (fun ⟨k, cr, s, m⟩ => [⟨nb1, cu8 s, 27, (0, 0)⟩, ⟨nb2, cu8 (zr8 16), 27, (0, 0)⟩]) (fun ⟨k, cr, s, m⟩ => k ≤ 16 ∧ (cr, s, m) = nxN c n k ∧ s.length = 16) (fun ⟨k, cr, s, m⟩ => 16 - k) (0, 0, c, n) ⟨by omega, rfl, hc⟩ (Sub.all rfl) rfl ?_)))
 rintro ⟨k, cr, s, m⟩ ⟨hx1, hx2, hs⟩
 show JC _ _ _ [(2, Ptr nb1 0), (4, Ptr nb2 0), (5, U64 cr), (1, U64 m), (6, I64 (-(k:Int) + 15))] [⟨nb1, cu8 s, 27, (0, 0)⟩, ⟨nb2, cu8 (zr8 16), 27, (0, 0)⟩]
 refine AF (AF (AB (AA _ (AG rfl) rfl ?_)))
 refine AA (.bool (decide ((0:Int) ≤ (-(k:Int) + 15)))) (AJ rfl rfl fun _ => FY _ _) rfl ?_
 refine AI (AC (B5 (decide ((0:Int) ≤ (-(k:Int) + 15))) rfl (fun hb1 => ?_) (fun hb1 => ?_)))
 ·
  have hp1 : (0:Int) ≤ (-(k:Int) + 15) := of_decide_eq_true hb1
  refine BJ (AC (AF (A9 (AF (AB (AA _ (AG rfl) rfl ?_))))))
  refine AA (Ptr nb1 (15 - k)) (A1 16 5 1 (15 - k) BF AM rfl rfl (by omega) (by omega) (by omega)) rfl ?_
  refine AA (U8 (g8 s (15 - k))) (AL rfl (AZ BZ (AR 0 rfl (Seg.get (EC (i := (15 - k)) (by rw [hs]; omega)))))) rfl ?_
  refine AA (U64 ((g8 s (15 - k)).toUInt64)) (EG _ _ rfl fun _ => conv_u8_u64 (by rw [B3]; rfl) B8 _) rfl ?_
  refine AA _ (AG rfl) rfl ?_
  refine AA (U64 (m &&& (255:UInt64))) (AJ rfl rfl fun _ => bin_and_u64 m (255:UInt64)) rfl ?_
  refine AA (U64 (((g8 s (15 - k)).toUInt64) + (m &&& (255:UInt64)))) (AJ rfl rfl fun _ => GE ((g8 s (15 - k)).toUInt64) (m &&& (255:UInt64))) rfl ?_
  refine AA _ (AG rfl) rfl ?_
  refine AA (U64 ((((g8 s (15 - k)).toUInt64) + (m &&& (255:UInt64))) + cr)) (AJ rfl rfl fun _ => GE (((g8 s (15 - k)).toUInt64) + (m &&& (255:UInt64))) cr) rfl ?_
  refine AA _ (AE rfl) rfl ?_
  refine AI (AC (AF (AB (AA _ (AG rfl) rfl ?_))))
  refine AA _ (AG rfl) rfl ?_
  refine AA (U8 (((((g8 s (15 - k)).toUInt64) + (m &&& (255:UInt64))) + cr).toUInt8)) (EG _ _ rfl fun _ => E9 (by rw [B8]; rfl) B3 _) rfl ?_
  refine AA (Ptr nb1 (15 - k)) (A1 16 5 1 (15 - k) BF AM rfl rfl (by omega) (by omega) (by omega)) rfl ?_
  have hl1 : (s.set (15 - k) (((((g8 s (15 - k)).toUInt64) + (m &&& (255:UInt64))) + cr).toUInt8)).length = 16 := by first | (rw [List.length_set]; exact hs) | simp [hs]
  refine A0 (CN 0 nb1 (15 - k) 1 (cu8 s) 27 (U8 (((((g8 s (15 - k)).toUInt64) + (m &&& (255:UInt64))) + cr).toUInt8)) ([U8 (((((g8 s (15 - k)).toUInt64) + (m &&& (255:UInt64))) + cr).toUInt8)]) (cu8 (s.set (15 - k) (((((g8 s (15 - k)).toUInt64) + (m &&& (255:UInt64))) + cr).toUInt8))) rfl rfl rfl rfl AM rfl (by simp [Value.oneCell']) (by simp [hs]; try omega) (lay8 _ _ _ (by rw [hs]; omega))) rfl ?_
  show JL _ _ _ _ _ [⟨nb1, cu8 (s.set (15 - k) (((((g8 s (15 - k)).toUInt64) + (m &&& (255:UInt64))) + cr).toUInt8)), 27, (0, 0)⟩, _]
  refine AI (AC (AF (AB (AA _ (AG rfl) rfl ?_))))
  refine AA (U64 (((((g8 s (15 - k)).toUInt64) + (m &&& (255:UInt64))) + cr) >>> (8:UInt64))) (AJ rfl rfl fun _ => FC ((((g8 s (15 - k)).toUInt64) + (m &&& (255:UInt64))) + cr) _ _ 8 (by decide) rfl) rfl ?_
  refine AA _ (AE rfl) rfl ?_
  refine AI (AC (AB (AA _ (AG rfl) rfl ?_)))
  refine AA (U64 (m >>> (8:UInt64))) (AJ rfl rfl fun _ => FC m _ _ 8 (by decide) rfl) rfl ?_
  refine AA _ (AE rfl) rfl ?_
  refine AI (A5 (AC (AB (AA _ (AG rfl) rfl ?_))))
  refine AA (I64 (-(k:Int) + 14)) (AJ rfl rfl fun _ => C5 _ _ (-(k:Int) + 14) (by omega) (by omega)) rfl ?_
  refine AA _ (AE rfl) rfl ?_
  refine AI (B6 (DN (k + 1, ((((g8 s (15 - k)).toUInt64) + (m &&& (255:UInt64))) + cr) >>> (8:UInt64), s.set (15 - k) (((((g8 s (15 - k)).toUInt64) + (m &&& (255:UInt64))) + cr).toUInt8), m >>> (8:UInt64)) ⟨by omega, by rw [nxN, ← hx2]; rfl, hl1⟩ (by first | (simp; omega) | simp | (dsimp only; omega) | omega) (Sub.cons rfl (Sub.cons rfl (Sub.cons rfl (Sub.cons rfl (Sub.cons (EM (by omega)) (Sub.nil)))))) rfl))
 ·
  have hp1 : ¬ ((0:Int) ≤ (-(k:Int) + 15)) := of_decide_eq_false hb1
  refine DA (AQ (AQ (BV (AC (AF (AB (AA (.agg (cu8 s).toArray) (AL rfl (BH BM AT (A8 hs) (AR 0 rfl (AN _)))) rfl ?_)))))))
  refine A0 (AX 1 nb2 16 (cu8 (zr8 16)) 27 (cu8 s) rfl rfl rfl AT (A8 hs) (by first | exact CD | exact CS | exact CR | (simp [cu8, cu32, cu64, Value.oneCell']; done)) (by simp [(AP 16)]) (A6 (by simp [(AP 16), hs]))) rfl ?_
  show JL _ _ _ _ _ [_, ⟨nb2, cu8 s, 27, (0, 0)⟩]
  refine AI (AC (BO (BQ (.agg (cu8 s).toArray) (res1 Tryd.results211 (DY rfl (BH BM AT (A8 hs) (AR 1 rfl (AN _))))) fun w1 hw1 => ?_)))
  have e1 : k = 16 := by omega
  subst e1
  rw [show s = nextL c n by rw [nextL, ← hx2]]
  exact ⟨_, [], rfl, ⟨rfl, rfl⟩, hw1.sub (by simp) (by simp)⟩
theorem rnext_c (c : List UInt8) (n : UInt64) (w : World) (hc : c.length = 16) : Calls Tryd.prog 206 #[.agg (cu8 c).toArray, U64 n] w (Post w [] (fun v L => v = .agg (cu8 (rnextL c n)).toArray ∧ L = [])) := by
 refine enter w [] 56 [] [.agg (cu8 c).toArray, U64 n] Tryd.func206 rfl rfl (by simp) (BR (by simp) (by simp) (by simp)) ?_
 show JC _ _ _ [(0, .agg (cu8 c).toArray), (1, U64 n)] _
 refine AF (AB (AV (CG (.agg (cu8 c).toArray) (cu8 c) rfl (by first | rfl | simp)) rfl ?_))
 rintro v1 L1 ⟨nb1, hnb1, rfl, rfl⟩
 show JL _ _ _ _ ((2, Ptr nb1 0) :: _) [⟨nb1, cu8 c, 27, (0, 0)⟩]
 refine AV (A7 _ (cu8 (zr8 16)) DF (by kernel_rfl)) rfl ?_
 rintro v1 L1 ⟨nb2, hnb2, rfl, rfl⟩
 show JL _ _ _ _ ((4, Ptr nb2 0) :: _) [_, ⟨nb2, cu8 (zr8 16), 27, (0, 0)⟩]
 refine AI (AC (AF (AB (AA _ (AE rfl) rfl ?_))))
 refine AA _ (AE rfl) rfl ?_
 refine AI (AC (AF (AF (AB (AA _ (AE rfl) rfl ?_)))))
 refine AI (AC (A9 (DI (ι := Nat × UInt64 × UInt64) (fun ⟨k, lo, hi⟩ => [(1, U64 n), (2, Ptr nb1 0), (4, Ptr nb2 0), (5, U64 lo), (6, U64 hi), (7, I64 k)]) (fun ⟨k, lo, hi⟩ => [⟨nb1, cu8 c, 27, (0, 0)⟩, ⟨nb2, cu8 (zr8 16), 27, (0, 0)⟩]) (fun ⟨k, lo, hi⟩ => k ≤ 8 ∧ (lo, hi) = rvN c k) (fun ⟨k, lo, hi⟩ => 8 - k) (0, 0, 0) ⟨by omega, rfl⟩ (Sub.all rfl) rfl ?_)))
 rintro ⟨k, lo, hi⟩ ⟨hx1, hx2⟩
 show JC _ _ _ [(1, U64 n), (2, Ptr nb1 0), (4, Ptr nb2 0), (5, U64 lo), (6, U64 hi), (7, I64 k)] [⟨nb1, cu8 c, 27, (0, 0)⟩, ⟨nb2, cu8 (zr8 16), 27, (0, 0)⟩]
 refine AF (AF (AB (AA _ (AG rfl) rfl ?_)))
 refine AA (.bool (decide (((k:Int)) < (8:Int)))) (AJ rfl rfl fun _ => B9 _ _) rfl ?_
 refine AI (AC (B5 (decide (((k:Int)) < (8:Int))) rfl (fun hb1 => ?_) (fun hb1 => ?_)))
 ·
  have hp1 : ((k:Int)) < (8:Int) := of_decide_eq_true hb1
  refine BJ (AC (AF (A9 (AF (AB (AA _ (AG rfl) rfl ?_))))))
  refine AA (U64 (hi * (256:UInt64))) (AJ rfl rfl fun _ => bin_mul_u64 hi (256:UInt64)) rfl ?_
  refine AA _ (AG rfl) rfl ?_
  refine AA (Ptr nb1 k) (A1 16 5 1 k BF AM rfl rfl (by omega) (by omega) (by omega)) rfl ?_
  refine AA (U8 (g8 c k)) (AL rfl (AZ BZ (AR 0 rfl (Seg.get (EC (i := k) (by rw [hc]; omega)))))) rfl ?_
  refine AA (U64 ((g8 c k).toUInt64)) (EG _ _ rfl fun _ => conv_u8_u64 (by rw [B3]; rfl) B8 _) rfl ?_
  refine AA (U64 ((hi * (256:UInt64)) + ((g8 c k).toUInt64))) (AJ rfl rfl fun _ => GE (hi * (256:UInt64)) ((g8 c k).toUInt64)) rfl ?_
  refine AA _ (AE rfl) rfl ?_
  refine AI (AC (AB (AA _ (AG rfl) rfl ?_)))
  refine AA (U64 (lo * (256:UInt64))) (AJ rfl rfl fun _ => bin_mul_u64 lo (256:UInt64)) rfl ?_
  refine AA _ (AG rfl) rfl ?_
  refine AA (I64 ((k:Int) + 8)) (AJ rfl rfl fun _ => BP _ _ ((k:Int) + 8) (by omega) (by omega)) rfl ?_
  refine AA (Ptr nb1 (k + 8)) (A1 16 5 1 (k + 8) BF AM rfl rfl (by omega) (by omega) (by omega)) rfl ?_
  refine AA (U8 (g8 c (k + 8))) (AL rfl (AZ BZ (AR 0 rfl (Seg.get (EC (i := (k + 8)) (by rw [hc]; omega)))))) rfl ?_
  refine AA (U64 ((g8 c (k + 8)).toUInt64)) (EG _ _ rfl fun _ => conv_u8_u64 (by rw [B3]; rfl) B8 _) rfl ?_
  refine AA (U64 ((lo * (256:UInt64)) + ((g8 c (k + 8)).toUInt64))) (AJ rfl rfl fun _ => GE (lo * (256:UInt64)) ((g8 c (k + 8)).toUInt64)) rfl ?_
  refine AA _ (AE rfl) rfl ?_
  refine AI (A5 (AC (AB (AA _ (AG rfl) rfl ?_))))
  refine AA (I64 ((k:Int) + 1)) (AJ rfl rfl fun _ => BP _ _ ((k:Int) + 1) (by omega) (by omega)) rfl ?_
  refine AA _ (AE rfl) rfl ?_
  refine AI (B6 (DN (k + 1, (lo * (256:UInt64)) + ((g8 c (k + 8)).toUInt64), (hi * (256:UInt64)) + ((g8 c k).toUInt64)) ⟨by omega, by rw [rvN, ← hx2]⟩ (by first | (simp; omega) | simp | (dsimp only; omega) | omega) (Sub.all rfl) rfl))
 ·
  have hp1 : ¬ (((k:Int)) < (8:Int)) := of_decide_eq_false hb1
  refine DA (AQ (AQ (BV (AC (AF (AF (AB (AA _ (AG rfl) rfl ?_))))))))
  refine AA _ (AG rfl) rfl ?_
  refine AA (U64 (lo + n)) (AJ rfl rfl fun _ => GE lo n) rfl ?_
  refine AA _ (AG rfl) rfl ?_
  refine AA (.bool (decide ((lo + n) < lo))) (AJ rfl rfl fun _ => bin_lss_u64 (lo + n) lo) rfl ?_
  refine AI (AC (B5 (decide ((lo + n) < lo)) rfl (fun hb2 => ?_) (fun hb2 => ?_)))
  ·
   have hp2 : (lo + n) < lo := of_decide_eq_true hb2
   refine AB (AA _ (AG rfl) rfl ?_)
   refine AA (U64 (hi + (1:UInt64))) (AJ rfl rfl fun _ => GE hi (1:UInt64)) rfl ?_
   refine AA _ (AE rfl) rfl ?_
   refine AI (AC (AF (AB (AA _ (AG rfl) rfl ?_))))
   refine AA _ (AG rfl) rfl ?_
   refine AA (U64 (lo + n)) (AJ rfl rfl fun _ => GE lo n) rfl ?_
   refine AA _ (AE rfl) rfl ?_
   refine AI (AC (AF (AF (AB (AA _ (AE rfl) rfl ?_)))))
   refine AI (AC (A9 (DI (ι := Nat × List UInt8 × UInt64 × UInt64) (fun ⟨j, s, lo2, hi2⟩ => [(2, Ptr nb1 0), (4, Ptr nb2 0), (5, U64 lo2), (6, U64 hi2), (8, I64 (-(j:Int) + 7))]) (fun ⟨j, s, lo2, hi2⟩ => [⟨nb1, cu8 s, 27, (0, 0)⟩, ⟨nb2, cu8 (zr8 16), 27, (0, 0)⟩]) (fun ⟨j, s, lo2, hi2⟩ => j ≤ 8 ∧ (s, lo2, hi2) = rwN c (lo + n) (hi + (1:UInt64)) j ∧ s.length = 16) (fun ⟨j, s, lo2, hi2⟩ => 8 - j) (0, c, lo + n, (hi + (1:UInt64))) ⟨by omega, rfl, hc⟩ (Sub.all rfl) rfl ?_)))
   rintro ⟨j, s, lo2, hi2⟩ ⟨hy1, hy2, hs⟩
   show JC _ _ _ [(2, Ptr nb1 0), (4, Ptr nb2 0), (5, U64 lo2), (6, U64 hi2), (8, I64 (-(j:Int) + 7))] [⟨nb1, cu8 s, 27, (0, 0)⟩, ⟨nb2, cu8 (zr8 16), 27, (0, 0)⟩]
   refine AF (AF (AB (AA _ (AG rfl) rfl ?_)))
   refine AA (.bool (decide ((0:Int) ≤ (-(j:Int) + 7)))) (AJ rfl rfl fun _ => FY _ _) rfl ?_
   refine AI (AC (B5 (decide ((0:Int) ≤ (-(j:Int) + 7))) rfl (fun hb3 => ?_) (fun hb3 => ?_)))
   ·
    have hp3 : (0:Int) ≤ (-(j:Int) + 7) := of_decide_eq_true hb3
    refine BJ (AC (AF (A9 (AF (AB (AA _ (AG rfl) rfl ?_))))))
    refine AA _ (AG rfl) rfl ?_
    refine AA (U8 hi2.toUInt8) (EG _ _ rfl fun _ => E9 (by rw [B8]; rfl) B3 _) rfl ?_
    refine AA (Ptr nb1 (7 - j)) (A1 16 5 1 (7 - j) BF AM rfl rfl (by omega) (by omega) (by omega)) rfl ?_
    have hl1 : (s.set (7 - j) hi2.toUInt8).length = 16 := by first | (rw [List.length_set]; exact hs) | simp [hs]
    refine A0 (CN 0 nb1 (7 - j) 1 (cu8 s) 27 (U8 hi2.toUInt8) ([U8 hi2.toUInt8]) (cu8 (s.set (7 - j) hi2.toUInt8)) rfl rfl rfl rfl AM rfl (by simp [Value.oneCell']) (by simp [hs]; try omega) (lay8 _ _ _ (by rw [hs]; omega))) rfl ?_
    show JL _ _ _ _ _ [⟨nb1, cu8 (s.set (7 - j) hi2.toUInt8), 27, (0, 0)⟩, _]
    refine AI (AC (AF (AB (AA _ (AG rfl) rfl ?_))))
    refine AA (I64 (-(j:Int) + 15)) (AJ rfl rfl fun _ => BP _ _ (-(j:Int) + 15) (by omega) (by omega)) rfl ?_
    refine AA _ (AG rfl) rfl ?_
    refine AA (U8 lo2.toUInt8) (EG _ _ rfl fun _ => E9 (by rw [B8]; rfl) B3 _) rfl ?_
    refine AA (Ptr nb1 (15 - j)) (A1 16 5 1 (15 - j) BF AM rfl rfl (by omega) (by omega) (by omega)) rfl ?_
    have hl2 : ((s.set (7 - j) hi2.toUInt8).set (15 - j) lo2.toUInt8).length = 16 := by first | (rw [List.length_set]; exact hl1) | simp [hl1]
    refine A0 (CN 0 nb1 (15 - j) 1 (cu8 (s.set (7 - j) hi2.toUInt8)) 27 (U8 lo2.toUInt8) ([U8 lo2.toUInt8]) (cu8 ((s.set (7 - j) hi2.toUInt8).set (15 - j) lo2.toUInt8)) rfl rfl rfl rfl AM rfl (by simp [Value.oneCell']) (by simp [hl1]; try omega) (lay8 _ _ _ (by rw [hl1]; omega))) rfl ?_
    show JL _ _ _ _ _ [⟨nb1, cu8 ((s.set (7 - j) hi2.toUInt8).set (15 - j) lo2.toUInt8), 27, (0, 0)⟩, _]
    refine AI (AC (AF (AB (AA _ (AG rfl) rfl ?_))))
    refine AA (U64 (hi2 / (256:UInt64))) (AJ rfl rfl fun _ => bin_quo_u64 hi2 (256:UInt64) (by decide)) rfl ?_
    refine AA _ (AE rfl) rfl ?_
    refine AI (AC (AB (AA _ (AG rfl) rfl ?_)))
    refine AA (U64 (lo2 / (256:UInt64))) (AJ rfl rfl fun _ => bin_quo_u64 lo2 (256:UInt64) (by decide)) rfl ?_
    refine AA _ (AE rfl) rfl ?_
    refine AI (A5 (AC (AB (AA _ (AG rfl) rfl ?_))))
    refine AA (I64 (-(j:Int) + 6)) (AJ rfl rfl fun _ => C5 _ _ (-(j:Int) + 6) (by omega) (by omega)) rfl ?_
    refine AA _ (AE rfl) rfl ?_
    refine AI (B6 (DN (j + 1, (s.set (7 - j) hi2.toUInt8).set (15 - j) lo2.toUInt8, lo2 / (256:UInt64), hi2 / (256:UInt64)) ⟨by omega, by rw [rwN, ← hy2], hl2⟩ (by first | (simp; omega) | simp | (dsimp only; omega) | omega) (Sub.cons rfl (Sub.cons rfl (Sub.cons rfl (Sub.cons rfl (Sub.cons (EM (by omega)) (Sub.nil)))))) rfl))
   ·
    have hp3 : ¬ ((0:Int) ≤ (-(j:Int) + 7)) := of_decide_eq_false hb3
    refine DA (AQ (AQ (BV (AC (AF (AB (AA (.agg (cu8 s).toArray) (AL rfl (BH BM AT (A8 hs) (AR 0 rfl (AN _)))) rfl ?_)))))))
    refine A0 (AX 1 nb2 16 (cu8 (zr8 16)) 27 (cu8 s) rfl rfl rfl AT (A8 hs) (by first | exact CD | exact CS | exact CR | (simp [cu8, cu32, cu64, Value.oneCell']; done)) (by simp [(AP 16)]) (A6 (by simp [(AP 16), hs]))) rfl ?_
    show JL _ _ _ _ _ [_, ⟨nb2, cu8 s, 27, (0, 0)⟩]
    refine AI (AC (BO (BQ (.agg (cu8 s).toArray) (res1 Tryd.results206 (DY rfl (BH BM AT (A8 hs) (AR 1 rfl (AN _))))) fun w1 hw1 => ?_)))
    have e1 : k = 8 := by omega
    have e2 : j = 8 := by omega
    subst e1; subst e2
    have e3 := congrArg Prod.fst hx2
    have e4 := congrArg Prod.snd hx2
    dsimp only at e3 e4
    have e5 : s = rnextL c n := by rw [rnextL, ← e3, ← e4, if_pos (of_decide_eq_true hb2), ← hy2]
    rw [e5]
    exact ⟨_, [], rfl, ⟨rfl, rfl⟩, hw1.sub (by simp) (by simp)⟩
  ·
   have hp2 : ¬ ((lo + n) < lo) := of_decide_eq_false hb2
   refine BJ (AC (AF (AB (AA _ (AG rfl) rfl ?_))))
   refine AA _ (AG rfl) rfl ?_
   refine AA (U64 (lo + n)) (AJ rfl rfl fun _ => GE lo n) rfl ?_
   refine AA _ (AE rfl) rfl ?_
   refine AI (AC (AF (AF (AB (AA _ (AE rfl) rfl ?_)))))
   refine AI (AC (A9 (DI (ι := Nat × List UInt8 × UInt64 × UInt64) (fun ⟨j, s, lo2, hi2⟩ => [(2, Ptr nb1 0), (4, Ptr nb2 0), (5, U64 lo2), (6, U64 hi2), (8, I64 (-(j:Int) + 7))]) (fun ⟨j, s, lo2, hi2⟩ => [⟨nb1, cu8 s, 27, (0, 0)⟩, ⟨nb2, cu8 (zr8 16), 27, (0, 0)⟩]) (fun ⟨j, s, lo2, hi2⟩ => j ≤ 8 ∧ (s, lo2, hi2) = rwN c (lo + n) hi j ∧ s.length = 16) (fun ⟨j, s, lo2, hi2⟩ => 8 - j) (0, c, lo + n, hi) ⟨by omega, rfl, hc⟩ (Sub.all rfl) rfl ?_)))
   rintro ⟨j, s, lo2, hi2⟩ ⟨hy1, hy2, hs⟩
   show JC _ _ _ [(2, Ptr nb1 0), (4, Ptr nb2 0), (5, U64 lo2), (6, U64 hi2), (8, I64 (-(j:Int) + 7))] [⟨nb1, cu8 s, 27, (0, 0)⟩, ⟨nb2, cu8 (zr8 16), 27, (0, 0)⟩]
   refine AF (AF (AB (AA _ (AG rfl) rfl ?_)))
   refine AA (.bool (decide ((0:Int) ≤ (-(j:Int) + 7)))) (AJ rfl rfl fun _ => FY _ _) rfl ?_
   refine AI (AC (B5 (decide ((0:Int) ≤ (-(j:Int) + 7))) rfl (fun hb4 => ?_) (fun hb4 => ?_)))
   ·
    have hp4 : (0:Int) ≤ (-(j:Int) + 7) := of_decide_eq_true hb4
    refine BJ (AC (AF (A9 (AF (AB (AA _ (AG rfl) rfl ?_))))))
    refine AA _ (AG rfl) rfl ?_
    refine AA (U8 hi2.toUInt8) (EG _ _ rfl fun _ => E9 (by rw [B8]; rfl) B3 _) rfl ?_
    refine AA (Ptr nb1 (7 - j)) (A1 16 5 1 (7 - j) BF AM rfl rfl (by omega) (by omega) (by omega)) rfl ?_
    have hl3 : (s.set (7 - j) hi2.toUInt8).length = 16 := by first | (rw [List.length_set]; exact hs) | simp [hs]
    refine A0 (CN 0 nb1 (7 - j) 1 (cu8 s) 27 (U8 hi2.toUInt8) ([U8 hi2.toUInt8]) (cu8 (s.set (7 - j) hi2.toUInt8)) rfl rfl rfl rfl AM rfl (by simp [Value.oneCell']) (by simp [hs]; try omega) (lay8 _ _ _ (by rw [hs]; omega))) rfl ?_
    show JL _ _ _ _ _ [⟨nb1, cu8 (s.set (7 - j) hi2.toUInt8), 27, (0, 0)⟩, _]
    refine AI (AC (AF (AB (AA _ (AG rfl) rfl ?_))))
    refine AA (I64 (-(j:Int) + 15)) (AJ rfl rfl fun _ => BP _ _ (-(j:Int) + 15) (by omega) (by omega)) rfl ?_
    refine AA _ (AG rfl) rfl ?_
    refine AA (U8 lo2.toUInt8) (EG _ _ rfl fun _ => E9 (by rw [B8]; rfl) B3 _) rfl ?_
    refine AA (Ptr nb1 (15 - j)) (A1 16 5 1 (15 - j) BF AM rfl rfl (by omega) (by omega) (by omega)) rfl ?_
    have hl4 : ((s.set (7 - j) hi2.toUInt8).set (15 - j) lo2.toUInt8).length = 16 := by first | (rw [List.length_set]; exact hl3) | simp [hl3]
    refine A0 (CN 0 nb1 (15 - j) 1 (cu8 (s.set (7 - j) hi2.toUInt8)) 27 (U8 lo2.toUInt8) ([U8 lo2.toUInt8]) (cu8 ((s.set (7 - j) hi2.toUInt8).set (15 - j) lo2.toUInt8)) rfl rfl rfl rfl AM rfl (by simp [Value.oneCell']) (by simp [hl3]; try omega) (lay8 _ _ _ (by rw [hl3]; omega))) rfl ?_
    show JL _ _ _ _ _ [⟨nb1, cu8 ((s.set (7 - j) hi2.toUInt8).set (15 - j) lo2.toUInt8), 27, (0, 0)⟩, _]
    refine AI (AC (AF (AB (AA _ (AG rfl) rfl ?_))))
    refine AA (U64 (hi2 / (256:UInt64))) (AJ rfl rfl fun _ => bin_quo_u64 hi2 (256:UInt64) (by decide)) rfl ?_
    refine AA _ (AE rfl) rfl ?_
    refine AI (AC (AB (AA _ (AG rfl) rfl ?_)))
    refine AA (U64 (lo2 / (256:UInt64))) (AJ rfl rfl fun _ => bin_quo_u64 lo2 (256:UInt64) (by decide)) rfl ?_
    refine AA _ (AE rfl) rfl ?_
    refine AI (A5 (AC (AB (AA _ (AG rfl) rfl ?_))))
    refine AA (I64 (-(j:Int) + 6)) (AJ rfl rfl fun _ => C5 _ _ (-(j:Int) + 6) (by omega) (by omega)) rfl ?_
    refine AA _ (AE rfl) rfl ?_
    refine AI (B6 (DN (j + 1, (s.set (7 - j) hi2.toUInt8).set (15 - j) lo2.toUInt8, lo2 / (256:UInt64), hi2 / (256:UInt64)) ⟨by omega, by rw [rwN, ← hy2], hl4⟩ (by first | (simp; omega) | simp | (dsimp only; omega) | omega) (Sub.cons rfl (Sub.cons rfl (Sub.cons rfl (Sub.cons rfl (Sub.cons (EM (by omega)) (Sub.nil)))))) rfl))
   ·
    have hp4 : ¬ ((0:Int) ≤ (-(j:Int) + 7)) := of_decide_eq_false hb4
    refine DA (AQ (AQ (BV (AC (AF (AB (AA (.agg (cu8 s).toArray) (AL rfl (BH BM AT (A8 hs) (AR 0 rfl (AN _)))) rfl ?_)))))))
    refine A0 (AX 1 nb2 16 (cu8 (zr8 16)) 27 (cu8 s) rfl rfl rfl AT (A8 hs) (by first | exact CD | exact CS | exact CR | (simp [cu8, cu32, cu64, Value.oneCell']; done)) (by simp [(AP 16)]) (A6 (by simp [(AP 16), hs]))) rfl ?_
    show JL _ _ _ _ _ [_, ⟨nb2, cu8 s, 27, (0, 0)⟩]
    refine AI (AC (BO (BQ (.agg (cu8 s).toArray) (res1 Tryd.results206 (DY rfl (BH BM AT (A8 hs) (AR 1 rfl (AN _))))) fun w1 hw1 => ?_)))
    have e1 : k = 8 := by omega
    have e2 : j = 8 := by omega
    subst e1; subst e2
    have e3 := congrArg Prod.fst hx2
    have e4 := congrArg Prod.snd hx2
    dsimp only at e3 e4
    have e5 : s = rnextL c n := by rw [rnextL, ← e3, ← e4, if_neg (of_decide_eq_false hb2), ← hy2]
    rw [e5]
    exact ⟨_, [], rfl, ⟨rfl, rfl⟩, hw1.sub (by simp) (by simp)⟩
def CiphM (w : World) (M : List Nat) (po : Option Addr) (ks : List UInt8) : Prop :=
 (False ∧ po = none ∧ ks = rkL (zr8 16)) ∨ ∃ c, po = some ⟨c, 0, none⟩ ∧ c < w.heap.size ∧ c ∉ M ∧ ks.length = 176 ∧ w.heap[c]? = some (.cells (cu8 ks ++ cu8 thereL ++ cu8 backL).toArray 255 (0, 0))
def rbOf : Option Addr → List Nat
 | none => []
 | some a => [a.block]
theorem CiphM.len {w : World} {M : List Nat} {po : Option Addr} {ks : List UInt8} (h : CiphM w M po ks) : ks.length = 176 := by
  rcases h with ⟨h, _⟩ | ⟨c, _, _, _, h, _⟩
  · exact h.elim
  · exact h
theorem CiphM.at {C : Cx} {L : List Ent} {w : World} {M : List Nat} {po : Option Addr} {ks : List UInt8} (hw : Hp C.w0 C.M L w) (h : CiphM C.w0 C.M po ks) (hM : ∀ b, b < C.w0.heap.size → b ∉ C.M → b ∉ M := by simp) : CiphM w M po ks := by
  rcases h with h | ⟨c, h1, h2, h3, h4, h5⟩
  · exact .inl h
  · exact .inr ⟨c, h1, Nat.lt_of_lt_of_le h2 hw.le, hM c h2 h3, h4, hw.heap h5 h3⟩
theorem CiphM.rb {w W : World} {M M' : List Nat} {po : Option Addr} {ks : List UInt8} {l : Nat} (h : CiphM w M po ks) (hR : ∀ b ∈ rbOf po, b ∉ M' ∧ W.heap[b]? = w.heap[b]? ∧ b ≠ l) : CiphM W M' po ks := by
  rcases h with h | ⟨c, rfl, h2, h3, h4, h5⟩
  · exact .inl h
  · obtain ⟨h6, h7, _⟩ := hR c (by simp [rbOf])
    exact .inr ⟨c, rfl, (Array.getElem?_eq_some_iff.1 (h7.trans h5)).1, h6, h4, h7.trans h5⟩
theorem CiphM.rbM {w : World} {M : List Nat} {po : Option Addr} {ks : List UInt8} (h : CiphM w M po ks) : ∀ b ∈ rbOf po, b < w.heap.size ∧ b ∉ M := by
  rcases h with ⟨h, _⟩ | ⟨c, rfl, h2, h3, _, _⟩
  · exact h.elim
  · intro b hb; simp [rbOf] at hb; subst hb; exact ⟨h2, h3⟩
theorem encG_c (po : Option Addr) (ks b : List UInt8) (w : World) (hb : b.length = 16) (hC : CiphM w [] po ks) : Calls Tryd.prog 210 #[.pointer po, .agg (cu8 b).toArray] w (Post w [] (fun v L => v = .agg (cu8 (encL ks b)).toArray ∧ L = [])) := by
  rcases hC with ⟨h, _⟩ | ⟨c, rfl, h2, h3, h4, h5⟩
  · exact h.elim
  · exact enc_c c ks b w hb h4 h5
theorem blocks_c (po : Option Addr) (c : List UInt8) (w : World) (hc : c.length = 16) : Calls Tryd.prog 204 #[.pointer po, .agg (cu8 c).toArray] w (Post w [] (fun v L => ∃ b1 b2, v = .func (.func 209) #[] #[Ptr b1 0, Ptr b2 0] ∧ L = [⟨b1, [.pointer po], 223, (0, 0)⟩, ⟨b2, cu8 c, 27, (0, 0)⟩])) := by
 refine enter w [] 6 [] [.pointer po, .agg (cu8 c).toArray] Tryd.func204 rfl rfl (by simp) (BR (by simp) (by simp) (by simp)) ?_
 show JC _ _ _ [(0, .pointer po), (1, .agg (cu8 c).toArray)] _
 refine AF (AB (AV (CG (.pointer po) ([.pointer po]) rfl rfl) rfl ?_))
 rintro v1 L1 ⟨nb1, hnb1, rfl, rfl⟩
 show JL _ _ _ _ ((2, Ptr nb1 0) :: _) [⟨nb1, [.pointer po], 223, (0, 0)⟩]
 refine AV (CG (.agg (cu8 c).toArray) (cu8 c) rfl (by first | rfl | simp)) rfl ?_
 rintro v1 L1 ⟨nb2, hnb2, rfl, rfl⟩
 show JL _ _ _ _ ((3, Ptr nb2 0) :: _) [_, ⟨nb2, cu8 c, 27, (0, 0)⟩]
 refine AA _ (AE rfl) rfl ?_
 refine AI (AC (AF (AB (AA (.func (.func 209) #[] #[Ptr nb1 0, Ptr nb2 0]) (Ev_makeFunc (vs := [Ptr nb1 0, Ptr nb2 0]) rfl (fun _ _ => rfl)) rfl ?_))))
 refine AA _ (AE rfl) rfl ?_
 refine AI (AC (BO (BQ (.func (.func 209) #[] #[Ptr nb1 0, Ptr nb2 0]) (res1 Tryd.results204 (B2 rfl)) fun w1 hw1 => ?_)))
 exact ⟨_, _, rfl, ⟨nb1, nb2, rfl, rfl⟩, hw1⟩
theorem blocks_it (b1 b2 : Nat) (po : Option Addr) (ks c : List UInt8) (w0 : World) (hc : c.length = 16) (hC : CiphM w0 [] po ks) : Iter Tryd.prog 209 #[Ptr b1 0, Ptr b2 0] [⟨b1, [.pointer po], 223, (0, 0)⟩, ⟨b2, cu8 c, 27, (0, 0)⟩] (rbOf po) w0 (fun _ => True) (fun _ => False) (fun k => .agg (cu8 (encL ks (ctrN c k))).toArray) := by
 intro l B W S X S0 hS0 hW hl0 hlM hRb hY
 refine enterI W ((([⟨b1, [.pointer po], 223, (0, 0)⟩, ⟨b2, cu8 c, 27, (0, 0)⟩] : List Ent) ++ S0).map Ent.b) 11 ([⟨b1, [.pointer po], 223, (0, 0)⟩, ⟨b2, cu8 c, 27, (0, 0)⟩] ++ S0) [.func (.yield l) #[] #[], Ptr b1 0, Ptr b2 0] Tryd.func209 rfl rfl (by simp) hW ?_
 have hC2 : CiphM W ((([⟨b1, [.pointer po], 223, (0, 0)⟩, ⟨b2, cu8 c, 27, (0, 0)⟩] : List Ent) ++ S0).map Ent.b) po ks := hC.rb hRb
 show JC _ _ _ [(0, .func (.yield l) #[] #[]), (1, Ptr b1 0), (2, Ptr b2 0)] ([⟨b1, [.pointer po], 223, (0, 0)⟩, ⟨b2, cu8 c, 27, (0, 0)⟩] ++ S0)
 refine A9 ?_
 refine DI (ι := Nat × List Ent) (fun ⟨k, Sk⟩ => [(0, .func (.yield l) #[] #[]), (1, Ptr b1 0), (2, Ptr b2 0)]) (fun ⟨k, Sk⟩ => [⟨b1, [.pointer po], 223, (0, 0)⟩, ⟨b2, cu8 (ctrN c k), 27, (0, 0)⟩] ++ Sk) (fun ⟨k, Sk⟩ => k ≤ B ∧ S k Sk) (fun ⟨k, Sk⟩ => B - k) (0, S0) ⟨by omega, hS0⟩ (Sub.all rfl) rfl ?_
 rintro ⟨k, Sk⟩ ⟨hx1, hx2⟩
 show JC _ _ _ [(0, .func (.yield l) #[] #[]), (1, Ptr b1 0), (2, Ptr b2 0)] ([⟨b1, [.pointer po], 223, (0, 0)⟩, ⟨b2, cu8 (ctrN c k), 27, (0, 0)⟩] ++ Sk)
 refine AF ?_
 refine AF ?_
 refine AB ?_
 refine AA _ (AG rfl) rfl ?_
 refine AA (.pointer po) (AL rfl (AZ Tryd.isAgg223 (AR 0 rfl (Seg.head)))) rfl ?_
 refine AA (.agg (cu8 (ctrN c k)).toArray) (AL rfl (BH BM AT (A8 (FR hc k)) (AR 1 rfl (AN _)))) rfl ?_
 refine A0 (AY 210 [.pointer po, .agg (cu8 (ctrN c k)).toArray] (.agg (cu8 (encL ks (ctrN c k))).toArray) (A4 _ Tryd.call210 rfl) (fun w1 hw1 => encG_c po ks (ctrN c k) w1 (FR hc k) (hC2.at hw1))) rfl ?_
 show JL _ _ _ _ ((7, .agg (cu8 (encL ks (ctrN c k))).toArray) :: _) ([⟨b1, [.pointer po], 223, (0, 0)⟩, ⟨b2, cu8 (ctrN c k), 27, (0, 0)⟩] ++ Sk)
 refine JL_yield l [.agg (cu8 (encL ks (ctrN c k))).toArray] [⟨b1, [.pointer po], 223, (0, 0)⟩, ⟨b2, cu8 (ctrN c k), 27, (0, 0)⟩] Sk (fun L' => k + 1 ≤ B ∧ S (k + 1) L') (X k) rfl rfl rfl hl0 hlM rfl (fun w1 hw1 => hY k Sk w1 trivial hx1 hx2 (hw1.right)) ?_ ?_
 ·
  intro L1 ⟨hn1, hn2⟩
  show JL _ _ _ _ ((8, .bool true) :: _) ([⟨b1, [.pointer po], 223, (0, 0)⟩, ⟨b2, cu8 (ctrN c k), 27, (0, 0)⟩] ++ L1)
  refine AI ?_
  refine AC ?_
  refine D1 _ rfl rfl ?_
  refine BJ ?_
  refine AC ?_
  refine A9 ?_
  refine AB ?_
  refine AA (.agg (cu8 (ctrN c k)).toArray) (AL rfl (BH BM AT (A8 (FR hc k)) (AR 1 rfl (AN _)))) rfl ?_
  refine A0 (AY 211 [.agg (cu8 (ctrN c k)).toArray, U64 1] (.agg (cu8 (nextL (ctrN c k) (1:UInt64))).toArray) (A4 _ Tryd.call211 rfl) (fun w1 hw1 => next_c (ctrN c k) (1:UInt64) w1 (FR hc k))) rfl ?_
  show JL _ _ _ _ ((10, .agg (cu8 (nextL (ctrN c k) (1:UInt64))).toArray) :: _) ([⟨b1, [.pointer po], 223, (0, 0)⟩, ⟨b2, cu8 (ctrN c k), 27, (0, 0)⟩] ++ L1)
  refine A0 (AX 1 b2 16 (cu8 (ctrN c k)) 27 (cu8 (nextL (ctrN c k) (1:UInt64))) rfl rfl rfl AT (A8 (nextL_len (FR hc k))) (by first | exact CD | exact CS | exact CR | (simp [cu8, cu32, cu64, Value.oneCell']; done)) (by simp [(FR hc k)]) (A6 (by simp [(FR hc k), (nextL_len (FR hc k))]))) rfl ?_
  show JL _ _ _ _ _ ([⟨b1, [.pointer po], 223, (0, 0)⟩, ⟨b2, cu8 (nextL (ctrN c k) (1:UInt64)), 27, (0, 0)⟩] ++ L1)
  refine AI ?_
  refine A5 ?_
  refine B6 ?_
  refine DN (k + 1, L1) ⟨hn1, hn2⟩ (by first | (simp; omega) | simp | (dsimp only; omega) | omega) (Sub.all rfl) rfl
 ·
  intro L1 o1 hx9
  show JL _ _ _ _ ((8, .bool false) :: _) ([⟨b1, [.pointer po], 223, (0, 0)⟩, ⟨b2, cu8 (ctrN c k), 27, (0, 0)⟩] ++ L1)
  refine AI ?_
  refine AC ?_
  refine DV _ rfl rfl ?_
  refine DA ?_
  refine AQ ?_
  refine AQ ?_
  refine BV ?_
  refine JQ_endM0 (.tuple #[]) (res0 Tryd.results209 ) (fun w1 hw1 => ?_)
  exact ⟨⟨_, rfl⟩, .inr ⟨k, L1, o1, trivial, hx9, hw1.right⟩⟩
attribute [local irreducible] strT
def eBlk (ks c : List UInt8) (k : Nat) : List UInt8 := encL ks (ctrN c k)
theorem GM {ks c : List UInt8} (hc : c.length = 16) (k : Nat) : (eBlk ks c k).length = 16 := encL_len _ _ (FR hc k)
theorem stream_c (po : Option Addr) (ks c : List UInt8) (n : Nat) (w : World) (hc : c.length = 16) (hn : n ≤ 65536) (hC : CiphM w [] po ks) : Calls Tryd.prog 196 #[.pointer po, .agg (cu8 c).toArray, I64 n] w (Post w [] (fun v L => ∃ g sp cap, v = Slc g 0 n cap ∧ L = [⟨g, cu8 (strT (eBlk ks c) n) ++ sp, 5, (0, 0)⟩] ∧ sp.length = cap - n ∧ n ≤ cap ∧ cap ≤ maxLen)) := by
 refine enterM w [] 31 [] [.pointer po, .agg (cu8 c).toArray, I64 n] Tryd.func196 rfl rfl (by simp) (BR (by simp) (by simp) (by simp)) ?_
 show JC _ _ _ [(0, .pointer po), (1, .agg (cu8 c).toArray), (2, I64 n)] _
 refine AF (AB (AV (CG (.agg (cu8 c).toArray) (cu8 c) rfl (by first | rfl | simp)) rfl ?_))
 rintro v1 L1 ⟨nb1, hnb1, rfl, rfl⟩
 show JL _ _ _ _ ((4, Ptr nb1 0) :: _) [⟨nb1, cu8 c, 27, (0, 0)⟩]
 refine AV (CG (I64 n) ([I64 n]) rfl rfl) rfl ?_
 rintro v1 L1 ⟨nb2, hnb2, rfl, rfl⟩
 show JL _ _ _ _ ((5, Ptr nb2 0) :: _) [_, ⟨nb2, [I64 n], 3, (0, 0)⟩]
 refine AA _ (AE rfl) rfl ?_
 refine AI (AC (AF (AB (AA (I64 n) (AL rfl (AZ DC (AR 1 rfl (Seg.head)))) rfl ?_))))
 refine AV (Step_make8 5 1 0 n AK C4 rfl rfl (by omega) (by omega) (by unfold maxLen; omega)) rfl ?_
 rintro v1 L1 ⟨nb3, hnb3, rfl, rfl⟩
 show JL _ _ _ _ ((10, Slc nb3 0 0 n) :: _) [_, _, ⟨nb3, cu8 (zr8 n), 5, (0, 0)⟩]
 refine AV (A7 _ ([.slice none 0 0]) Tryd.zeroValue43 (by kernel_rfl)) rfl ?_
 rintro v1 L1 ⟨nb4, hnb4, rfl, rfl⟩
 show JL _ _ _ _ ((7, Ptr nb4 0) :: _) [_, _, _, ⟨nb4, [.slice none 0 0], 43, (0, 0)⟩]
 refine A0 (CN 3 nb4 0 1 ([.slice none 0 0]) 43 (Slc nb3 0 0 n) ([Slc nb3 0 0 n]) ([Slc nb3 0 0 n]) rfl rfl rfl rfl CJ rfl (by simp [Value.oneCell']) (Nat.le_of_ble_eq_true rfl) (A6 (by simp []))) rfl ?_
 show JL _ _ _ _ _ [_, _, _, ⟨nb4, [Slc nb3 0 0 n], 43, (0, 0)⟩]
 refine AI (AC (AF (AF (AB (AA (I64 n) (AL rfl (AZ DC (AR 1 rfl (Seg.head)))) rfl ?_)))))
 refine AA (.bool (decide (((n:Int)) = (0:Int)))) (AJ rfl rfl fun _ => D6 _ _) rfl ?_
 refine AI (AC (B5 (decide (((n:Int)) = (0:Int))) rfl (fun hb1 => ?_) (fun hb1 => ?_)))
 ·
  have hp1 : ((n:Int)) = (0:Int) := of_decide_eq_true hb1
  refine AF (AB (AA (Slc nb3 0 0 n) (AL rfl (AZ D0 (AR 3 rfl (Seg.head)))) rfl ?_))
  refine AA _ (AE rfl) rfl ?_
  refine AI (AC (BO (A3 (JQ_retM0 (Slc nb3 0 0 n) (res1 Tryd.results196 (B2 rfl)) (fun w1 hw1 => ?_)))))
  have e : n = 0 := by omega
  subst e
  exact ⟨_, [⟨nb3, cu8 (zr8 0), 5, (0, 0)⟩], rfl, ⟨nb3, cu8 (zr8 0), 0, rfl, by rw [strT_zero]; rfl, by simp [AP], by omega, by unfold maxLen; omega⟩, hw1.sub (by simp) (by simp)⟩
 ·
  have hp1 : ¬ (((n:Int)) = (0:Int)) := of_decide_eq_false hb1
  refine BJ (AC (AF (AF (AB (AA _ (AG rfl) rfl ?_)))))
  refine AA (.agg (cu8 c).toArray) (AL rfl (BH BM AT (A8 hc) (AR 0 rfl (AN _)))) rfl ?_
  refine AV (CH 204 [.pointer po, .agg (cu8 c).toArray] _ (A4 _ Tryd.call204 rfl) (fun w1 hw1 => blocks_c po c w1 hc)) rfl ?_
  rintro v1 L1 ⟨_, ⟨nb5, nb6, rfl, rfl⟩, rfl⟩
  show JL _ _ _ _ ((16, .func (.func 209) #[] #[Ptr nb5 0, Ptr nb6 0]) :: _) [_, _, _, _, ⟨nb5, [.pointer po], 223, (0, 0)⟩, ⟨nb6, cu8 c, 27, (0, 0)⟩]
  refine AI (AC (A9 (K_sub (F' := [(5, Ptr nb2 0), (6, .slice none 0 0), (7, Ptr nb4 0), (16, .func (.func 209) #[] #[Ptr nb5 0, Ptr nb6 0])]) (Sub.all rfl) ?_)))
  refine GP [1, 4, 5, 3, 2] (by decide) ?_
  show JC _ _ _ _ [⟨nb2, [I64 n], 3, (0, 0)⟩, ⟨nb5, [.pointer po], 223, (0, 0)⟩, ⟨nb6, cu8 c, 27, (0, 0)⟩, ⟨nb4, [Slc nb3 0 0 n], 43, (0, 0)⟩, ⟨nb3, cu8 (zr8 n), 5, (0, 0)⟩]
  refine JC_range [⟨nb2, [I64 n], 3, (0, 0)⟩] [⟨nb5, [.pointer po], 223, (0, 0)⟩, ⟨nb6, cu8 c, 27, (0, 0)⟩] [⟨nb4, [Slc nb3 0 0 n], 43, (0, 0)⟩, ⟨nb3, cu8 (zr8 n), 5, (0, 0)⟩] (rbOf po) (fun _ => True) (fun _ => False) (fun k => .agg (cu8 (encL ks (ctrN c k))).toArray) (n / 16) (fun k L => ∃ g sp cap, 16*k < n ∧ L = [⟨nb4, [Slc g 0 (16*k) cap], 43, (0, 0)⟩, ⟨g, cu8 (strG (eBlk ks c) k) ++ sp, 5, (0, 0)⟩] ∧ sp.length = cap - 16*k ∧ 16*k ≤ cap ∧ cap ≤ maxLen) (fun k c' L => c' = .exit 0 ∧ ∃ g sp cap, L = [⟨nb4, [Slc g 0 n cap], 43, (0, 0)⟩, ⟨g, cu8 (strT (eBlk ks c) n) ++ sp, 5, (0, 0)⟩] ∧ sp.length = cap - n ∧ n ≤ cap ∧ cap ≤ maxLen) rfl rfl rfl Tryd.call209 (List.Perm.refl _) rfl ⟨nb3, cu8 (zr8 n), n, by omega, rfl, by simp [AP], by omega, by unfold maxLen; omega⟩ (fun b hb => .inl (hC.rbM b hb)) (fun w1 hw1 => blocks_it nb5 nb6 po ks c w1 hc (hC.at hw1)) ?_ ?_ ?_
  ·
   intro l rb k Sk W1 hgo hkB hSk hl0 hlM hA hB hle
   have hA0 := hA _ (List.mem_of_getElem? (i := 0) rfl)
   obtain ⟨g, sp, cap, hx1, rfl, hx4, hx5, hx6⟩ := hSk
   show JC _ _ _ _ [⟨nb4, [Slc g 0 (16*k) cap], 43, (0, 0)⟩, ⟨g, cu8 (strG (eBlk ks c) k) ++ sp, 5, (0, 0)⟩]
   refine AB (AV (A7 _ (cu8 (zr8 16)) DF (by kernel_rfl)) rfl ?_)
   rintro v1 L1 ⟨nb7, hnb7, rfl, rfl⟩
   show JL _ _ _ _ ((8, Ptr nb7 0) :: _) [_, _, ⟨nb7, cu8 (zr8 16), 27, (0, 0)⟩]
   refine A0 (AX 2 nb7 16 (cu8 (zr8 16)) 27 (cu8 (encL ks (ctrN c k))) rfl rfl rfl AT (A8 (encL_len _ _ (FR hc k))) (by first | exact CD | exact CS | exact CR | (simp [cu8, cu32, cu64, Value.oneCell']; done)) (by simp [(AP 16)]) (A6 (by simp [(AP 16), (encL_len _ _ (FR hc k))]))) rfl ?_
   show JL _ _ _ _ _ [_, _, ⟨nb7, cu8 (encL ks (ctrN c k)), 27, (0, 0)⟩]
   refine AI (JQ_begin hl0 hlM ?_)
   show JC _ _ _ _ [⟨nb4, [Slc g 0 (16*k) cap], 43, (0, 0)⟩, ⟨g, cu8 (strG (eBlk ks c) k) ++ sp, 5, (0, 0)⟩, ⟨nb7, cu8 (encL ks (ctrN c k)), 27, (0, 0)⟩]
   refine A9 (AF ?_)
   rcases Bool.eq_false_or_eq_true (decide ((16:Int) ≤ (-16*(k:Int) + (n:Int)))) with hb2 | hb2
   ·
    have hp2 : (16:Int) ≤ (-16*(k:Int) + (n:Int)) := of_decide_eq_true hb2
    refine CT 31 3 [(0, Slc g 0 (16*k) cap), (1, I64 n), (2, Slc g 0 (16*k) cap), (3, I64 (16*(k:Int))), (4, I64 (-16*(k:Int) + (n:Int))), (5, I64 16), (6, Slc nb7 0 16 16)] BL rfl (by decide +kernel) ?_
    refine CU ⟨[], [0, 1, 2, 3, 4, 5, 6], [], [0, 1, 2, 3, 4, 5, 6], [7]⟩ 7 _ rfl rfl (by decide +kernel) rfl ⟨⟨_, rfl, AD rfl (AL rfl (AZ D0 (AR 0 rfl (Seg.head))))⟩, ⟨_, rfl, AD rfl (AL rfl (AZ DC (BW (MemAt.heap ((World.putObj_heap_other hA0.2.2).trans hA0.1) hA0.2.1) (Seg.head) (by omega))))⟩, ⟨_, rfl, AD rfl (AL rfl (AZ D0 (AR 0 rfl (Seg.head))))⟩, ⟨_, rfl, AD rfl (Ev_lenX AK rfl (by omega))⟩, ⟨_, rfl, AD rfl (AJ rfl rfl fun _ => C5 _ _ (-16*(k:Int) + (n:Int)) (by omega) (by omega))⟩, ⟨_, rfl, AD rfl (Ev_min rfl rfl (by have h : (decide ((16:Int) ≤ (-16*(k:Int) + (n:Int)))) = true := hb2; have := of_decide_eq_true h; omega))⟩, ⟨_, rfl, AD rfl (B1 16 5 1 0 16 0 16 BF AM rfl rfl rfl (by omega) (by omega) (by omega) (by omega) (by omega) 16 (by omega))⟩, trivial⟩ rfl (AW rfl (DH 43 5 [false, true, false] (Slc g 0 (16*k) cap) (16*k) (strG (eBlk ks c) k) (encL ks (ctrN c k)) (some ⟨nb7, 0, none⟩) 16 16 (16*k + 16) AK C4 rfl (.inr ⟨g, sp, cap, rfl, rfl, (by first | exact (GH (fun k => GM hc k) k) | simp [(GH (fun k => GM hc k) k)]), hx4, (by omega), hx6⟩) rfl (by first | exact (encL_len _ _ (FR hc k)) | simp [(encL_len _ _ (FR hc k))]; try omega) (SrcAt.mem (AR 2 rfl (AN _))) (by omega) (by unfold maxLen; omega) (by omega))) ?_
    rintro v1 L1 ⟨nb8, sp1, cp1, hg1, rfl, rfl, ha1, ha2, ha3, ha4⟩
    refine ⟨[], ?_⟩
    show DP _ _ _ _ _ _ _ _ [_, _, ⟨nb8, cu8 ((strG (eBlk ks c) k) ++ (encL ks (ctrN c k))) ++ sp1, 5, (0, 0)⟩]
    refine C2 ⟨[7], [0, 1, 2, 3, 4, 5, 6], [0, 1, 2, 3, 4, 5, 6], [], [8]⟩ 8 rfl rfl (by decide +kernel) rfl trivial rfl (AW rfl (CN 0 nb4 0 1 ([Slc g 0 (16*k) cap]) 43 (Slc nb8 0 (16*k + 16) cp1) ([Slc nb8 0 (16*k + 16) cp1]) ([Slc nb8 0 (16*k + 16) cp1]) rfl rfl rfl rfl CJ rfl (by simp [Value.oneCell']) (Nat.le_of_ble_eq_true rfl) (A6 (by simp [])))) ?_
    show DP _ _ _ _ _ _ _ _ [⟨nb4, [Slc nb8 0 (16*k + 16) cp1], 43, (0, 0)⟩, _, _]
    refine DE ⟨[7, 8], [0, 1, 2, 3, 4, 5, 6], [0, 1, 2, 3, 4, 5, 6], [], []⟩ rfl rfl (by decide +kernel) rfl trivial ?_
    refine CC (F' := [(5, Ptr nb2 0), (6, .slice none 0 0), (7, Ptr nb4 0)]) (by kernel_rfl) ?_
    refine AC (AF (AB (AA (Slc nb8 0 (16*k + 16) cp1) (AL rfl (AZ D0 (AR 0 rfl (Seg.head)))) rfl ?_)))
    refine AA (I64 (16*(k:Int) + 16)) (Ev_lenX AK rfl (by omega)) rfl ?_
    refine AA (I64 n) (AL rfl (AZ DC (BW (MemAt.heap ((World.putObj_heap_other hA0.2.2).trans hA0.1) hA0.2.1) (Seg.head) (by omega)))) rfl ?_
    refine AA (.bool (decide ((16*(k:Int) + 16) = ((n:Int))))) (AJ rfl rfl fun _ => D6 _ _) rfl ?_
    refine AI (AC (B5 (decide ((16*(k:Int) + 16) = ((n:Int)))) rfl (fun hb3 => ?_) (fun hb3 => ?_)))
    ·
     have hp3 : (16*(k:Int) + 16) = ((n:Int)) := of_decide_eq_true hb3
     refine DA (JQ_in_other rfl ?_)
     refine GP [0, 2] (by decide) ?_
     show K _ _ [_, _] _
     refine JQ_bodyX ⟨rfl, nb8, sp1, cp1, by rw [← strT_full (fun k => GM hc k) (k := k) (by omega)]; rw [show n = 16*k + 16 from by omega]; rfl, by omega, by omega, ha4⟩
    ·
     have hp3 : ¬ ((16*(k:Int) + 16) = ((n:Int))) := of_decide_eq_false hb3
     refine BJ (A5 (GP [0, 2] (by decide) ?_))
     show K _ _ [_, _] _
     refine JQ_bodyN ⟨by omega, nb8, sp1, cp1, by omega, rfl, ha2, ha3, ha4⟩
   ·
    have hp2 : ¬ ((16:Int) ≤ (-16*(k:Int) + (n:Int))) := of_decide_eq_false hb2
    refine CT 31 3 [(0, Slc g 0 (16*k) cap), (1, I64 n), (2, Slc g 0 (16*k) cap), (3, I64 (16*(k:Int))), (4, I64 (-16*(k:Int) + (n:Int))), (5, I64 (-16*(k:Int) + (n:Int))), (6, Slc nb7 0 (n - 16*k) 16)] BL rfl (by decide +kernel) ?_
    have hl1 : (mid (encL ks (ctrN c k)) 0 (n - 16*k)).length = (n - 16*k) := D8 (by rw [(encL_len _ _ (FR hc k))]; omega)
    refine CU ⟨[], [0, 1, 2, 3, 4, 5, 6], [], [0, 1, 2, 3, 4, 5, 6], [7]⟩ 7 _ rfl rfl (by decide +kernel) rfl ⟨⟨_, rfl, AD rfl (AL rfl (AZ D0 (AR 0 rfl (Seg.head))))⟩, ⟨_, rfl, AD rfl (AL rfl (AZ DC (BW (MemAt.heap ((World.putObj_heap_other hA0.2.2).trans hA0.1) hA0.2.1) (Seg.head) (by omega))))⟩, ⟨_, rfl, AD rfl (AL rfl (AZ D0 (AR 0 rfl (Seg.head))))⟩, ⟨_, rfl, AD rfl (Ev_lenX AK rfl (by omega))⟩, ⟨_, rfl, AD rfl (AJ rfl rfl fun _ => C5 _ _ (-16*(k:Int) + (n:Int)) (by omega) (by omega))⟩, ⟨_, rfl, AD rfl (Ev_min rfl rfl (by have h : (decide ((16:Int) ≤ (-16*(k:Int) + (n:Int)))) = false := hb2; have := of_decide_eq_false h; omega))⟩, ⟨_, rfl, AD rfl (B1 16 5 1 0 (n - 16*k) 0 16 BF AM rfl rfl (EM (by omega)) (by omega) (by omega) (by omega) (by omega) (by omega) (n - 16*k) (by omega))⟩, trivial⟩ rfl (AW rfl (DH 43 5 [false, true, false] (Slc g 0 (16*k) cap) (16*k) (strG (eBlk ks c) k) (mid (encL ks (ctrN c k)) 0 (n - 16*k)) (some ⟨nb7, 0, none⟩) (n - 16*k) 16 n AK C4 rfl (.inr ⟨g, sp, cap, rfl, rfl, (by first | exact (GH (fun k => GM hc k) k) | simp [(GH (fun k => GM hc k) k)]), hx4, (by omega), hx6⟩) rfl (by first | exact hl1 | simp [hl1]; try omega) (SrcAt.mem (AR 2 rfl (FB 0 (n - 16*k) (by rw [(encL_len _ _ (FR hc k))]; omega)))) (by omega) (by unfold maxLen; omega) (by omega))) ?_
    rintro v1 L1 ⟨nb9, sp2, cp2, hg2, rfl, rfl, ha5, ha6, ha7, ha8⟩
    refine ⟨[], ?_⟩
    show DP _ _ _ _ _ _ _ _ [_, _, ⟨nb9, cu8 ((strG (eBlk ks c) k) ++ (mid (encL ks (ctrN c k)) 0 (n - 16*k))) ++ sp2, 5, (0, 0)⟩]
    refine C2 ⟨[7], [0, 1, 2, 3, 4, 5, 6], [0, 1, 2, 3, 4, 5, 6], [], [8]⟩ 8 rfl rfl (by decide +kernel) rfl trivial rfl (AW rfl (CN 0 nb4 0 1 ([Slc g 0 (16*k) cap]) 43 (Slc nb9 0 n cp2) ([Slc nb9 0 n cp2]) ([Slc nb9 0 n cp2]) rfl rfl rfl rfl CJ rfl (by simp [Value.oneCell']) (Nat.le_of_ble_eq_true rfl) (A6 (by simp [])))) ?_
    show DP _ _ _ _ _ _ _ _ [⟨nb4, [Slc nb9 0 n cp2], 43, (0, 0)⟩, _, _]
    refine DE ⟨[7, 8], [0, 1, 2, 3, 4, 5, 6], [0, 1, 2, 3, 4, 5, 6], [], []⟩ rfl rfl (by decide +kernel) rfl trivial ?_
    refine CC (F' := [(5, Ptr nb2 0), (6, .slice none 0 0), (7, Ptr nb4 0)]) (by kernel_rfl) ?_
    refine AC (AF (AB (AA (Slc nb9 0 n cp2) (AL rfl (AZ D0 (AR 0 rfl (Seg.head)))) rfl ?_)))
    refine AA (I64 n) (DW AK rfl) rfl ?_
    refine AA (I64 n) (AL rfl (AZ DC (BW (MemAt.heap ((World.putObj_heap_other hA0.2.2).trans hA0.1) hA0.2.1) (Seg.head) (by omega)))) rfl ?_
    refine AA (.bool (decide (((n:Int)) = ((n:Int))))) (AJ rfl rfl fun _ => D6 _ _) rfl ?_
    refine AI (AC (D1 _ rfl (by simp) ?_))
    refine DA (JQ_in_other rfl ?_)
    refine GP [0, 2] (by decide) ?_
    show K _ _ [_, _] _
    refine JQ_bodyX ⟨rfl, nb9, sp2, cp2, by rw [← strT_part (fun k => GM hc k) (k := k) (by omega) (by omega)]; rfl, by omega, by omega, ha8⟩
  ·
   intro D k L' W' hf
   exact hf.elim
  ·
   intro D k c L' W' hf hX hw' hD hDle
   obtain ⟨rfl, g, sp, cap, rfl, hx4, hx5, hx6⟩ := hX
   show JC _ _ _ _ [⟨nb2, [I64 n], 3, (0, 0)⟩, ⟨nb4, [Slc g 0 n cap], 43, (0, 0)⟩, ⟨g, cu8 (strT (eBlk ks c) n) ++ sp, 5, (0, 0)⟩]
   refine DA (BV (AC (AF (AB (AA (Slc g 0 n cap) (AL rfl (AZ D0 (AR 1 rfl (Seg.head)))) rfl ?_)))))
   refine AA _ (AE rfl) rfl ?_
   refine AI (AC (BO (JQ_retM D (Slc g 0 n cap) rfl hD rfl hw'.here (fun _ => (res1 Tryd.results196 (B2 rfl))) (fun w1 hw1 => ?_))))
   have hw1 := hw'.fin hD hDle hw1 (.deferred none)
   exact ⟨_, _, rfl, ⟨g, sp, cap, rfl, rfl, hx4, hx5, hx6⟩, hw1.sub (by simp) (by simp)⟩
theorem cturn_c (po ab : Option Addr) (ks c b : List UInt8) (n cb : Nat) (w : World) (hc : c.length = 16) (hn : n ≤ 65536) (hb : b.length = n) (hC : CiphM w [] po ks) (hr : RdB w [] ab b) : Calls Tryd.prog 182 #[.pointer po, .agg (cu8 c).toArray, .slice ab n cb] w (Post w [] (fun v L => ∃ g sp cap, v = Slc g 0 n cap ∧ L = [⟨g, cu8 (xorN (strT (eBlk ks c) n) b n) ++ sp, 5, (0, 0)⟩] ∧ sp.length = cap - n ∧ n ≤ cap ∧ cap ≤ maxLen)) := by
 refine enter w [] 31 [] [.pointer po, .agg (cu8 c).toArray, .slice ab n cb] Tryd.func182 rfl rfl (by simp) (BR (by simp) (by simp) (by simp)) ?_
 show JC _ _ _ [(0, .pointer po), (1, .agg (cu8 c).toArray), (2, .slice ab n cb)] _
 refine AF (AB (AV (CG (.agg (cu8 c).toArray) (cu8 c) rfl (by first | rfl | simp)) rfl ?_))
 rintro v1 L1 ⟨nb1, hnb1, rfl, rfl⟩
 show JL _ _ _ _ ((4, Ptr nb1 0) :: _) [⟨nb1, cu8 c, 27, (0, 0)⟩]
 refine AA _ (AE rfl) rfl ?_
 refine AI (AC (AF (AB (AA _ (AG rfl) rfl ?_))))
 refine AA (.agg (cu8 c).toArray) (AL rfl (BH BM AT (A8 hc) (AR 0 rfl (AN _)))) rfl ?_
 refine AA _ (AG rfl) rfl ?_
 refine AA (I64 n) (DW AK rfl) rfl ?_
 refine AV (CH 196 [.pointer po, .agg (cu8 c).toArray, I64 n] _ (A4 _ Tryd.call196 rfl) (fun w1 hw1 => stream_c po ks c n w1 hc (by omega) (hC.at hw1))) rfl ?_
 rintro v1 L1 ⟨_, ⟨nb2, sp1, cp1, rfl, rfl, hc1, hc2, hc3⟩, rfl⟩
 show JL _ _ _ _ ((14, Slc nb2 0 n cp1) :: _) [_, ⟨nb2, cu8 (strT (eBlk ks c) n) ++ sp1, 5, (0, 0)⟩]
 refine AA _ (AE rfl) rfl ?_
 refine AI (AC (AF (AF (AB (AA _ (AG rfl) rfl ?_)))))
 refine AA (I64 n) (DW AK rfl) rfl ?_
 refine AA _ (AG rfl) rfl ?_
 refine AI (AC (A9 (CA [false, true] ?_)))
 show JC _ _ _ _ [_]
 refine DI (ι := Nat × List UInt8) (fun ⟨i, s⟩ => [(6, .slice none 0 0), (7, Slc nb2 0 n cp1), (15, .slice ab n cb), (16, I64 n), (17, I64 i)]) (fun ⟨i, s⟩ => [⟨nb2, cu8 s ++ sp1, 5, (0, 0)⟩]) (fun ⟨i, s⟩ => i ≤ n ∧ s = xorN (strT (eBlk ks c) n) b i ∧ s.length = n) (fun ⟨i, s⟩ => n - i) (0, strT (eBlk ks c) n) ⟨by omega, rfl, GG (fun k => GM hc k) n⟩ (Sub.all rfl) rfl ?_
 rintro ⟨i, s⟩ ⟨hy1, hy2, hs⟩
 show JC _ _ _ [(6, .slice none 0 0), (7, Slc nb2 0 n cp1), (15, .slice ab n cb), (16, I64 n), (17, I64 i)] [⟨nb2, cu8 s ++ sp1, 5, (0, 0)⟩]
 refine AF (AB (AA (.bool (decide (((i:Int)) < ((n:Int))))) (AJ rfl rfl fun _ => B9 _ _) rfl ?_))
 refine AI (AC (AF (B5 (decide (((i:Int)) < ((n:Int)))) rfl (fun hb1 => ?_) (fun hb1 => ?_))))
 ·
  have hp1 : ((i:Int)) < ((n:Int)) := of_decide_eq_true hb1
  refine BJ (AC (AF (A9 (AF (AB (AA _ (AG rfl) rfl ?_))))))
  obtain ⟨bz1, oz1, hz1, hm1⟩ := hr.pos (by rw [hb]; omega)
  refine AA (Ptr bz1 (i + oz1)) (CL 5 1 (i + oz1) AK AM rfl hz1 rfl (by omega) (by omega) (by omega)) rfl ?_
  refine AA (U8 (g8 b i)) (AL rfl (AZ BZ (BW (MemAt.base hm1.1 hm1.2.1 hm1.2.2) (Seg.get (EC (i := i) (by rw [hb]; omega))) (by omega)))) rfl ?_
  refine AA _ (AE rfl) rfl ?_
  refine AA _ (AE rfl) rfl ?_
  refine AI (AC (AB (AA _ (AG rfl) rfl ?_)))
  refine AA _ (AG rfl) rfl ?_
  refine AA (Ptr nb2 i) (ED 5 1 i AK AM rfl rfl (by omega) (by omega) (by omega)) rfl ?_
  refine AA (U8 (g8 s i)) (AL rfl (AZ BZ (AR 0 rfl (BE (Seg.get (EC (i := i) (by rw [hs]; omega))))))) rfl ?_
  refine AA _ (AG rfl) rfl ?_
  refine AA (U8 ((g8 s i) ^^^ (g8 b i))) (AJ rfl rfl fun _ => DK (g8 s i) (g8 b i)) rfl ?_
  refine AA (Ptr nb2 i) (ED 5 1 i AK AM rfl rfl (by omega) (by omega) (by omega)) rfl ?_
  have hl1 : (s.set i ((g8 s i) ^^^ (g8 b i))).length = n := by first | (rw [List.length_set]; exact hs) | simp [hs]
  refine A0 (CN 0 nb2 i 1 (cu8 s ++ sp1) 5 (U8 ((g8 s i) ^^^ (g8 b i))) ([U8 ((g8 s i) ^^^ (g8 b i))]) (cu8 (s.set i ((g8 s i) ^^^ (g8 b i))) ++ sp1) rfl rfl rfl rfl AM rfl (by simp [Value.oneCell']) (by simp [hs, hc1]; try omega) (lay_left (p := cu8 s) (vs := [U8 ((g8 s i) ^^^ (g8 b i))]) (o := i) (by simp [hs]; omega) (lay8 _ _ _ (by rw [hs]; omega)))) rfl ?_
  show JL _ _ _ _ _ [⟨nb2, cu8 (s.set i ((g8 s i) ^^^ (g8 b i))) ++ sp1, 5, (0, 0)⟩]
  refine AI (A5 (AC (AB (AA (I64 ((i:Int) + 1)) (AJ rfl rfl fun _ => BP _ _ ((i:Int) + 1) (by omega) (by omega)) rfl ?_))))
  refine AA _ (AG rfl) rfl ?_
  refine AI (B6 (DN (i + 1, s.set i ((g8 s i) ^^^ (g8 b i))) ⟨by omega, by rw [xorN, ← hy2], hl1⟩ (by first | (simp; omega) | simp | (dsimp only; omega) | omega) (Sub.all rfl) rfl))
 ·
  have hp1 : ¬ (((i:Int)) < ((n:Int))) := of_decide_eq_false hb1
  refine DA (AQ (AQ (BV (AC (AF (AB (AA _ (AG rfl) rfl ?_)))))))
  refine AA _ (AE rfl) rfl ?_
  refine AI (AC (BO (BQ (Slc nb2 0 n cp1) (res1 Tryd.results182 (B2 rfl)) fun w1 hw1 => ?_)))
  have e1 : i = n := by omega
  subst e1
  rw [hy2] at hw1
  exact ⟨_, _, rfl, ⟨nb2, sp1, cp1, rfl, rfl, hc1, hc2, hc3⟩, hw1.sub (by simp) (by simp)⟩
def rctrN (c : List UInt8) : Nat → List UInt8
 | 0 => c
 | k + 1 => rnextL (rctrN c k) 1
theorem rctrN_eq {c : List UInt8} (hc : c.length = 16) : ∀ k, rctrN c k = ctrN c k
 | 0 => rfl
 | k + 1 => by rw [rctrN, ctrN, rctrN_eq hc k, next_rnext (FR hc k)]
theorem FZ {c : List UInt8} (hc : c.length = 16) (k : Nat) : (rctrN c k).length = 16 := by rw [rctrN_eq hc, FR hc]
def rBlk (ks c : List UInt8) (k : Nat) : List UInt8 := rencL ks (rctrN c k)
theorem GT {ks c : List UInt8} (hc : c.length = 16) (k : Nat) : (rBlk ks c k).length = 16 := GR _ _ (FZ hc k)
theorem rBlk_eBlk {key c : List UInt8} (hk : key.length = 16) (hc : c.length = 16) (k : Nat) : eBlk (rkL key) c k = rBlk (rkeysL key) c k := by
 rw [eBlk, rBlk, rctrN_eq hc, renc_enc _ _ hk (FR hc k)]
theorem str_rstr {key c : List UInt8} (hk : key.length = 16) (hc : c.length = 16) (n : Nat) : strT (eBlk (rkL key) c) n = strT (rBlk (rkeysL key) c) n := strT_congr (rBlk_eBlk hk hc) n
theorem rstream_c (ks c : List UInt8) (kc kcap n : Nat) (w : World) (hc : c.length = 16) (hn0 : 0 < n) (hn : n ≤ 65536) (hks : ks.length = 176) (hm : RdA w kc 0 (cu8 ks)) : Calls Tryd.prog 198 #[Slc kc 0 176 kcap, .agg (cu8 c).toArray, I64 n] w (Post w [] (fun v L => ∃ g sp cap, v = Slc g 0 n cap ∧ L = [⟨g, cu8 (strT (rBlk ks c) n) ++ sp, 5, (0, 0)⟩] ∧ sp.length = cap - n ∧ n ≤ cap ∧ cap ≤ maxLen)) := by
  refine enter w [] 24 [] [Slc kc 0 176 kcap, .agg (cu8 c).toArray, I64 n] Tryd.func198 rfl rfl (by simp) (BR (by simp) (by simp) (by simp)) ?_
  show JC _ _ _ [(0, Slc kc 0 176 kcap), (1, .agg (cu8 c).toArray), (2, I64 n)] _
  refine AF (AB (AV (CG (.agg (cu8 c).toArray) (cu8 c) rfl (by first | rfl | simp)) rfl ?_))
  rintro v1 L1 ⟨nb1, hnb1, rfl, rfl⟩
  show JL _ _ _ _ ((4, Ptr nb1 0) :: _) [⟨nb1, cu8 c, 27, (0, 0)⟩]
  refine AA _ (AE rfl) rfl ?_
  refine AI (AC (AF (AB (AA _ (AE rfl) rfl ?_))))
  refine AI (AC (AF (A9 (DI (ι := (Unit) ⊕ (Nat × Nat × List Value × Nat)) (fun x => match x with | .inl _ => [(0, Slc kc 0 176 kcap), (2, I64 n), (4, Ptr nb1 0), (6, .slice none 0 0), (7, .slice none 0 0)] | .inr ⟨k, g, sp, cap⟩ => [(0, Slc kc 0 176 kcap), (2, I64 n), (4, Ptr nb1 0), (6, .slice none 0 0), (7, Slc g 0 (16*k) cap)]) (fun x => match x with | .inl _ => [⟨nb1, cu8 c, 27, (0, 0)⟩] | .inr ⟨k, g, sp, cap⟩ => [⟨nb1, cu8 (rctrN c k), 27, (0, 0)⟩, ⟨g, cu8 (strG (rBlk ks c) k) ++ sp, 5, (0, 0)⟩]) (fun x => match x with | .inl _ => True | .inr ⟨k, g, sp, cap⟩ => 1 ≤ k ∧ 16*k < n + 16 ∧ sp.length = cap - 16*k ∧ 16*k ≤ cap ∧ cap ≤ maxLen) (fun x => match x with | .inl _ => n + 32 | .inr ⟨k, g, sp, cap⟩ => n + 16 - 16*k) (.inl ()) trivial (Sub.all rfl) rfl ?_))))
  rintro (_ | ⟨k, g, sp, cap⟩) hx
  ·
    obtain _ := hx
    show JC _ _ _ [(0, Slc kc 0 176 kcap), (2, I64 n), (4, Ptr nb1 0), (6, .slice none 0 0), (7, .slice none 0 0)] [⟨nb1, cu8 c, 27, (0, 0)⟩]
    refine AF (AF (AB (AA _ (AG rfl) rfl ?_)))
    refine AA (I64 0) (DW AK rfl) rfl ?_
    refine AA _ (AG rfl) rfl ?_
    refine AA (.bool (decide ((0:Int) < ((n:Int))))) (AJ rfl rfl fun _ => B9 _ _) rfl ?_
    refine AI (AC (D1 _ rfl (decide_eq_true (by omega)) ?_))
    refine BJ (AC (A9 (AF (AB (AA _ (AG rfl) rfl ?_)))))
    refine AA (.agg (cu8 c).toArray) (AL rfl (BH BM AT (A8 hc) (AR 0 rfl (AN _)))) rfl ?_
    refine A0 (AY 205 [Slc kc 0 176 kcap, .agg (cu8 c).toArray] (.agg (cu8 (rencL ks c)).toArray) (A4 _ Tryd.call205 rfl) (fun w1 hw1 => renc_c c ks kc kcap w1 hc hks (RdA.of hw1 (BW (hm.mem (by simp)) (AN _) (by omega)) (by simp [hks])))) rfl ?_
    show JL _ _ _ _ ((15, .agg (cu8 (rencL ks c)).toArray) :: _) [_]
    refine AV (A7 _ (cu8 (zr8 16)) DF (by kernel_rfl)) rfl ?_
    rintro v1 L1 ⟨nb2, hnb2, rfl, rfl⟩
    show JL _ _ _ _ ((8, Ptr nb2 0) :: _) [_, ⟨nb2, cu8 (zr8 16), 27, (0, 0)⟩]
    refine A0 (AX 1 nb2 16 (cu8 (zr8 16)) 27 (cu8 (rencL ks c)) rfl rfl rfl AT (A8 (GR _ _ hc)) (by first | exact CD | exact CS | exact CR | (simp [cu8, cu32, cu64, Value.oneCell']; done)) (by simp [(AP 16)]) (A6 (by simp [(AP 16), (GR _ _ hc)]))) rfl ?_
    show JL _ _ _ _ _ [_, ⟨nb2, cu8 (rencL ks c), 27, (0, 0)⟩]
    refine AI (AC (AF (AB (AA _ (AG rfl) rfl ?_))))
    refine AA (Slc nb2 0 16 16) (B1 16 5 1 0 16 0 16 BF AM rfl rfl rfl (by omega) (by omega) (by omega) (by omega) (by omega) 16 (by omega)) rfl ?_
    refine AV (DH 43 5 [false, false] (.slice none 0 0) 0 ([] : List UInt8) (rencL ks c) (some ⟨nb2, 0, none⟩) 16 16 16 AK C4 rfl (.inl ⟨rfl, rfl, rfl, rfl, by omega⟩) rfl (by first | exact (GR _ _ hc) | simp [(GR _ _ hc)]; try omega) (SrcAt.mem (AR 1 rfl (AN _))) (by omega) (by unfold maxLen; omega) (by omega)) rfl ?_
    rintro v1 L1 ⟨nb3, sp1, cp1, hg1, rfl, rfl, ha1, ha2, ha3, ha4⟩
    show JL _ _ _ _ ((18, Slc nb3 0 16 cp1) :: _) [_, _, ⟨nb3, cu8 (([] : List UInt8) ++ (rencL ks c)) ++ sp1, 5, (0, 0)⟩]
    refine AA _ (AE rfl) rfl ?_
    refine AI (AC (AB (AA (.agg (cu8 c).toArray) (AL rfl (BH BM AT (A8 hc) (AR 0 rfl (AN _)))) rfl ?_)))
    refine A0 (AY 206 [.agg (cu8 c).toArray, U64 1] (.agg (cu8 (rnextL c (1:UInt64))).toArray) (A4 _ Tryd.call206 rfl) (fun w1 hw1 => rnext_c c (1:UInt64) w1 hc)) rfl ?_
    show JL _ _ _ _ ((20, .agg (cu8 (rnextL c (1:UInt64))).toArray) :: _) [_, _, _]
    refine A0 (AX 0 nb1 16 (cu8 c) 27 (cu8 (rnextL c (1:UInt64))) rfl rfl rfl AT (A8 (rnextL_len hc)) (by first | exact CD | exact CS | exact CR | (simp [cu8, cu32, cu64, Value.oneCell']; done)) (by simp [hc]) (A6 (by simp [hc, (rnextL_len hc)]))) rfl ?_
    show JL _ _ _ _ _ [⟨nb1, cu8 (rnextL c (1:UInt64)), 27, (0, 0)⟩, _, _]
    refine AI (A5 (B6 (CA [true, false, true] ?_)))
    show K _ _ [_, _] _
    refine DN (.inr (1, nb3, sp1, cp1)) ⟨by omega, by omega, ha2, by omega, ha4⟩ (by first | (simp; omega) | simp | (dsimp only; omega) | omega) (Sub.all rfl) rfl
  ·
    obtain ⟨hx1, hx2, hx4, hx5, hx6⟩ := hx
    show JC _ _ _ [(0, Slc kc 0 176 kcap), (2, I64 n), (4, Ptr nb1 0), (6, .slice none 0 0), (7, Slc g 0 (16*k) cap)] [⟨nb1, cu8 (rctrN c k), 27, (0, 0)⟩, ⟨g, cu8 (strG (rBlk ks c) k) ++ sp, 5, (0, 0)⟩]
    refine AF (AF (AB (AA _ (AG rfl) rfl ?_)))
    refine AA (I64 (16*(k:Int))) (Ev_lenX AK rfl (by omega)) rfl ?_
    refine AA _ (AG rfl) rfl ?_
    refine AA (.bool (decide ((16*(k:Int)) < ((n:Int))))) (AJ rfl rfl fun _ => B9 _ _) rfl ?_
    refine AI (AC (B5 (decide ((16*(k:Int)) < ((n:Int)))) rfl (fun hb1 => ?_) (fun hb1 => ?_)))
    ·
      have hp1 : (16*(k:Int)) < ((n:Int)) := of_decide_eq_true hb1
      refine BJ (AC (A9 (AF (AB (AA _ (AG rfl) rfl ?_)))))
      refine AA (.agg (cu8 (rctrN c k)).toArray) (AL rfl (BH BM AT (A8 (FZ hc k)) (AR 0 rfl (AN _)))) rfl ?_
      refine A0 (AY 205 [Slc kc 0 176 kcap, .agg (cu8 (rctrN c k)).toArray] (.agg (cu8 (rencL ks (rctrN c k))).toArray) (A4 _ Tryd.call205 rfl) (fun w1 hw1 => renc_c (rctrN c k) ks kc kcap w1 (FZ hc k) hks (RdA.of hw1 (BW (hm.mem (by simp)) (AN _) (by omega)) (by simp [hks])))) rfl ?_
      show JL _ _ _ _ ((15, .agg (cu8 (rencL ks (rctrN c k))).toArray) :: _) [_, _]
      refine AV (A7 _ (cu8 (zr8 16)) DF (by kernel_rfl)) rfl ?_
      rintro v1 L1 ⟨nb4, hnb4, rfl, rfl⟩
      show JL _ _ _ _ ((8, Ptr nb4 0) :: _) [_, _, ⟨nb4, cu8 (zr8 16), 27, (0, 0)⟩]
      refine A0 (AX 2 nb4 16 (cu8 (zr8 16)) 27 (cu8 (rencL ks (rctrN c k))) rfl rfl rfl AT (A8 (GR _ _ (FZ hc k))) (by first | exact CD | exact CS | exact CR | (simp [cu8, cu32, cu64, Value.oneCell']; done)) (by simp [(AP 16)]) (A6 (by simp [(AP 16), (GR _ _ (FZ hc k))]))) rfl ?_
      show JL _ _ _ _ _ [_, _, ⟨nb4, cu8 (rencL ks (rctrN c k)), 27, (0, 0)⟩]
      refine AI (AC (AF (AB (AA _ (AG rfl) rfl ?_))))
      refine AA (Slc nb4 0 16 16) (B1 16 5 1 0 16 0 16 BF AM rfl rfl rfl (by omega) (by omega) (by omega) (by omega) (by omega) 16 (by omega)) rfl ?_
      refine AV (DH 43 5 [false, true, false] (Slc g 0 (16*k) cap) (16*k) (strG (rBlk ks c) k) (rencL ks (rctrN c k)) (some ⟨nb4, 0, none⟩) 16 16 (16*k + 16) AK C4 rfl (.inr ⟨g, sp, cap, rfl, rfl, (by first | exact (GH (fun k => GT hc k) k) | simp [(GH (fun k => GT hc k) k)]), hx4, (by omega), hx6⟩) rfl (by first | exact (GR _ _ (FZ hc k)) | simp [(GR _ _ (FZ hc k))]; try omega) (SrcAt.mem (AR 2 rfl (AN _))) (by omega) (by unfold maxLen; omega) (by omega)) rfl ?_
      rintro v1 L1 ⟨nb5, sp2, cp2, hg2, rfl, rfl, ha5, ha6, ha7, ha8⟩
      show JL _ _ _ _ ((18, Slc nb5 0 (16*k + 16) cp2) :: _) [_, _, ⟨nb5, cu8 ((strG (rBlk ks c) k) ++ (rencL ks (rctrN c k))) ++ sp2, 5, (0, 0)⟩]
      refine AA _ (AE rfl) rfl ?_
      refine AI (AC (AB (AA (.agg (cu8 (rctrN c k)).toArray) (AL rfl (BH BM AT (A8 (FZ hc k)) (AR 0 rfl (AN _)))) rfl ?_)))
      refine A0 (AY 206 [.agg (cu8 (rctrN c k)).toArray, U64 1] (.agg (cu8 (rnextL (rctrN c k) (1:UInt64))).toArray) (A4 _ Tryd.call206 rfl) (fun w1 hw1 => rnext_c (rctrN c k) (1:UInt64) w1 (FZ hc k))) rfl ?_
      show JL _ _ _ _ ((20, .agg (cu8 (rnextL (rctrN c k) (1:UInt64))).toArray) :: _) [_, _, _]
      refine A0 (AX 0 nb1 16 (cu8 (rctrN c k)) 27 (cu8 (rnextL (rctrN c k) (1:UInt64))) rfl rfl rfl AT (A8 (rnextL_len (FZ hc k))) (by first | exact CD | exact CS | exact CR | (simp [cu8, cu32, cu64, Value.oneCell']; done)) (by simp [(FZ hc k)]) (A6 (by simp [(FZ hc k), (rnextL_len (FZ hc k))]))) rfl ?_
      show JL _ _ _ _ _ [⟨nb1, cu8 (rnextL (rctrN c k) (1:UInt64)), 27, (0, 0)⟩, _, _]
      refine AI (A5 (B6 (CA [true, false, true] ?_)))
      show K _ _ [_, _] _
      refine DN (.inr (k + 1, nb5, sp2, cp2)) ⟨by omega, by omega, ha6, by omega, ha8⟩ (by first | (simp; omega) | simp | (dsimp only; omega) | omega) (Sub.all rfl) rfl
    ·
      have hp1 : ¬ ((16*(k:Int)) < ((n:Int))) := of_decide_eq_false hb1
      refine DA (AQ (AQ (BV (AC (AF (AB (AA _ (AG rfl) rfl ?_)))))))
      refine AA _ (AG rfl) rfl ?_
      refine AA (Slc g 0 n cap) (Ev_slice 5 1 0 n 0 cap AK AM rfl rfl rfl (by omega) (by omega) (by omega) (by omega) (by omega) n (by omega)) rfl ?_
      refine AA _ (AE rfl) rfl ?_
      refine AI (AC (BO (BQ (Slc g 0 n cap) (res1 Tryd.results198 (B2 rfl)) fun w1 hw1 => ?_)))
      refine ⟨_, [⟨g, _, _, _⟩], rfl, ⟨g, cu8 ((strG (rBlk ks c) k).drop n) ++ sp, cap, rfl, rfl, ?_, by omega, hx6⟩, ?_⟩
      · simp [GH (fun k => GT hc k), hx4]; omega
      · rw [← strT_any (fun k => GT hc k) (m := k) (by omega), ← List.append_assoc, ← cu8_app, List.take_append_drop]
        exact hw1.sub (by simp) (by simp)
theorem crturn_c (ks c b : List UInt8) (kc kcap n cb : Nat) (ab : Option Addr) (w : World) (hc : c.length = 16) (hn0 : 0 < n) (hn : n ≤ 65536) (hb : b.length = n) (hr : RdB w [] ab b) (hks : ks.length = 176) (hm : RdA w kc 0 (cu8 ks)) : Calls Tryd.prog 186 #[Slc kc 0 176 kcap, .agg (cu8 c).toArray, .slice ab n cb] w (Post w [] (fun v L => ∃ g sp cap, v = Slc g 0 n cap ∧ L = [⟨g, cu8 (xorN (strT (rBlk ks c) n) b n) ++ sp, 5, (0, 0)⟩] ∧ sp.length = cap - n ∧ n ≤ cap ∧ cap ≤ maxLen)) := by
 refine enter w [] 33 [] [Slc kc 0 176 kcap, .agg (cu8 c).toArray, .slice ab n cb] Tryd.func186 rfl rfl (by simp) (BR (by simp) (by simp) (by simp)) ?_
 show JC _ _ _ [(0, Slc kc 0 176 kcap), (1, .agg (cu8 c).toArray), (2, .slice ab n cb)] _
 refine AF (AB (AV (CG (.agg (cu8 c).toArray) (cu8 c) rfl (by first | rfl | simp)) rfl ?_))
 rintro v1 L1 ⟨nb1, hnb1, rfl, rfl⟩
 show JL _ _ _ _ ((4, Ptr nb1 0) :: _) [⟨nb1, cu8 c, 27, (0, 0)⟩]
 refine AA _ (AE rfl) rfl ?_
 refine AI (AC (AF (AB (AA _ (AG rfl) rfl ?_))))
 refine AA (.agg (cu8 c).toArray) (AL rfl (BH BM AT (A8 hc) (AR 0 rfl (AN _)))) rfl ?_
 refine AA _ (AG rfl) rfl ?_
 refine AA (I64 n) (DW AK rfl) rfl ?_
 refine AV (CH 198 [Slc kc 0 176 kcap, .agg (cu8 c).toArray, I64 n] _ (A4 _ Tryd.call198 rfl) (fun w1 hw1 => rstream_c ks c kc kcap n w1 hc (by omega) (by omega) hks (RdA.of hw1 (BW (hm.mem (by simp)) (AN _) (by omega)) (by simp [hks])))) rfl ?_
 rintro v1 L1 ⟨_, ⟨nb2, sp1, cp1, rfl, rfl, hc1, hc2, hc3⟩, rfl⟩
 show JL _ _ _ _ ((13, Slc nb2 0 n cp1) :: _) [_, ⟨nb2, cu8 (strT (rBlk ks c) n) ++ sp1, 5, (0, 0)⟩]
 refine AA _ (AE rfl) rfl ?_
 refine AI (AC (AF (AF (AB (AA _ (AE rfl) rfl ?_)))))
 refine AI (AC (A9 (CA [false, true] ?_)))
 show JC _ _ _ _ [_]
 refine DI (ι := Nat × List UInt8) (fun ⟨i, s⟩ => [(2, .slice ab n cb), (6, .slice none 0 0), (7, Slc nb2 0 n cp1), (8, I64 i)]) (fun ⟨i, s⟩ => [⟨nb2, cu8 s ++ sp1, 5, (0, 0)⟩]) (fun ⟨i, s⟩ => i ≤ n ∧ s = xorN (strT (rBlk ks c) n) b i ∧ s.length = n) (fun ⟨i, s⟩ => n - i) (0, strT (rBlk ks c) n) ⟨by omega, rfl, GG (fun k => GT hc k) n⟩ (Sub.all rfl) rfl ?_
 rintro ⟨i, s⟩ ⟨hy1, hy2, hs⟩
 show JC _ _ _ [(2, .slice ab n cb), (6, .slice none 0 0), (7, Slc nb2 0 n cp1), (8, I64 i)] [⟨nb2, cu8 s ++ sp1, 5, (0, 0)⟩]
 refine AF (AF (AB (AA _ (AG rfl) rfl ?_)))
 refine AA _ (AG rfl) rfl ?_
 refine AA (I64 n) (DW AK rfl) rfl ?_
 refine AA (.bool (decide (((i:Int)) < ((n:Int))))) (AJ rfl rfl fun _ => B9 _ _) rfl ?_
 refine AI (AC (B5 (decide (((i:Int)) < ((n:Int)))) rfl (fun hb1 => ?_) (fun hb1 => ?_)))
 ·
  have hp1 : ((i:Int)) < ((n:Int)) := of_decide_eq_true hb1
  refine BJ (AC (AF (A9 ?_)))
  obtain ⟨bz1, oz1, hz1, hm1⟩ := hr.pos (by rw [hb]; omega)
  refine CT 33 2 [(0, Slc nb2 0 n cp1), (1, I64 i), (2, Slc nb2 0 n cp1), (3, I64 i), (4, Ptr nb2 i), (5, U8 (g8 s i)), (6, .slice ab n cb), (7, I64 i), (8, Ptr bz1 (i + oz1)), (9, U8 (g8 b i)), (10, U8 ((g8 s i) ^^^ (g8 b i))), (11, Ptr nb2 i)] BL rfl (by decide +kernel) ?_
  have hl1 : (s.set i ((g8 s i) ^^^ (g8 b i))).length = n := by first | (rw [List.length_set]; exact hs) | simp [hs]
  refine C2 ⟨[], [0, 1, 2, 3, 4, 5, 6, 7, 8, 9, 10, 11], [], [0, 1, 2, 3, 4, 5, 6, 7, 8, 9, 10, 11], [12]⟩ 12 rfl rfl (by decide +kernel) rfl ⟨AU rfl rfl rfl, AU rfl rfl rfl, AU rfl rfl rfl, AU rfl rfl rfl, ⟨_, rfl, AD rfl (ED 5 1 i AK AM rfl rfl (by omega) (by omega) (by omega))⟩, ⟨_, rfl, AD rfl (AL rfl (AZ BZ (AR 0 rfl (BE (Seg.get (EC (i := i) (by rw [hs]; omega)))))))⟩, AU rfl rfl rfl, AU rfl rfl rfl, ⟨_, rfl, AD rfl (CL 5 1 (i + oz1) AK AM rfl hz1 rfl (by omega) (by omega) (by omega))⟩, ⟨_, rfl, AD rfl (AL rfl (AZ BZ (BW (MemAt.base hm1.1 hm1.2.1 hm1.2.2) (Seg.get (EC (i := i) (by rw [hb]; omega))) (by omega))))⟩, ⟨_, rfl, AD rfl (AJ rfl rfl fun _ => DK (g8 s i) (g8 b i))⟩, ⟨_, rfl, AD rfl (ED 5 1 i AK AM rfl rfl (by omega) (by omega) (by omega))⟩, trivial⟩ rfl (AW rfl (CN 0 nb2 i 1 (cu8 s ++ sp1) 5 (U8 ((g8 s i) ^^^ (g8 b i))) ([U8 ((g8 s i) ^^^ (g8 b i))]) (cu8 (s.set i ((g8 s i) ^^^ (g8 b i))) ++ sp1) rfl rfl rfl rfl AM rfl (by simp [Value.oneCell']) (by simp [hs, hc1]; try omega) (lay_left (p := cu8 s) (vs := [U8 ((g8 s i) ^^^ (g8 b i))]) (o := i) (by simp [hs]; omega) (lay8 _ _ _ (by rw [hs]; omega))))) ?_
  show DP _ _ _ _ _ _ _ _ [⟨nb2, cu8 (s.set i ((g8 s i) ^^^ (g8 b i))) ++ sp1, 5, (0, 0)⟩]
  refine DE ⟨[12], [0, 1, 2, 3, 4, 5, 6, 7, 8, 9, 10, 11], [0, 1, 2, 3, 4, 5, 6, 7, 8, 9, 10, 11], [], []⟩ rfl rfl (by decide +kernel) rfl trivial ?_
  refine CC (F' := [(20, Slc nb2 0 n cp1), (21, I64 i), (22, Slc nb2 0 n cp1), (23, I64 i), (24, Ptr nb2 i), (25, U8 (g8 s i)), (26, .slice ab n cb), (27, I64 i), (28, Ptr bz1 (i + oz1)), (29, U8 (g8 b i)), (30, U8 ((g8 s i) ^^^ (g8 b i))), (31, Ptr nb2 i), (2, .slice ab n cb), (6, .slice none 0 0), (7, Slc nb2 0 n cp1), (8, I64 i), (14, I64 i), (15, .slice ab n cb), (16, I64 n), (17, .bool (decide (((i:Int)) < ((n:Int)))))]) (by kernel_rfl) ?_
  refine A5 (AC (AB (AA _ (AG rfl) rfl ?_)))
  refine AA (I64 ((i:Int) + 1)) (AJ rfl rfl fun _ => BP _ _ ((i:Int) + 1) (by omega) (by omega)) rfl ?_
  refine AA _ (AE rfl) rfl ?_
  refine AI (B6 (DN (i + 1, s.set i ((g8 s i) ^^^ (g8 b i))) ⟨by omega, by rw [xorN, ← hy2], hl1⟩ (by first | (simp; omega) | simp | (dsimp only; omega) | omega) (Sub.all rfl) rfl))
 ·
  have hp1 : ¬ (((i:Int)) < ((n:Int))) := of_decide_eq_false hb1
  refine DA (AQ (AQ (BV (AC (AF (AB (AA _ (AG rfl) rfl ?_)))))))
  refine AA _ (AE rfl) rfl ?_
  refine AI (AC (BO (BQ (Slc nb2 0 n cp1) (res1 Tryd.results186 (B2 rfl)) fun w1 hw1 => ?_)))
  have e1 : i = n := by omega
  subst e1
  rw [hy2] at hw1
  exact ⟨_, _, rfl, ⟨nb2, sp1, cp1, rfl, rfl, hc1, hc2, hc3⟩, hw1.sub (by simp) (by simp)⟩
theorem CiphM.own {w : World} {c : Nat} {ks : List UInt8} (hl : ks.length = 176) (h : w.heap[c]? = some (.cells (cu8 ks ++ cu8 thereL ++ cu8 backL).toArray 255 (0, 0))) : CiphM w [] (some ⟨c, 0, none⟩) ks :=
 .inr ⟨c, rfl, heap_lt h, by simp, hl, h⟩
end Go.Proofs.YtkdpdgpphpngeaaDoor
namespace Go.Sx
def rotr (x : UInt32) (k : Nat) : UInt32 := (x <<< UInt32.ofNat (32 - k)) ||| (x >>> UInt32.ofNat k)
def wordL (z : List UInt8) : UInt32 := ((((g8 z 0).toUInt32 <<< (24:UInt32)) ||| ((g8 z 1).toUInt32 <<< (16:UInt32))) ||| ((g8 z 2).toUInt32 <<< (8:UInt32))) ||| (g8 z 3).toUInt32
def wrdN (z : List UInt8) (t : Nat) : Nat → UInt32
 | 0 => 0
 | i + 1 => wrdN z t i * 256 + (g8 z (i + 4*t)).toUInt32
def spS (blk : List UInt8) (t : Nat) (w : List UInt32) : List UInt32 :=
 if t < 16 then w.set t (wordL (mid blk (4*t) 4))
 else w.set t (((g32 w (t - 16) + ((rotr (g32 w (t - 15)) 7 ^^^ rotr (g32 w (t - 15)) 18) ^^^ (g32 w (t - 15) >>> (3:UInt32)))) + g32 w (t - 7)) + ((rotr (g32 w (t - 2)) 17 ^^^ rotr (g32 w (t - 2)) 19) ^^^ (g32 w (t - 2) >>> (10:UInt32))))
def spN (blk : List UInt8) : Nat → List UInt32
 | 0 => zr32 64
 | t + 1 => spS blk t (spN blk t)
theorem spN_len (blk : List UInt8) : ∀ t, (spN blk t).length = 64
 | 0 => F4 64
 | t + 1 => by rw [spN, spS]; split <;> simp [spN_len blk t]
def spreadL (blk : List UInt8) : List UInt32 := spN blk 64
theorem spreadL_len (blk : List UInt8) : (spreadL blk).length = 64 := spN_len blk 64
def shaP (e f g h k w : UInt32) : UInt32 := (((h + ((rotr e 6 ^^^ rotr e 11) ^^^ rotr e 25)) + ((e &&& f) ^^^ ((~~~e) &&& g))) + k) + w
def shaQ (a b c : UInt32) : UInt32 := ((rotr a 2 ^^^ rotr a 13) ^^^ rotr a 22) + (((a &&& b) ^^^ (a &&& c)) ^^^ (b &&& c))
def rdS (s : List UInt32) (k w : UInt32) : List UInt32 :=
 let p := shaP (g32 s 4) (g32 s 5) (g32 s 6) (g32 s 7) k w
 let q := shaQ (g32 s 0) (g32 s 1) (g32 s 2)
 [p + q, g32 s 0, g32 s 1, g32 s 2, g32 s 3 + p, g32 s 4, g32 s 5, g32 s 6]
def cpN (kk : List UInt32) (s : List UInt32) (w : List UInt32) : Nat → List UInt32
 | 0 => s
 | t + 1 => rdS (cpN kk s w t) (g32 kk t) (g32 w t)
theorem cpN_len {kk s w : List UInt32} (h : s.length = 8) : ∀ t, (cpN kk s w t).length = 8
 | 0 => h
 | _ + 1 => rfl
def adN (st s : List UInt32) : Nat → List UInt32
 | 0 => s
 | i + 1 => (adN st s i).set i (g32 (adN st s i) i + g32 st i)
theorem adN_len (st s : List UInt32) : ∀ i, (adN st s i).length = s.length
 | 0 => rfl
 | i + 1 => by simp [adN, adN_len st s i]
def comprL (kk st : List UInt32) (blk : List UInt8) : List UInt32 := adN st (cpN kk st (spreadL blk) 64) 8
theorem GO {kk st : List UInt32} {blk : List UInt8} (h : st.length = 8) : (comprL kk st blk).length = 8 := by rw [comprL, adN_len, cpN_len h]
theorem adN_get (st s : List UInt32) : ∀ i, i ≤ s.length → ∀ j, g32 (adN st s i) j = if j < i then g32 s j + g32 st j else g32 s j
  | 0, _, j => by simp [adN]
  | i + 1, hi, j => by
    rw [adN, g32_set _ _ _ _ (by rw [adN_len]; omega)]
    by_cases h : i = j
    · subst h; rw [if_pos rfl, if_pos (by omega), adN_get st s i (by omega), if_neg (by omega)]
    · rw [if_neg h, adN_get st s i (by omega)]
      by_cases h2 : j < i
      · rw [if_pos h2, if_pos (by omega)]
      · rw [if_neg h2, if_neg (by omega)]
theorem comprL_eq {kk st : List UInt32} {blk : List UInt8} (h : st.length = 8) (a b c d e f g h' : UInt32) (hs : cpN kk st (spreadL blk) 64 = [a, b, c, d, e, f, g, h']) :
  comprL kk st blk = [g32 st 0 + a, g32 st 1 + b, g32 st 2 + c, g32 st 3 + d, g32 st 4 + e, g32 st 5 + f, g32 st 6 + g, g32 st 7 + h'] := by
 refine ext32 (by rw [GO h]; rfl) fun j hj => ?_
 rw [GO h] at hj
 rw [comprL, adN_get _ _ _ (by rw [hs]; exact Nat.le_refl _), if_pos hj, hs]
 have : j = 0 ∨ j = 1 ∨ j = 2 ∨ j = 3 ∨ j = 4 ∨ j = 5 ∨ j = 6 ∨ j = 7 := by omega
 rcases this with rfl | rfl | rfl | rfl | rfl | rfl | rfl | rfl <;> simp [g32, UInt32.add_comm]
theorem ofN (k : Nat) (h : k < 4294967296) : (UInt64.ofNat k).toNat = k := by rw [UInt64.toNat_ofNat']; exact Nat.mod_eq_of_lt (by omega)
theorem shl_lit (a : UInt8) (k : UInt32) (hk : k.toNat ≤ 24) : (a.toUInt32 <<< k).toNat = a.toNat * 2 ^ k.toNat := by
 have ha := a.toNat_lt
 rw [UInt32.toNat_shiftLeft, UInt8.toNat_toUInt32, Nat.shiftLeft_eq, Nat.mod_eq_of_lt (a := k.toNat) (by omega)]
 refine Nat.mod_eq_of_lt ?_
 have h2 : 2 ^ k.toNat ≤ 2 ^ 24 := Nat.pow_le_pow_right (by omega) hk
 have h3 : a.toNat * 2 ^ k.toNat ≤ a.toNat * 2 ^ 24 := Nat.mul_le_mul_left _ h2
 omega
theorem or_add (x y : UInt32) (k : Nat) (hx : x.toNat % 2 ^ k = 0) (hy : y.toNat < 2 ^ k) : (x ||| y).toNat = x.toNat + y.toNat := by
 rw [UInt32.toNat_or]
 have := Nat.shiftLeft_add_eq_or_of_lt (i := k) (b := y.toNat) hy (x.toNat / 2 ^ k)
 rw [Nat.shiftLeft_eq, Nat.div_mul_cancel (Nat.dvd_of_mod_eq_zero hx)] at this
 exact this.symm
theorem wordL_val (z : List UInt8) : (wordL z).toNat = (g8 z 0).toNat * 16777216 + (g8 z 1).toNat * 65536 + (g8 z 2).toNat * 256 + (g8 z 3).toNat := by
 have h0 := (g8 z 0).toNat_lt; have h1 := (g8 z 1).toNat_lt; have h2 := (g8 z 2).toNat_lt; have h3 := (g8 z 3).toNat_lt
 have e0 := shl_lit (g8 z 0) 24 (by decide)
 have e1 := shl_lit (g8 z 1) 16 (by decide)
 have e2 := shl_lit (g8 z 2) 8 (by decide)
 simp only [show (24 : UInt32).toNat = 24 from rfl, show (16 : UInt32).toNat = 16 from rfl, show (8 : UInt32).toNat = 8 from rfl] at e0 e1 e2
 have s1 := or_add ((g8 z 0).toUInt32 <<< (24:UInt32)) ((g8 z 1).toUInt32 <<< (16:UInt32)) 24 (by rw [e0]; omega) (by rw [e1]; omega)
 have s2 := or_add _ ((g8 z 2).toUInt32 <<< (8:UInt32)) 16 (by rw [s1, e0, e1]; omega) (by rw [e2]; omega)
 have s3 := or_add _ ((g8 z 3).toUInt32) 8 (by rw [s2, s1, e0, e1, e2]; omega) (by rw [UInt8.toNat_toUInt32]; omega)
 rw [wordL, s3, s2, s1, e0, e1, e2, UInt8.toNat_toUInt32]
theorem wrd_word (blk : List UInt8) (t : Nat) : wrdN blk t 4 = wordL (mid blk (4*t) 4) := by
 apply UInt32.toNat_inj.1
 have g : ∀ i, i < 4 → g8 (mid blk (4*t) 4) i = g8 blk (i + 4*t) := fun i hi => by rw [g8_mid hi, Nat.add_comm]
 rw [wordL_val, g 0 (by omega), g 1 (by omega), g 2 (by omega), g 3 (by omega)]
 have h0 := (g8 blk (0 + 4*t)).toNat_lt; have h1 := (g8 blk (1 + 4*t)).toNat_lt; have h2 := (g8 blk (2 + 4*t)).toNat_lt; have h3 := (g8 blk (3 + 4*t)).toNat_lt
 have e : ∀ (a : UInt32) (b : UInt8), (a * 256 + b.toUInt32).toNat = (a.toNat * 256 + b.toNat) % 4294967296 := fun a b => by
  rw [UInt32.toNat_add, UInt32.toNat_mul, UInt8.toNat_toUInt32, show (256 : UInt32).toNat = 256 from rfl]; omega
 have z0 : (wrdN blk t 0).toNat = 0 := rfl
 have e1 : (wrdN blk t 1).toNat = _ := e (wrdN blk t 0) (g8 blk (0 + 4*t))
 have e2 : (wrdN blk t 2).toNat = _ := e (wrdN blk t 1) (g8 blk (1 + 4*t))
 have e3 : (wrdN blk t 3).toNat = _ := e (wrdN blk t 2) (g8 blk (2 + 4*t))
 have e4 : (wrdN blk t 4).toNat = _ := e (wrdN blk t 3) (g8 blk (3 + 4*t))
 omega
def nzP (n : Nat) : Nat := (119 - n % 64) % 64
def lenN (n : Nat) : Nat → List UInt8
 | 0 => []
 | i + 1 => lenN n i ++ [((8 * UInt64.ofNat n) >>> UInt64.ofNat (56 - 8*i)).toUInt8]
theorem lenN_len (n : Nat) : ∀ i, (lenN n i).length = i
 | 0 => rfl
 | i + 1 => by simp [lenN, lenN_len n i]
def padL (b : List UInt8) : List UInt8 := ((b ++ [128]) ++ zr8 (nzP b.length)) ++ lenN b.length 8
theorem padL_len (b : List UInt8) : (padL b).length = b.length + 9 + nzP b.length := by simp [padL, lenN_len, AP]; omega
theorem pad_mod (b : List UInt8) : (padL b).length % 64 = 0 := by rw [padL_len, nzP]; omega
def stN (kk init : List UInt32) (p : List UInt8) : Nat → List UInt32
 | 0 => init
 | k + 1 => comprL kk (stN kk init p k) (mid p (64*k) 64)
theorem stN_len {kk init : List UInt32} {p : List UInt8} (h : init.length = 8) : ∀ k, (stN kk init p k).length = 8
 | 0 => h
 | k + 1 => GO (stN_len h k)
def byteAt (s : List UInt32) (i : Nat) : UInt8 := (g32 s (i / 4) >>> UInt32.ofNat (24 - 8*(i % 4))).toUInt8
def hashL (s : List UInt32) : List UInt8 := (List.range 32).map (byteAt s)
theorem hashL_len (s : List UInt32) : (hashL s).length = 32 := by simp [hashL]
def outN (s : List UInt32) : Nat → List UInt8
 | 0 => zr8 32
 | i + 1 => spl (outN s i) (4*i) [(g32 s i >>> (24:UInt32)).toUInt8, (g32 s i >>> (16:UInt32)).toUInt8, (g32 s i >>> (8:UInt32)).toUInt8, (g32 s i).toUInt8]
def routN (s : List UInt32) : Nat → List UInt8
 | 0 => zr8 32
 | i + 1 => (routN s i).set i (byteAt s i)
theorem outN_len (s : List UInt32) : ∀ i, i ≤ 8 → (outN s i).length = 32
 | 0, _ => AP 32
 | i + 1, h => by rw [outN, spl_len (by rw [outN_len s i (by omega)]; simp; omega), outN_len s i (by omega)]
theorem routN_len (s : List UInt32) : ∀ i, (routN s i).length = 32
 | 0 => AP 32
 | i + 1 => by rw [routN, List.length_set, routN_len s i]
theorem byteAt4 (s : List UInt32) (i : Nat) : ∀ d, d < 4 → g8 [(g32 s i >>> (24:UInt32)).toUInt8, (g32 s i >>> (16:UInt32)).toUInt8, (g32 s i >>> (8:UInt32)).toUInt8, (g32 s i).toUInt8] d = byteAt s (4*i + d)
 | 0, _ => by rw [byteAt, show (4*i + 0) / 4 = i from by omega, show (4*i + 0) % 4 = 0 from by omega]; rfl
 | 1, _ => by rw [byteAt, show (4*i + 1) / 4 = i from by omega, show (4*i + 1) % 4 = 1 from by omega]; rfl
 | 2, _ => by rw [byteAt, show (4*i + 2) / 4 = i from by omega, show (4*i + 2) % 4 = 2 from by omega]; rfl
 | 3, _ => by
  rw [byteAt, show (4*i + 3) / 4 = i from by omega, show (4*i + 3) % 4 = 3 from by omega]
  have : g32 s i >>> UInt32.ofNat (24 - 8 * 3) = g32 s i := by
   apply UInt32.toNat_inj.1
   rw [UInt32.toNat_shiftRight]; rfl
  rw [this]; rfl
 | _ + 4, h => absurd h (by omega)
theorem outN_get (s : List UInt32) : ∀ i, i ≤ 8 → ∀ j, j < 4*i → g8 (outN s i) j = byteAt s j
  | 0, _, j, hj => by omega
  | i + 1, hi, j, hj => by
    rw [outN, g8_spl (by rw [outN_len s i (by omega)]; simp; omega)]
    by_cases h : 4*i ≤ j ∧ j < 4*i + ([(g32 s i >>> (24:UInt32)).toUInt8, (g32 s i >>> (16:UInt32)).toUInt8, (g32 s i >>> (8:UInt32)).toUInt8, (g32 s i).toUInt8] : List UInt8).length
    · rw [if_pos h, byteAt4 s i (j - 4*i) (by simp at h; omega), show 4*i + (j - 4*i) = j from by omega]
    · rw [if_neg h]; exact outN_get s i (by omega) j (by simp at h; omega)
theorem outN_hash (s : List UInt32) : outN s 8 = hashL s :=
 ext8 (by rw [outN_len s 8 (by omega), hashL_len]) fun j hj => by
  rw [outN_len s 8 (by omega)] at hj
  rw [outN_get s 8 (by omega) j (by omega), hashL, g8_map_range hj]
theorem routN_get (s : List UInt32) : ∀ i, i ≤ 32 → ∀ j, j < i → g8 (routN s i) j = byteAt s j
  | 0, _, j, hj => by omega
  | i + 1, hi, j, hj => by
    rw [routN, FS _ _ _ _ (by rw [routN_len]; omega)]
    by_cases h : i = j
    · subst h; rw [if_pos rfl]
    · rw [if_neg h]; exact routN_get s i (by omega) j (by omega)
theorem routN_hash (s : List UInt32) : routN s 32 = hashL s :=
 ext8 (by rw [routN_len, hashL_len]) fun j hj => by
  rw [routN_len] at hj
  rw [routN_get s 32 (by omega) j hj, hashL, g8_map_range hj]
def sumG (kk init : List UInt32) (b : List UInt8) : List UInt8 := hashL (stN kk init (padL b) ((padL b).length / 64))
theorem D7 (kk init : List UInt32) (b : List UInt8) : (sumG kk init b).length = 32 := hashL_len _
end Go.Sx
namespace Go.Proofs.YtkdpdgpphpngeaaDoor
open Go Go.Sx
attribute [local irreducible] mid zr8 zr32 rotr wordL
def constL : List UInt32 := [1116352408, 1899447441, 3049323471, 3921009573, 961987163, 1508970993, 2453635748, 2870763221, 3624381080, 310598401, 607225278, 1426881987, 1925078388, 2162078206, 2614888103, 3248222580, 3835390401, 4022224774, 264347078, 604807628, 770255983, 1249150122, 1555081692, 1996064986, 2554220882, 2821834349, 2952996808, 3210313671, 3336571891, 3584528711, 113926993, 338241895, 666307205, 773529912, 1294757372, 1396182291, 1695183700, 1986661051, 2177026350, 2456956037, 2730485921, 2820302411, 3259730800, 3345764771, 3516065817, 3600352804, 4094571909, 275423344, 430227734, 506948616, 659060556, 883997877, 958139571, 1322822218, 1537002063, 1747873779, 1955562222, 2024104815, 2227730452, 2361852424, 2428436474, 2756734187, 3204031479, 3329325298]
def initL : List UInt32 := [1779033703, 3144134277, 1013904242, 2773480762, 1359893119, 2600822924, 528734635, 1541459225]
theorem F7 : constL.length = 64 := rfl
theorem FJ : initL.length = 8 := rfl
def GLs (w : World) : Prop := RdA w 5 0 (cu32 constL) ∧ RdA w 3 0 (cu32 initL)
def GLr (w : World) : Prop := RdA w 2 0 (cu32 constL)
def GLi (w : World) : Prop := RdA w 1 0 (cu32 initL)
theorem RdA_at {C : Cx} {L : List Ent} {w : World} {b off : Nat} {vs : List Value} (hw : Hp C.w0 C.M L w) (h : RdA C.w0 b off vs) (hz : 0 < vs.length) (hM : b ∉ C.M) : RdA w b off vs := RdA.of hw (h.mem hM) hz
theorem GLs.at {C : Cx} {L : List Ent} {w : World} (hw : Hp C.w0 C.M L w) (h : GLs C.w0) (h1 : 5 ∉ C.M := by simp) (h2 : 3 ∉ C.M := by simp) : GLs w := ⟨RdA_at hw h.1 (by simp [F7]) h1, RdA_at hw h.2 (by simp [FJ]) h2⟩
theorem GLr.at {C : Cx} {L : List Ent} {w : World} (hw : Hp C.w0 C.M L w) (h : GLr C.w0) (h1 : 2 ∉ C.M := by simp) : GLr w := RdA_at hw h (by simp [F7]) h1
theorem GLi.at {C : Cx} {L : List Ent} {w : World} (hw : Hp C.w0 C.M L w) (h : GLi C.w0) (h1 : 1 ∉ C.M := by simp) : GLi w := RdA_at hw h (by simp [FJ]) h1
theorem rot_and {k : Nat} (h1 : 1 ≤ k) (h2 : k ≤ 31) : (u64i (-(k:Int)) &&& (31:UInt64)).toNat = 32 - k := by
 have : k = 1 ∨ k = 2 ∨ k = 3 ∨ k = 4 ∨ k = 5 ∨ k = 6 ∨ k = 7 ∨ k = 8 ∨ k = 9 ∨ k = 10 ∨ k = 11 ∨ k = 12 ∨ k = 13 ∨ k = 14 ∨ k = 15 ∨ k = 16 ∨ k = 17 ∨ k = 18 ∨ k = 19 ∨ k = 20 ∨ k = 21 ∨ k = 22 ∨ k = 23 ∨ k = 24 ∨ k = 25 ∨ k = 26 ∨ k = 27 ∨ k = 28 ∨ k = 29 ∨ k = 30 ∨ k = 31 := by omega
 rcases this with rfl | rfl | rfl | rfl | rfl | rfl | rfl | rfl | rfl | rfl | rfl | rfl | rfl | rfl | rfl | rfl | rfl | rfl | rfl | rfl | rfl | rfl | rfl | rfl | rfl | rfl | rfl | rfl | rfl | rfl | rfl <;> rfl
theorem rotl_c (x : UInt32) (k : Nat) (w : World) (h1 : 1 ≤ k) (h2 : k ≤ 31) : Calls Tryd.prog 208 #[U32 x, I64 (-(k:Int))] w (Post w [] (fun v L => v = U32 (rotr x k) ∧ L = [])) := by
 have hr := rot_and h1 h2
 have hs2 : ((32:UInt64) - (u64i (-(k:Int)) &&& (31:UInt64))).toNat = k := by rw [UInt64.toNat_sub, hr, show (32:UInt64).toNat = 32 from rfl]; omega
 refine enter w [] 17 [] [U32 x, I64 (-(k:Int))] Tryd.func208 rfl rfl (by simp) (BR (by simp) (by simp) (by simp)) ?_
 show JC _ _ _ [(0, U32 x), (1, I64 (-(k:Int)))] _
 refine AF (AB (AA _ (AE rfl) rfl ?_))
 refine AI (AC (AF (AB (AA _ (AG rfl) rfl ?_))))
 refine AA (U64 (u64i (-(k:Int)))) (EG _ _ rfl fun _ => conv_i64_u64i (by rw [D2]; rfl) Tryd.underlying117 (-(k:Int))) rfl ?_
 refine AA (U64 ((u64i (-(k:Int))) &&& (31:UInt64))) (AJ rfl rfl fun _ => bin_and_u64 (u64i (-(k:Int))) (31:UInt64)) rfl ?_
 refine AA _ (AE rfl) rfl ?_
 refine AI (AC (AF (AB (AA _ (AG rfl) rfl ?_))))
 refine AA _ (AG rfl) rfl ?_
 refine AA (U32 (x <<< UInt32.ofNat (((u64i (-(k:Int))) &&& (31:UInt64)).toNat))) (AJ rfl rfl fun _ => bin_shl_u32 x _ _ (((u64i (-(k:Int))) &&& (31:UInt64)).toNat) (by omega) (by omega)) rfl ?_
 refine AA _ (AG rfl) rfl ?_
 refine AA _ (AG rfl) rfl ?_
 refine AA (U64 ((32:UInt64) - ((u64i (-(k:Int))) &&& (31:UInt64)))) (AJ rfl rfl fun _ => bin_sub_u64 (32:UInt64) ((u64i (-(k:Int))) &&& (31:UInt64))) rfl ?_
 refine AA (U32 (x >>> UInt32.ofNat (((32:UInt64) - ((u64i (-(k:Int))) &&& (31:UInt64))).toNat))) (AJ rfl rfl fun _ => EV x _ _ (((32:UInt64) - ((u64i (-(k:Int))) &&& (31:UInt64))).toNat) (by omega) (by omega)) rfl ?_
 refine AA (U32 ((x <<< UInt32.ofNat (((u64i (-(k:Int))) &&& (31:UInt64)).toNat)) ||| (x >>> UInt32.ofNat (((32:UInt64) - ((u64i (-(k:Int))) &&& (31:UInt64))).toNat)))) (AJ rfl rfl fun _ => bin_or_u32 (x <<< UInt32.ofNat (((u64i (-(k:Int))) &&& (31:UInt64)).toNat)) (x >>> UInt32.ofNat (((32:UInt64) - ((u64i (-(k:Int))) &&& (31:UInt64))).toNat))) rfl ?_
 refine AA _ (AE rfl) rfl ?_
 refine AI (AC (BO (BQ (U32 ((x <<< UInt32.ofNat (((u64i (-(k:Int))) &&& (31:UInt64)).toNat)) ||| (x >>> UInt32.ofNat (((32:UInt64) - ((u64i (-(k:Int))) &&& (31:UInt64))).toNat)))) (res1 Tryd.results208 (B2 rfl)) fun w1 hw1 => ?_)))
 refine ⟨_, [], rfl, ⟨?_, rfl⟩, hw1.sub (by simp) (by simp)⟩
 simp only [hr, hs2]
 rw [rotr]
theorem turn_c (x : UInt32) (k : Nat) (w : World) (h1 : 1 ≤ k) (h2 : k ≤ 31) : Calls Tryd.prog 203 #[U32 x, I64 k] w (Post w [] (fun v L => v = U32 (rotr x k) ∧ L = [])) := by
 refine enter w [] 9 [] [U32 x, I64 k] Tryd.func203 rfl rfl (by simp) (BR (by simp) (by simp) (by simp)) ?_
 show JC _ _ _ [(0, U32 x), (1, I64 k)] _
 refine AF (AB (AA _ (AE rfl) rfl ?_))
 refine AI (AC (AF (AB (AA _ (AG rfl) rfl ?_))))
 refine AA _ (AG rfl) rfl ?_
 refine AA (I64 (-(k:Int))) (Ev_un _ _ rfl fun _ => un_neg_i _ (-(k:Int)) (by omega) (by omega)) rfl ?_
 refine A0 (AY 208 [U32 x, I64 (-(k:Int))] (U32 (rotr x k)) (A4 _ Tryd.call208 rfl) (fun w1 hw1 => rotl_c x k w1 (by omega) (by omega))) rfl ?_
 show JL _ _ _ _ ((8, U32 (rotr x k)) :: _) []
 refine AA _ (AE rfl) rfl ?_
 refine AI (AC (BO (BQ (U32 (rotr x k)) (res1 Tryd.results203 (B2 rfl)) fun w1 hw1 => ?_)))
 exact ⟨_, [], rfl, ⟨rfl, rfl⟩, hw1.sub (by simp) (by simp)⟩
theorem rturn_c (x : UInt32) (k : Nat) (w : World) (h1 : 1 ≤ k) (h2 : k ≤ 31) : Calls Tryd.prog 191 #[U32 x, I64 k] w (Post w [] (fun v L => v = U32 (rotr x k) ∧ L = [])) := by
 refine enter w [] 15 [] [U32 x, I64 k] Tryd.func191 rfl rfl (by simp) (BR (by simp) (by simp) (by simp)) ?_
 show JC _ _ _ [(0, U32 x), (1, I64 k)] _
 refine AF (AB (AA _ (AE rfl) rfl ?_))
 refine AI (AC (AF (AB (AA _ (AG rfl) rfl ?_))))
 refine AA _ (AG rfl) rfl ?_
 refine AA (U64 (UInt64.ofNat k)) (EG _ _ rfl fun _ => E5 (by rw [D2]; rfl) Tryd.underlying117 k _ (by omega)) rfl ?_
 refine AA (U32 (x >>> UInt32.ofNat k)) (AJ rfl rfl fun _ => EV x _ _ k (by omega) (ofN_i (by omega))) rfl ?_
 refine AA _ (AG rfl) rfl ?_
 refine AA _ (AG rfl) rfl ?_
 refine AA (I64 (-(k:Int) + 32)) (AJ rfl rfl fun _ => C5 _ _ (-(k:Int) + 32) (by omega) (by omega)) rfl ?_
 refine AA (U64 (UInt64.ofNat (32 - k))) (EG _ _ rfl fun _ => E5 (by rw [D2]; rfl) Tryd.underlying117 (32 - k) _ (by omega)) rfl ?_
 refine AA (U32 (x <<< UInt32.ofNat (32 - k))) (AJ rfl rfl fun _ => bin_shl_u32 x _ _ (32 - k) (by omega) (ofN_i (by omega))) rfl ?_
 refine AA (U32 ((x >>> UInt32.ofNat k) ||| (x <<< UInt32.ofNat (32 - k)))) (AJ rfl rfl fun _ => bin_or_u32 (x >>> UInt32.ofNat k) (x <<< UInt32.ofNat (32 - k))) rfl ?_
 refine AA _ (AE rfl) rfl ?_
 refine AI (AC (BO (BQ (U32 ((x >>> UInt32.ofNat k) ||| (x <<< UInt32.ofNat (32 - k)))) (res1 Tryd.results191 (B2 rfl)) fun w1 hw1 => ?_)))
 refine ⟨_, [], rfl, ⟨?_, rfl⟩, hw1.sub (by simp) (by simp)⟩
 rw [rotr, UInt32.or_comm]
theorem word_c (az : Option Addr) (cz : Nat) (z : List UInt8) (w : World) (hz : z.length = 4) (hr : RdB w [] az z) : Calls Tryd.prog 207 #[.slice az 4 cz] w (Post w [] (fun v L => v = U32 (wordL z) ∧ L = [])) := by
 refine enter w [] 25 [] [.slice az 4 cz] Tryd.func207 rfl rfl (by simp) (BR (by simp) (by simp) (by simp)) ?_
 show JC _ _ _ [(0, .slice az 4 cz)] _
 refine AF (AB (AA _ (AE rfl) rfl ?_))
 refine AI (AC (AF ?_))
 obtain ⟨bz1, oz1, hz1, hm1⟩ := hr.pos (by rw [hz]; omega)
 refine CT 25 1 [(0, .slice az 4 cz), (1, Ptr bz1 oz1), (2, U8 (g8 z 0)), (3, U32 ((g8 z 0).toUInt32)), (4, U32 (((g8 z 0).toUInt32) <<< (24:UInt32))), (5, .slice az 4 cz), (6, Ptr bz1 (oz1 + 1)), (7, U8 (g8 z 1)), (8, U32 ((g8 z 1).toUInt32)), (9, U32 (((g8 z 1).toUInt32) <<< (16:UInt32))), (10, U32 ((((g8 z 0).toUInt32) <<< (24:UInt32)) ||| (((g8 z 1).toUInt32) <<< (16:UInt32)))), (11, .slice az 4 cz), (12, Ptr bz1 (oz1 + 2)), (13, U8 (g8 z 2)), (14, U32 ((g8 z 2).toUInt32)), (15, U32 (((g8 z 2).toUInt32) <<< (8:UInt32))), (16, U32 (((((g8 z 0).toUInt32) <<< (24:UInt32)) ||| (((g8 z 1).toUInt32) <<< (16:UInt32))) ||| (((g8 z 2).toUInt32) <<< (8:UInt32)))), (17, .slice az 4 cz), (18, Ptr bz1 (oz1 + 3)), (19, U8 (g8 z 3)), (20, U32 ((g8 z 3).toUInt32)), (21, U32 ((((((g8 z 0).toUInt32) <<< (24:UInt32)) ||| (((g8 z 1).toUInt32) <<< (16:UInt32))) ||| (((g8 z 2).toUInt32) <<< (8:UInt32))) ||| ((g8 z 3).toUInt32))), (22, U32 ((((((g8 z 0).toUInt32) <<< (24:UInt32)) ||| (((g8 z 1).toUInt32) <<< (16:UInt32))) ||| (((g8 z 2).toUInt32) <<< (8:UInt32))) ||| ((g8 z 3).toUInt32)))] BL rfl (by decide +kernel) ?_
 refine DE ⟨[], [0, 1, 2, 3, 4, 5, 6, 7, 8, 9, 10, 11, 12, 13, 14, 15, 16, 17, 18, 19, 20, 21, 22], [], [0, 1, 2, 3, 4, 5, 6, 7, 8, 9, 10, 11, 12, 13, 14, 15, 16, 17, 18, 19, 20, 21, 22], []⟩ rfl rfl (by decide +kernel) rfl ⟨AU rfl rfl rfl, ⟨_, rfl, AD rfl (CL 5 1 oz1 AK AM rfl hz1 rfl (by omega) (by omega) (by omega))⟩, ⟨_, rfl, AD rfl (AL rfl (AZ BZ (BW (MemAt.base hm1.1 hm1.2.1 hm1.2.2) (Seg.get (EC (i := 0) (by rw [hz]; omega))) (by omega))))⟩, ⟨_, rfl, AD rfl (EG _ _ rfl fun _ => conv_u8_u32 (by rw [B3]; rfl) D5 _)⟩, ⟨_, rfl, AD rfl (AJ rfl rfl fun _ => bin_shl_u32 ((g8 z 0).toUInt32) _ _ 24 (by decide) rfl)⟩, AU rfl rfl rfl, ⟨_, rfl, AD rfl (CL 5 1 (oz1 + 1) AK AM rfl hz1 rfl (by omega) (by omega) (by omega))⟩, ⟨_, rfl, AD rfl (AL rfl (AZ BZ (BW (MemAt.base hm1.1 hm1.2.1 hm1.2.2) (Seg.get (EC (i := 1) (by rw [hz]; omega))) (by omega))))⟩, ⟨_, rfl, AD rfl (EG _ _ rfl fun _ => conv_u8_u32 (by rw [B3]; rfl) D5 _)⟩, ⟨_, rfl, AD rfl (AJ rfl rfl fun _ => bin_shl_u32 ((g8 z 1).toUInt32) _ _ 16 (by decide) rfl)⟩, ⟨_, rfl, AD rfl (AJ rfl rfl fun _ => bin_or_u32 (((g8 z 0).toUInt32) <<< (24:UInt32)) (((g8 z 1).toUInt32) <<< (16:UInt32)))⟩, AU rfl rfl rfl, ⟨_, rfl, AD rfl (CL 5 1 (oz1 + 2) AK AM rfl hz1 rfl (by omega) (by omega) (by omega))⟩, ⟨_, rfl, AD rfl (AL rfl (AZ BZ (BW (MemAt.base hm1.1 hm1.2.1 hm1.2.2) (Seg.get (EC (i := 2) (by rw [hz]; omega))) (by omega))))⟩, ⟨_, rfl, AD rfl (EG _ _ rfl fun _ => conv_u8_u32 (by rw [B3]; rfl) D5 _)⟩, ⟨_, rfl, AD rfl (AJ rfl rfl fun _ => bin_shl_u32 ((g8 z 2).toUInt32) _ _ 8 (by decide) rfl)⟩, ⟨_, rfl, AD rfl (AJ rfl rfl fun _ => bin_or_u32 ((((g8 z 0).toUInt32) <<< (24:UInt32)) ||| (((g8 z 1).toUInt32) <<< (16:UInt32))) (((g8 z 2).toUInt32) <<< (8:UInt32)))⟩, AU rfl rfl rfl, ⟨_, rfl, AD rfl (CL 5 1 (oz1 + 3) AK AM rfl hz1 rfl (by omega) (by omega) (by omega))⟩, ⟨_, rfl, AD rfl (AL rfl (AZ BZ (BW (MemAt.base hm1.1 hm1.2.1 hm1.2.2) (Seg.get (EC (i := 3) (by rw [hz]; omega))) (by omega))))⟩, ⟨_, rfl, AD rfl (EG _ _ rfl fun _ => conv_u8_u32 (by rw [B3]; rfl) D5 _)⟩, ⟨_, rfl, AD rfl (AJ rfl rfl fun _ => bin_or_u32 (((((g8 z 0).toUInt32) <<< (24:UInt32)) ||| (((g8 z 1).toUInt32) <<< (16:UInt32))) ||| (((g8 z 2).toUInt32) <<< (8:UInt32))) ((g8 z 3).toUInt32))⟩, ⟨_, rfl, AD rfl (AE rfl)⟩, trivial⟩ ?_
 refine CC (F' := [(2, U32 ((((((g8 z 0).toUInt32) <<< (24:UInt32)) ||| (((g8 z 1).toUInt32) <<< (16:UInt32))) ||| (((g8 z 2).toUInt32) <<< (8:UInt32))) ||| ((g8 z 3).toUInt32)))]) (by kernel_rfl) ?_
 refine AC (BO (BQ (U32 ((((((g8 z 0).toUInt32) <<< (24:UInt32)) ||| (((g8 z 1).toUInt32) <<< (16:UInt32))) ||| (((g8 z 2).toUInt32) <<< (8:UInt32))) ||| ((g8 z 3).toUInt32))) (res1 Tryd.results207 (B2 rfl)) fun w1 hw1 => ?_))
 refine ⟨_, [], rfl, ⟨?_, rfl⟩, hw1.sub (by simp) (by simp)⟩
 rw [wordL]
end Go.Proofs.YtkdpdgpphpngeaaDoor
