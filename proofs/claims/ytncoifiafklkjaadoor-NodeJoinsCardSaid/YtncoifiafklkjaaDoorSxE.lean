import Derived.Test.YtncoifiafklkjaaDoorSxD
namespace Go.Sx
open Go Go.RowKit
set_option linter.unusedVariables false

/-- What an operation that may turn the world comes to. -/
def Step (C : Cx) (F : Frm) (L : List Ent) (op : Op) (ty : TypeId) (R : Value → List Ent → Prop) : Prop :=
  ∀ a w, Fr F C a → Hp C.w0 C.M L w → ∀ d pos aft g (Kk : Act → World → Prop) (Q : Exit → Act → World → Prop),
    (∀ v L' w', R v L' → Hp C.w0 C.M L' w' → Kk (a.put d v) w') → (Oper.mk d op ty pos aft g).wpIn (Fc C.rd) 0 C.P a w Kk Q

variable {C : Cx} {F : Frm} {L : List Ent} {Q : Exit → Act → World → Prop} {l : List Oper}

theorem Step_val {op : Op} {ty : TypeId} {v : Value} (h : Ev C F L op ty v) : Step C F L op ty fun u L' => u = v ∧ L' = L := fun a w ha hw d pos aft g Kk Q hk => by
  refine wpIn_of_wp (nd_of_run (h a w ha hw d pos aft g) (by simp)) ?_
  unfold Oper.wp
  rw [h a w ha hw]
  exact hk v L w ⟨rfl, rfl⟩ hw

theorem Step_run {op : Op} {ty : TypeId} {R : Value → List Ent → Prop} (h : ∀ a w, Fr F C a → Hp C.w0 C.M L w → ∀ d pos aft g, ∃ v L' w', R v L' ∧ Hp C.w0 C.M L' w' ∧
    ((execOp a.eval ⟨d, op, ty, pos, aft, g⟩).run C.P w = .ok (.value v) w' ∨ v = undef ∧ (execOp a.eval ⟨d, op, ty, pos, aft, g⟩).run C.P w = .ok .skip w')) : Step C F L op ty R := fun a w ha hw d pos aft g Kk Q hk => by
  obtain ⟨v, L', w', hR, hw', hr⟩ := h a w ha hw d pos aft g
  rcases hr with hr | ⟨rfl, hr⟩
  · refine wpIn_of_wp (nd_of_run hr (by simp)) ?_
    unfold Oper.wp; rw [hr]; exact hk v L' w' hR hw'
  · refine wpIn_of_wp (nd_of_run hr (by simp)) ?_
    unfold Oper.wp; rw [hr]; exact hk _ L' w' hR hw'

theorem Step_call {op : Op} {ty : TypeId} (f : FuncId) (args : Array Value) (m : List Bool) (M' : List Nat) (R : Value → List Ent → Prop)
    (hc : Cl C F L op ty f args) (hM : (take? m L).map Ent.b = M') (hct : ∀ w, Hp C.w0 C.M L w → Calls C.P f args w (Post w M' R)) :
    Step C F L op ty fun v L' => ∃ L'', R v L'' ∧ L' = rest? m L ++ L'' := fun a w ha hw d pos aft g Kk Q hk => by
  refine wpIn_of_wp (nd_of_run (hc a w ha hw d pos aft g) (by simp)) ?_
  unfold Oper.wp
  rw [hc a w ha hw]
  refine (hct w hw).mono ?_
  rintro e w' ⟨v, L', rfl, hR, hw'⟩
  exact hk v _ w' ⟨L', hR, rfl⟩ (hw.call hw' (perm_mask m L) hM)

theorem JL_step {ops : Array Oper} {d : Option Tmp} {op : Op} {ty : TypeId} {pos : String} {aft : Array Edge} {R : Value → List Ent → Prop} (hs : Step C F L op ty R) (hd : (match d with | some d => Nat.blt d C.n | none => true) = true)
    (h : ∀ v L', R v L' → JL C Q ops l (match d with | some d => (d, v) :: F | none => F) L') : JL C Q ops (⟨d, op, ty, pos, aft, none⟩ :: l) F L := by
  intro a w ha hw
  refine wpListIn_plain rfl fun K hK => hs a w ha hw _ _ _ _ _ _ fun v L' w' hR hw' => hK _ _ ?_
  cases d with
  | none => exact h v L' hR _ _ ha hw'
  | some d => exact h v L' hR _ _ (ha.put v (by simpa [Nat.blt_eq] using hd)) hw'

theorem JL_gstep {ops : Array Oper} {d : Option Tmp} {op : Op} {ty : TypeId} {pos : String} {aft : Array Edge} {R : Value → List Ent → Prop} (j s : Nat) (want b : Bool) (hj : (ops[j]?).bind (·.dst) = some s)
    (hs' : lk F s = some (.bool b)) (hb : b = want) (hs : Step C F L op ty R) (hd : (match d with | some d => Nat.blt d C.n | none => true) = true)
    (h : ∀ v L', R v L' → JL C Q ops l (match d with | some d => (d, v) :: F | none => F) L') : JL C Q ops (⟨d, op, ty, pos, aft, some (j, want)⟩ :: l) F L := by
  intro a w ha hw
  refine wpListIn_step fun K hK => ?_
  have hy : yielded ops a.tmps j = some want := by
    simp [yielded, hj, ha.2.2 s _ hs', hb]
  simp only [Region.wanted, hy, beq_self_eq_true, if_true]
  refine hs a w ha hw _ _ _ _ _ _ fun v L' w' hR hw' => hK _ _ ?_
  cases d with
  | none => exact h v L' hR _ _ ha hw'
  | some d => exact h v L' hR _ _ (ha.put v (by simpa [Nat.blt_eq] using hd)) hw'

/-! ### regions that draw their order -/
def preds (ops : Array Oper) (i : Nat) : List Nat :=
  match ops[i]? with
  | some o => (o.after.toList.filter (Region.binds .any)).map (·.on)
  | none => []
def dstOf (ops : Array Oper) (i : Nat) : Option Nat := (ops[i]?).bind (·.dst)
abbrev Vals := List (Nat × Value)
/-- May an operation read the base's slot s? Whoever writes it waits for it. -/
def okb (ops : Array Oper) (i s : Nat) : Bool := (List.range ops.size).all fun j => match dstOf ops j with
  | some d => !(Nat.beq d s) || Nat.beq j i || (preds ops j).contains i
  | none => true
/-- The values that the operations waited for have given. -/
def predF (ops : Array Oper) (Vl : Vals) : List Nat → Frm
  | [] => []
  | j :: r => match dstOf ops j, lk Vl j with
    | some d, some v => (d, v) :: predF ops Vl r
    | _, _ => predF ops Vl r
def baseF (ops : Array Oper) (i : Nat) : Frm → Frm
  | [] => []
  | (s, v) :: r => bif okb ops i s then (s, v) :: baseF ops i r else baseF ops i r
def frmOf (ops : Array Oper) (Vl : Vals) (F0 : Frm) (i : Nat) : Frm := predF ops Vl (preds ops i) ++ baseF ops i F0

/-- A quiet operation: it gives v, whatever else has been done. -/
def Qok (C : Cx) (ops : Array Oper) (Q : Exit → Act → World → Prop) (F : Frm) (L : List Ent) (i : Nat) (v : Value) : Prop :=
  ∀ a w, Fr F C a → Hp C.w0 C.M L w → ∀ K : Act → World → Prop, K (a.put (dstOf ops i) v) w → wpOpIn (Fc C.rd) 0 C.P ops Q i K a w
/-- An operation that turns the world. -/
def Cok (C : Cx) (ops : Array Oper) (Q : Exit → Act → World → Prop) (F : Frm) (L : List Ent) (i : Nat) (R : Value → List Ent → Prop) : Prop :=
  ∀ a w, Fr F C a → Hp C.w0 C.M L w → ∀ K : Act → World → Prop, (∀ v L' w', R v L' → Hp C.w0 C.M L' w' → K (a.put (dstOf ops i) v) w') → wpOpIn (Fc C.rd) 0 C.P ops Q i K a w

theorem Qok_val {ops : Array Oper} {i : Nat} {d : Option Tmp} {op : Op} {ty : TypeId} {pos : String} {aft : Array Edge} {v : Value} (hi : ops[i]? = some ⟨d, op, ty, pos, aft, none⟩) (h : Ev C F L op ty v) : Qok C ops Q F L i v := fun a w ha hw K hk => by
  unfold wpOpIn
  rw [hi]
  simp only [Region.wanted, if_true]
  refine wpIn_of_wp (nd_of_run (h a w ha hw d pos aft _) (by simp)) ?_
  unfold Oper.wp
  rw [h a w ha hw]
  have h2 : K (a.put d v) w := by simpa [dstOf, hi] using hk
  exact h2
theorem Qok_gval {ops : Array Oper} {i : Nat} {d : Option Tmp} {op : Op} {ty : TypeId} {pos : String} {aft : Array Edge} {v : Value} (j s : Nat) (want b : Bool) (hi : ops[i]? = some ⟨d, op, ty, pos, aft, some (j, want)⟩)
    (hj : (ops[j]?).bind (·.dst) = some s) (hs : lk F s = some (.bool b)) (hb : b = want) (h : Ev C F L op ty v) : Qok C ops Q F L i v := fun a w ha hw K hk => by
  have hy : yielded ops a.tmps j = some want := by
    simp [yielded, hj, ha.2.2 s _ hs, hb]
  unfold wpOpIn
  rw [hi]
  simp only [Region.wanted, hy, beq_self_eq_true, if_true]
  refine wpIn_of_wp (nd_of_run (h a w ha hw d pos aft _) (by simp)) ?_
  unfold Oper.wp
  rw [h a w ha hw]
  have h2 : K (a.put d v) w := by simpa [dstOf, hi] using hk
  exact h2
theorem Qok_gskip {ops : Array Oper} {i : Nat} {d : Option Tmp} {op : Op} {ty : TypeId} {pos : String} {aft : Array Edge} (j s : Nat) (want b : Bool) (hi : ops[i]? = some ⟨d, op, ty, pos, aft, some (j, want)⟩)
    (hj : (ops[j]?).bind (·.dst) = some s) (hs : lk F s = some (.bool b)) (hb : b = !want) : Qok C ops Q F L i undef := fun a w ha hw K hk => by
  have hy : yielded ops a.tmps j = some (!want) := by
    simp [yielded, hj, ha.2.2 s _ hs, hb]
  have hn : Region.wanted ⟨d, op, ty, pos, aft, some (j, want)⟩ (yielded ops a.tmps) = false := by
    cases want <;> simp [Region.wanted, hy]
  unfold wpOpIn
  rw [hi]
  simp only [hn]
  exact ⟨fun _ _ => trivial, by simpa [dstOf, hi] using hk⟩
theorem Qok_gskipU {ops : Array Oper} {i : Nat} {d : Option Tmp} {op : Op} {ty : TypeId} {pos : String} {aft : Array Edge} (j s : Nat) (want : Bool) (hi : ops[i]? = some ⟨d, op, ty, pos, aft, some (j, want)⟩)
    (hj : (ops[j]?).bind (·.dst) = some s) (hs : lk F s = some undef) : Qok C ops Q F L i undef := fun a w ha hw K hk => by
  have hy : yielded ops a.tmps j = none := by
    simp [yielded, hj, ha.2.2 s _ hs, undef]
  have hn : Region.wanted ⟨d, op, ty, pos, aft, some (j, want)⟩ (yielded ops a.tmps) = false := by
    simp [Region.wanted, hy]
  unfold wpOpIn
  rw [hi]
  simp only [hn]
  exact ⟨fun _ _ => trivial, by simpa [dstOf, hi] using hk⟩
theorem Cok_step {ops : Array Oper} {i : Nat} {d : Option Tmp} {op : Op} {ty : TypeId} {pos : String} {aft : Array Edge} {R : Value → List Ent → Prop} (hi : ops[i]? = some ⟨d, op, ty, pos, aft, none⟩) (h : Step C F L op ty R) : Cok C ops Q F L i R := fun a w ha hw K hk => by
  unfold wpOpIn
  rw [hi]
  simp only [Region.wanted, if_true]
  refine (h a w ha hw _ _ _ _ _ _ fun v L' w' hR hw' => ?_)
  have := hk v L' w' hR hw'
  simpa [dstOf, hi] using this
theorem Cok_gstep {ops : Array Oper} {i : Nat} {d : Option Tmp} {op : Op} {ty : TypeId} {pos : String} {aft : Array Edge} {R : Value → List Ent → Prop} (j s : Nat) (want b : Bool) (hi : ops[i]? = some ⟨d, op, ty, pos, aft, some (j, want)⟩)
    (hj : (ops[j]?).bind (·.dst) = some s) (hs : lk F s = some (.bool b)) (hb : b = want) (h : Step C F L op ty R) : Cok C ops Q F L i R := fun a w ha hw K hk => by
  have hy : yielded ops a.tmps j = some want := by
    simp [yielded, hj, ha.2.2 s _ hs, hb]
  unfold wpOpIn
  rw [hi]
  simp only [Region.wanted, hy, beq_self_eq_true, if_true]
  refine (h a w ha hw _ _ _ _ _ _ fun v L' w' hR hw' => ?_)
  have := hk v L' w' hR hw'
  simpa [dstOf, hi] using this

/-- A phase: what has been done of the chain; what may be done by now; what must have been done; what of it is to be shown; the chain's next. -/
structure Ph where
  pre : List Nat
  av : List Nat
  mu : List Nat
  q : List Nat
  cs : List Nat

def Ph.chk (ops : Array Oper) (p : Ph) : Bool :=
  ((List.range ops.size).all fun i => p.pre.contains i || p.av.contains i || p.cs.contains i || (preds ops i).any fun j => !(p.pre.contains j || p.av.contains j)) &&
  (p.mu.all fun i => (p.pre ++ p.mu).any fun j => Nat.blt i j && (preds ops j).contains i) &&
  (p.cs.all fun c => !p.pre.contains c && !p.av.contains c && Nat.blt c ops.size) &&
  (p.av.all fun i => p.mu.contains i || p.q.contains i)
def chk0 (ops : Array Oper) (n : Nat) : Bool :=
  ((List.range ops.size).all fun i => match dstOf ops i with | some d => Nat.blt d n | none => true) &&
  ((List.range ops.size).all fun i => (preds ops i).all fun j => Nat.blt j i) &&
  ((List.range ops.size).all fun i => (List.range i).all fun j => match dstOf ops i, dstOf ops j with
    | some d, some e => !Nat.beq d e
    | _, _ => true)

def QAll (C : Cx) (ops : Array Oper) (Q : Exit → Act → World → Prop) (F0 : Frm) (Vl : Vals) (L : List Ent) : List Nat → Prop
  | [] => True
  | i :: r => (∃ v, lk Vl i = some v ∧ Qok C ops Q (frmOf ops Vl F0 i) L i v) ∧ QAll C ops Q F0 Vl L r

/-- All that was written, and the base's slots that nobody writes. -/
def endF (ops : Array Oper) (Vl : Vals) (F0 : Frm) : Frm := predF ops Vl (List.range ops.size) ++ baseF ops ops.size F0

def DP (C : Cx) (ops : Array Oper) (Q : Exit → Act → World → Prop) (F0 : Frm) : Nat → List Nat → List Nat → Vals → List Ent → Prop
  | 0, _, _, _, _ => False
  | k + 1, pre, av, Vl, L => ∃ p : Ph, p.pre = pre ∧ (av.all fun i => p.av.contains i) = true ∧ p.chk ops = true ∧ QAll C ops Q F0 Vl L p.q ∧ (p.cs = [] → JQ C Q .normal (endF ops Vl F0) L) ∧
    ∀ c ∈ p.cs, (lk Vl c).isNone = true ∧ ∃ R, Cok C ops Q (frmOf ops Vl F0 c) L c R ∧ ∀ v L', R v L' → ∃ ex, DP C ops Q F0 k (pre ++ [c]) p.av (Vl ++ (c, v) :: ex) L'

theorem lk_append : ∀ (A B : Frm) (s : Nat), lk (A ++ B) s = (lk A s).or (lk B s)
  | [], B, s => by simp [lk]
  | (i, v) :: A, B, s => by
    simp only [List.cons_append, lk]
    cases Nat.beq i s <;> simp [lk_append A B s]
theorem lk_base (ops : Array Oper) (i : Nat) : ∀ (F : Frm) (s : Nat) (v : Value), lk (baseF ops i F) s = some v → okb ops i s = true ∧ lk F s = some v
  | [], s, v, h => by simp [baseF, lk] at h
  | (j, u) :: F, s, v, h => by
    simp only [baseF] at h
    cases ho : okb ops i j with
    | true =>
      rw [ho] at h
      simp only [cond_true, lk] at h ⊢
      cases hb : Nat.beq j s with
      | true =>
        rw [hb] at h
        obtain rfl := Nat.eq_of_beq_eq_true hb
        exact ⟨ho, by simpa using h⟩
      | false => rw [hb] at h; simpa using lk_base ops i F s v h
    | false =>
      rw [ho] at h
      simp only [cond_false] at h
      obtain ⟨h1, h2⟩ := lk_base ops i F s v h
      refine ⟨h1, ?_⟩
      simp only [lk]
      cases hb : Nat.beq j s with
      | true => obtain rfl := Nat.eq_of_beq_eq_true hb; rw [h1] at ho; cases ho
      | false => simpa using h2
theorem lk_pred (ops : Array Oper) (Vl : Vals) : ∀ (js : List Nat) (s : Nat) (v : Value), lk (predF ops Vl js) s = some v → ∃ j ∈ js, dstOf ops j = some s ∧ lk Vl j = some v
  | [], s, v, h => by simp [predF, lk] at h
  | j :: js, s, v, h => by
    simp only [predF] at h
    cases hd : dstOf ops j with
    | none => rw [hd] at h; obtain ⟨k, hk, h2⟩ := lk_pred ops Vl js s v h; exact ⟨k, List.mem_cons_of_mem _ hk, h2⟩
    | some d =>
      cases hv : lk Vl j with
      | none => rw [hd, hv] at h; obtain ⟨k, hk, h2⟩ := lk_pred ops Vl js s v h; exact ⟨k, List.mem_cons_of_mem _ hk, h2⟩
      | some u =>
        rw [hd, hv] at h
        simp only [lk] at h
        cases hb : Nat.beq d s with
        | true =>
          rw [hb] at h
          obtain rfl := Nat.eq_of_beq_eq_true hb
          simp at h; subst h
          exact ⟨j, by simp, hd, hv⟩
        | false => rw [hb] at h; obtain ⟨k, hk, h2⟩ := lk_pred ops Vl js s v h; exact ⟨k, List.mem_cons_of_mem _ hk, h2⟩

/-- What is known in the midst of a region. -/
structure Mid (C : Cx) (ops : Array Oper) (F0 : Frm) (p : Ph) (Vl : Vals) (L : List Ent) (li : Array Bool) (a : Act) (w : World) : Prop where
  size : li.size = ops.size
  closed : ∀ j, li[j]? = some true → ∀ k ∈ preds ops j, li[k]? = some true
  pre : ∀ c ∈ p.pre, li[c]? = some true
  ex : ∀ j, li[j]? = some true → j ∈ p.pre ∨ j ∈ p.av
  df : a.defers = C.df
  n : a.tmps.size = C.n
  vals : ∀ j, li[j]? = some true → ∀ d, dstOf ops j = some d → ∃ v, lk Vl j = some v ∧ a.tmps[d]? = some v
  base : ∀ s v, lk F0 s = some v → (∀ j, li[j]? = some true → dstOf ops j ≠ some s) → a.tmps[s]? = some v
  heap : Hp C.w0 C.M L w

theorem ready_spec {ops : Array Oper} {li : Array Bool} {i : Nat} (h : i ∈ Region.ready .any ops li) : i < ops.size ∧ li[i]? = some false ∧ ∀ j ∈ preds ops i, li[j]? = some true := by
  simp only [Region.ready, List.mem_filter, List.mem_range, Bool.and_eq_true, Bool.not_eq_true'] at h
  obtain ⟨h1, h2, h3⟩ := h
  refine ⟨h1, ?_, fun j hj => ?_⟩
  · rw [Array.getD_eq_getD_getElem?] at h2
    cases hx : li[i]? with
    | none => rw [hx] at h2; simp at h2
    | some b => rw [hx] at h2; simp at h2; rw [h2]
  · unfold preds at hj
    cases ho : ops[i]? with
    | none => rw [ho] at hj; simp at hj
    | some o =>
      rw [ho] at hj h3
      simp only [List.mem_map, List.mem_filter] at hj
      obtain ⟨e, ⟨he, hb⟩, rfl⟩ := hj
      simp only [Option.map_some, Option.getD_some, Array.all_eq_true_iff_forall_mem] at h3
      have := h3 e (Array.mem_toList_iff.1 he)
      simp only [hb, Bool.not_true, Bool.false_or] at this
      rw [Array.getD_eq_getD_getElem?] at this
      cases hx : li[e.on]? with
      | none => rw [hx] at this; simp at this
      | some b => rw [hx] at this; simp at this; rw [this]
theorem ready_of {ops : Array Oper} {li : Array Bool} {i : Nat} (h1 : i < ops.size) (h2 : li[i]? = some false) (h3 : ∀ j ∈ preds ops i, li[j]? = some true) : i ∈ Region.ready .any ops li := by
  simp only [Region.ready, List.mem_filter, List.mem_range, Bool.and_eq_true, Bool.not_eq_true']
  refine ⟨h1, ?_, ?_⟩
  · rw [Array.getD_eq_getD_getElem?, h2]; rfl
  · rw [Array.getElem?_eq_getElem h1]
    simp only [Option.map_some, Option.getD_some, Array.all_eq_true_iff_forall_mem]
    intro e he
    cases hb : Region.binds .any e with
    | false => rfl
    | true =>
      have := h3 e.on (by
        unfold preds
        rw [Array.getElem?_eq_getElem h1]
        exact List.mem_map.2 ⟨e, List.mem_filter.2 ⟨Array.mem_toList_iff.2 he, hb⟩, rfl⟩)
      simp [Array.getD_eq_getD_getElem?, this]

def cnt : List Bool → Nat
  | [] => 0
  | b :: l => (if b then 0 else 1) + cnt l
theorem cnt_set : ∀ (l : List Bool) (i : Nat), l[i]? = some false → cnt (l.set i true) + 1 = cnt l
  | [], i, h => by simp at h
  | b :: l, 0, h => by simp at h; subst h; simp [cnt]; omega
  | b :: l, i + 1, h => by
    have := cnt_set l i (by simpa using h)
    simp only [List.set_cons_succ, cnt]; omega
theorem cnt_zero : ∀ (l : List Bool), cnt l = 0 → ∀ (i : Nat) (b : Bool), l[i]? = some b → b = true
  | [], _, i, b, h => by simp at h
  | c :: l, hc, i, b, h => by
    simp only [cnt] at hc
    cases c with
    | false => simp at hc
    | true =>
      cases i with
      | zero => simpa using h.symm
      | succ i => exact cnt_zero l (by simpa using hc) i b (by simpa using h)

theorem chk0_lt {ops : Array Oper} {n : Nat} (h : chk0 ops n = true) {i j : Nat} (hj : j ∈ preds ops i) : j < i ∧ i < ops.size := by
  have hi : i < ops.size := by
    unfold preds at hj
    cases ho : ops[i]? with
    | none => rw [ho] at hj; simp at hj
    | some o => exact (Array.getElem?_eq_some_iff.1 ho).1
  simp only [chk0, Bool.and_eq_true, List.all_eq_true, List.mem_range] at h
  have := h.1.2 i hi j hj
  exact ⟨by simpa [Nat.blt_eq] using this, hi⟩
theorem dst_lt {ops : Array Oper} {i d : Nat} (h : dstOf ops i = some d) : i < ops.size := by
  unfold dstOf at h
  cases ho : ops[i]? with
  | none => rw [ho] at h; simp at h
  | some o => exact (Array.getElem?_eq_some_iff.1 ho).1
theorem chk0_n {ops : Array Oper} {n : Nat} (h : chk0 ops n = true) {i d : Nat} (hd : dstOf ops i = some d) : d < n := by
  simp only [chk0, Bool.and_eq_true, List.all_eq_true, List.mem_range] at h
  have := h.1.1 i (dst_lt hd)
  rw [hd] at this
  simpa [Nat.blt_eq] using this
theorem chk0_inj {ops : Array Oper} {n : Nat} (h : chk0 ops n = true) {i j d : Nat} (hi : dstOf ops i = some d) (hj : dstOf ops j = some d) : i = j := by
  simp only [chk0, Bool.and_eq_true, List.all_eq_true, List.mem_range] at h
  have key : ∀ i j, dstOf ops i = some d → dstOf ops j = some d → ¬ j < i := fun i j hi hj hlt => by
    have := h.2 i (dst_lt hi) j hlt
    rw [hi, hj] at this
    simp [Nat.beq_refl] at this
  have h1 := key i j hi hj
  have h2 := key j i hj hi
  omega

section
variable {ops : Array Oper} {F0 : Frm} {p : Ph} {Vl : Vals} {li : Array Bool} {a : Act} {w : World}
theorem Mid.frm (h : Mid C ops F0 p Vl L li a w) {i : Nat} (hi : i ∈ Region.ready .any ops li) : Fr (frmOf ops Vl F0 i) C a := by
  obtain ⟨h1, h2, h3⟩ := ready_spec hi
  refine ⟨h.df, h.n, fun s v hs => ?_⟩
  unfold frmOf at hs
  rw [lk_append] at hs
  cases hp : lk (predF ops Vl (preds ops i)) s with
  | some u =>
    rw [hp] at hs
    simp at hs; subst hs
    obtain ⟨j, hj, hd, hv⟩ := lk_pred _ _ _ _ _ hp
    obtain ⟨v', hv', ht⟩ := h.vals j (h3 j hj) s hd
    rw [hv] at hv'; cases hv'; exact ht
  | none =>
    rw [hp] at hs
    simp at hs
    obtain ⟨ho, hb⟩ := lk_base _ _ _ _ _ hs
    refine h.base s v hb fun j hj hd => ?_
    simp only [okb, List.all_eq_true, List.mem_range] at ho
    have := ho j (dst_lt hd)
    rw [hd] at this
    simp only [Nat.beq_refl, Bool.not_true, Bool.false_or, Bool.or_eq_true, List.contains_iff_mem] at this
    rcases this with h4 | h4
    · obtain rfl := Nat.eq_of_beq_eq_true h4; rw [h2] at hj; cases hj
    · have := h.closed j hj i h4; rw [h2] at this; cases this
theorem Mid.must (h : Mid C ops F0 p Vl L li a w) (hc : p.chk ops = true) {n : Nat} (h0 : chk0 ops n = true) {i : Nat} (hi : i ∈ p.mu) : li[i]? = some true := by
  simp only [Ph.chk, Bool.and_eq_true, List.all_eq_true] at hc
  have hmu := hc.1.1.2
  have key : ∀ m i, ops.size ≤ i + m → i ∈ p.mu → li[i]? = some true := by
    intro m
    induction m with
    | zero =>
      intro i hm hi
      obtain ⟨j, hj, hb⟩ := List.any_eq_true.1 (hmu i hi)
      simp only [Bool.and_eq_true, List.contains_iff_mem] at hb
      have := chk0_lt h0 hb.2; omega
    | succ m ih =>
      intro i hm hi
      obtain ⟨j, hj, hb⟩ := List.any_eq_true.1 (hmu i hi)
      simp only [Bool.and_eq_true, List.contains_iff_mem] at hb
      have hlt := chk0_lt h0 hb.2
      have hjl : li[j]? = some true := by
        rcases List.mem_append.1 hj with h1 | h1
        · exact h.pre j h1
        · exact ih j (by omega) h1
      exact h.closed j hjl i hb.2
  exact key ops.size i (by omega) hi
theorem Mid.put (h : Mid C ops F0 p Vl L li a w) (h0 : chk0 ops C.n = true) {i : Nat} (hi : i ∈ Region.ready .any ops li) {p' : Ph} {Vl' : Vals} {L' : List Ent} {w' : World} {u : Value}
    (hV : ∀ j v, lk Vl j = some v → lk Vl' j = some v) (hu : lk Vl' i = some u) (hpre : ∀ c ∈ p'.pre, c ∈ p.pre ∨ c = i) (hex : ∀ j, j ∈ p.pre ∨ j ∈ p.av → j ∈ p'.pre ∨ j ∈ p'.av) (hiex : i ∈ p'.pre ∨ i ∈ p'.av)
    (hw : Hp C.w0 C.M L' w') : Mid C ops F0 p' Vl' L' (li.setIfInBounds i true) (a.put (dstOf ops i) u) w' := by
  obtain ⟨h1, h2, h3⟩ := ready_spec hi
  have hil : i < li.size := by rw [h.size]; exact h1
  have hset : ∀ j, (li.setIfInBounds i true)[j]? = some true ↔ j = i ∨ li[j]? = some true := fun j => by
    rw [Array.getElem?_setIfInBounds]
    by_cases hji : i = j
    · subst hji; simp [hil]
    · simp [hji, Ne.symm hji]
  refine ⟨by simp [h.size], fun j hj k hk => ?_, fun c hc => ?_, fun j hj => ?_, ?_, ?_, fun j hj d hd => ?_, fun s v hs hn => ?_, hw⟩
  · rw [hset]
    rcases (hset j).1 hj with rfl | hj
    · exact .inr (h3 k hk)
    · exact .inr (h.closed j hj k hk)
  · rw [hset]
    rcases hpre c hc with h4 | h4
    · exact .inr (h.pre c h4)
    · exact .inl h4
  · rcases (hset j).1 hj with rfl | hj
    · exact hiex
    · exact hex j (h.ex j hj)
  · cases dstOf ops i <;> simp [Act.put, h.df]
  · cases dstOf ops i <;> simp [Act.put, h.n]
  · by_cases hji : j = i
    · subst hji
      refine ⟨u, hu, ?_⟩
      rw [hd]
      simp [Act.put, h.n, chk0_n h0 hd]
    · have hjl : li[j]? = some true := ((hset j).1 hj).resolve_left hji
      obtain ⟨v, hv, ht⟩ := h.vals j hjl d hd
      refine ⟨v, hV j v hv, ?_⟩
      cases hdi : dstOf ops i with
      | none => simpa [Act.put] using ht
      | some e =>
        have hne : e ≠ d := fun he => hji (chk0_inj h0 hd (he ▸ hdi))
        simp only [Act.put]
        rw [Array.getElem?_setIfInBounds_ne hne]; exact ht
  · have hb := h.base s v hs fun j hj => hn j ((hset j).2 (.inr hj))
    have hns := hn i ((hset i).2 (.inl rfl))
    cases hdi : dstOf ops i with
    | none => simpa [Act.put] using hb
    | some e =>
      have hne : e ≠ s := fun he => hns (he ▸ hdi)
      simp only [Act.put]
      rw [Array.getElem?_setIfInBounds_ne hne]; exact hb
theorem QAll.get : ∀ {q : List Nat}, QAll C ops Q F0 Vl L q → ∀ i ∈ q, ∃ v, lk Vl i = some v ∧ Qok C ops Q (frmOf ops Vl F0 i) L i v
  | [], _, i, hi => by simp at hi
  | j :: r, h, i, hi => by
    rcases List.mem_cons.1 hi with rfl | hi
    · exact h.1
    · exact h.2.get i hi
theorem wpAny_of_DP (h0 : chk0 ops C.n = true) : ∀ (fuel : Nat) (k : Nat) (p0 : Ph) (pre av : List Nat) (Vl : Vals) (L : List Ent) (li : Array Bool) (a : Act) (w : World), cnt li.toList ≤ fuel →
    p0.pre = pre → p0.av = av → Mid C ops F0 p0 Vl L li a w → DP C ops Q F0 k pre av Vl L → wpAnyIn (Fc C.rd) 0 C.P .any ops Q fuel li a w := by
  intro fuel
  have hdone : ∀ (k : Nat) (p : Ph) (Vl : Vals) (L : List Ent) (li : Array Bool) (a : Act) (w : World), Mid C ops F0 p Vl L li a w → p.chk ops = true → (p.cs = [] → JQ C Q .normal (endF ops Vl F0) L) → Region.ready .any ops li = [] → Q .normal a w := by
    intro k p Vl L li a w hm hc hd hr
    have hall : ∀ m i, i < m → i < ops.size → li[i]? = some true := by
      intro m
      induction m with
      | zero => intro i h; omega
      | succ m ih =>
        intro i him hi
        cases hx : li[i]? with
        | none => have := Array.getElem?_eq_none_iff.1 hx; rw [hm.size] at this; omega
        | some b =>
          cases b with
          | true => rfl
          | false =>
            have := ready_of hi hx fun j hj => ih j (by have := (chk0_lt h0 hj).1; omega) (by have := chk0_lt h0 hj; omega)
            rw [hr] at this; simp at this
    cases hpc : p.cs with
    | cons c cs =>
      exfalso
      simp only [Ph.chk, Bool.and_eq_true, List.all_eq_true, Bool.not_eq_true'] at hc
      have hcc := hc.1.2 c (by rw [hpc]; simp)
      have hcs : c < ops.size := by simpa [Nat.blt_eq] using hcc.2
      rcases hm.ex c (hall _ c (Nat.lt_succ_self c) hcs) with h1 | h1
      · have := hcc.1.1; rw [← Bool.not_eq_true, List.contains_iff_mem] at this; exact this h1
      · have := hcc.1.2; rw [← Bool.not_eq_true, List.contains_iff_mem] at this; exact this h1
    | nil =>
      refine hd hpc a w ⟨hm.df, hm.n, fun s v hs => ?_⟩ hm.heap
      unfold endF at hs
      rw [lk_append] at hs
      cases hp : lk (predF ops Vl (List.range ops.size)) s with
      | some u =>
        rw [hp] at hs
        simp at hs; subst hs
        obtain ⟨j, hj, hd, hv⟩ := lk_pred _ _ _ _ _ hp
        obtain ⟨v', hv', ht⟩ := hm.vals j (hall _ j (Nat.lt_succ_self j) (by simpa using hj)) s hd
        rw [hv] at hv'; cases hv'; exact ht
      | none =>
        rw [hp] at hs
        simp at hs
        obtain ⟨ho, hb⟩ := lk_base _ _ _ _ _ hs
        refine hm.base s v hb fun j hj hd => ?_
        simp only [okb, List.all_eq_true, List.mem_range] at ho
        have hjs := dst_lt hd
        have := ho j hjs
        rw [hd] at this
        simp only [Nat.beq_refl, Bool.not_true, Bool.false_or, Bool.or_eq_true, List.contains_iff_mem] at this
        rcases this with h4 | h4
        · have := Nat.eq_of_beq_eq_true h4; omega
        · have := chk0_lt h0 h4; omega
  have hin : ∀ {p0 p : Ph} {pre av : List Nat} {Vl : Vals} {L : List Ent} {li : Array Bool} {a : Act} {w : World}, p0.pre = pre → p0.av = av → p.pre = pre → (av.all fun i => p.av.contains i) = true → Mid C ops F0 p0 Vl L li a w → Mid C ops F0 p Vl L li a w := by
    intro p0 p pre av Vl L li a w h1 h2 h3 h4 hm
    refine ⟨hm.size, hm.closed, fun c hc => hm.pre c (by rw [h1, ← h3]; exact hc), fun j hj => ?_, hm.df, hm.n, hm.vals, hm.base, hm.heap⟩
    rcases hm.ex j hj with h5 | h5
    · exact .inl (by rw [h3, ← h1]; exact h5)
    · rw [h2] at h5
      simp only [List.all_eq_true, List.contains_iff_mem] at h4
      exact .inr (h4 j h5)
  induction fuel with
  | zero =>
    intro k p0 pre av Vl L li a w hf e1 e2 hm hd
    have hr : Region.ready .any ops li = [] := by
      rw [List.eq_nil_iff_forall_not_mem]
      intro i hi
      obtain ⟨h1, h2, h3⟩ := ready_spec hi
      have := cnt_zero li.toList (by omega) i false (by simpa using h2)
      cases this
    cases k with
    | zero => exact hd.elim
    | succ k =>
      obtain ⟨p, hp, hav, hc, _, he, _⟩ := hd
      exact ⟨hr, hdone k p Vl L li a w (hin e1 e2 hp hav hm) hc he hr⟩
  | succ fuel ih =>
    intro k p0 pre av Vl L li a w hf e1 e2 hm hd
    cases k with
    | zero => exact hd.elim
    | succ k =>
    obtain ⟨p, hp, hav, hc, hq, he, hd⟩ := hd
    replace hm := hin e1 e2 hp hav hm
    refine ⟨hdone k p Vl L li a w hm hc he, fun i hi => ?_⟩
    have hfr := hm.frm hi
    obtain ⟨h1, h2, h3⟩ := ready_spec hi
    have hcnt : cnt (li.setIfInBounds i true).toList ≤ fuel := by
      have := cnt_set li.toList i (by simpa using h2)
      rw [Array.toList_setIfInBounds]; omega
    have hc' := hc
    simp only [Ph.chk, Bool.and_eq_true, List.all_eq_true, List.mem_range] at hc
    by_cases hic : i ∈ p.cs
    · -- one of the chain's next
      obtain ⟨hVn, R, hR, hk⟩ := hd i hic
      refine hR a w hfr hm.heap _ fun v L' w' hv hw' => ?_
      obtain ⟨ex, hD⟩ := hk v L' hv
      have hVn : lk Vl i = none := by simpa using hVn
      have hVi : lk (Vl ++ (i, v) :: ex) i = some v := by rw [lk_append, hVn]; simp [lk, Nat.beq_refl]
      refine ih k ⟨pre ++ [i], p.av, [], [], []⟩ (pre ++ [i]) p.av _ L' _ _ w' hcnt rfl rfl (hm.put h0 hi (fun j u hj => by rw [lk_append, hj]; rfl) hVi (fun c hc => ?_) (fun j hj => ?_) ?_ hw') hD
      · rcases List.mem_append.1 hc with h4 | h4
        · exact .inl (by rw [hp]; exact h4)
        · exact .inr (by simpa using h4)
      · rcases hj with h4 | h4
        · exact .inl (by rw [← hp]; exact List.mem_append.2 (.inl h4))
        · exact .inr h4
      · exact .inl (List.mem_append.2 (.inr (by simp)))
    · have hav : i ∈ p.av := by
        have := hc.1.1.1 i h1
        simp only [Bool.or_eq_true, List.contains_iff_mem, List.any_eq_true, Bool.not_eq_true'] at this
        rcases this with ((h4 | h4) | h4) | h4
        · have := hm.pre i h4; rw [h2] at this; cases this
        · exact h4
        · exact absurd h4 hic
        · obtain ⟨j, hj, hn⟩ := h4
          exfalso
          simp only [Bool.or_eq_false_iff] at hn
          rcases hm.ex j (h3 j hj) with h5 | h5
          · have := hn.1; rw [← Bool.not_eq_true, List.contains_iff_mem] at this; exact this h5
          · have := hn.2; rw [← Bool.not_eq_true, List.contains_iff_mem] at this; exact this h5
      have hqi : i ∈ p.q := by
        have := hc.2 i hav
        simp only [Bool.or_eq_true, List.contains_iff_mem] at this
        rcases this with h4 | h4
        · have := hm.must hc' h0 h4; rw [h2] at this; cases this
        · exact h4
      obtain ⟨v, hv, hQ⟩ := hq.get i hqi
      have hd1 : DP C ops Q F0 (k + 1) pre p.av Vl L := ⟨p, hp, by simp, hc', hq, he, hd⟩
      exact hQ a w hfr hm.heap _ (ih (k + 1) p pre p.av Vl L _ _ w hcnt hp rfl (hm.put h0 hi (fun _ _ h => h) hv (fun c hc => .inl hc) (fun _ h => h) (.inr hav) hm.heap) hd1)
end

theorem JC_draw {id : Nat} {l : List Oper} (n k : Nat) (Vl : Vals) (hm : C.P.follows .mixedOrders = true) (hn : C.n = n) (h0 : chk0 l.toArray n = true) (h : DP C l.toArray Q F k [] [] Vl L) : JC C Q (.region id l.toArray true) F L := by
  subst hn
  intro a w ha hw
  refine wpIn_region_any hm (wpAny_of_DP h0 _ k ⟨[], [], [], [], []⟩ [] [] Vl L _ a _ ?_ rfl rfl ?_ h)
  · have : ∀ m, cnt (List.replicate m false) = m := by
      intro m; induction m with
      | zero => rfl
      | succ m ih => simp only [List.replicate_succ, cnt, ih]; simp; omega
    rw [Array.toList_replicate, this]; exact Nat.le_refl _
  · refine ⟨by simp, fun j hj => ?_, fun c hc => by simp at hc, fun j hj => ?_, ha.1, ha.2.1, fun j hj => ?_, fun s v hs _ => ha.2.2 s v hs, hw.drewN _⟩
    all_goals
      rw [Array.getElem?_replicate] at hj
      split at hj <;> simp at hj
end Go.Sx
