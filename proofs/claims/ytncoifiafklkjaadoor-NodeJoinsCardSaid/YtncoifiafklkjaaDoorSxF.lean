import Derived.Test.YtncoifiafklkjaaDoorSxE
namespace Go.Sx
open Go Go.RowKit
set_option linter.unusedVariables false
set_option linter.unusedSimpArgs false
variable {C : Cx} {F : Frm} {L : List Ent} {Q : Exit → Act → World → Prop} {ops : Array Oper} {F0 : Frm} {Vl : Vals}

theorem DP_end {k : Nat} {pre av : List Nat} (p : Ph) (hp : p.pre = pre) (ha : (av.all fun i => p.av.contains i) = true) (hc : p.chk ops = true) (hcs : p.cs = []) (hq : QAll C ops Q F0 Vl L p.q)
    (h : JQ C Q .normal (endF ops Vl F0) L) : DP C ops Q F0 (k + 1) pre av Vl L :=
  ⟨p, hp, ha, hc, hq, fun _ => h, fun c h => by rw [hcs] at h; simp at h⟩
theorem DP_one {k : Nat} {pre av : List Nat} (p : Ph) (c : Nat) (R : Value → List Ent → Prop) (hp : p.pre = pre) (ha : (av.all fun i => p.av.contains i) = true) (hc : p.chk ops = true) (hcs : p.cs = [c]) (hq : QAll C ops Q F0 Vl L p.q)
    (hV : (lk Vl c).isNone = true) (hR : Cok C ops Q (frmOf ops Vl F0 c) L c R) (h : ∀ v L', R v L' → ∃ ex, DP C ops Q F0 k (pre ++ [c]) p.av (Vl ++ (c, v) :: ex) L') : DP C ops Q F0 (k + 1) pre av Vl L :=
  ⟨p, hp, ha, hc, hq, fun h => by rw [hcs] at h; simp at h, fun c' h' => by
    rw [hcs] at h'
    obtain rfl : c' = c := by simpa using h'
    exact ⟨hV, R, hR, h⟩⟩
theorem DP_two {k : Nat} {pre av : List Nat} (p : Ph) (c d : Nat) (R S : Value → List Ent → Prop) (hp : p.pre = pre) (ha : (av.all fun i => p.av.contains i) = true) (hc : p.chk ops = true) (hcs : p.cs = [c, d]) (hq : QAll C ops Q F0 Vl L p.q)
    (hV : (lk Vl c).isNone = true) (hV' : (lk Vl d).isNone = true) (hR : Cok C ops Q (frmOf ops Vl F0 c) L c R) (hS : Cok C ops Q (frmOf ops Vl F0 d) L d S)
    (h : ∀ v L', R v L' → ∃ ex, DP C ops Q F0 k (pre ++ [c]) p.av (Vl ++ (c, v) :: ex) L') (h' : ∀ v L', S v L' → ∃ ex, DP C ops Q F0 k (pre ++ [d]) p.av (Vl ++ (d, v) :: ex) L') : DP C ops Q F0 (k + 1) pre av Vl L :=
  ⟨p, hp, ha, hc, hq, fun h => by rw [hcs] at h; simp at h, fun c' h0 => by
    rw [hcs] at h0
    rcases List.mem_cons.1 h0 with rfl | h0
    · exact ⟨hV, R, hR, h⟩
    · obtain rfl : c' = d := by simpa using h0
      exact ⟨hV', S, hS, h'⟩⟩

theorem Step_store {T : TypeId} {x y : Operand} {ty : TypeId} (i b off n : Nat) (cs : List Value) (T' : Nat) (v : Value) (vs cs' : List Value)
    (hi : L[i]? = some ⟨b, cs, T', (0, 0)⟩) (hx : ev F x = some (Ptr b off)) (hy : ev F y = some v) (hv : v.cells.toList = vs) (hS : ∀ w, (sizeOf T).run C.P w = .ok n w) (hn : vs.length = n)
    (h1 : ∀ u ∈ vs, u.oneCell' = true) (hle : off + n ≤ cs.length) (hcs : lay cs off vs = cs') :
    Step C F L (.store T x y) ty fun v L' => v = undef ∧ L' = L.set i ⟨b, cs', T', (0, 0)⟩ := Step_run fun a w ha hw d pos aft g => by
  have hE : w.heap[b]? = some (.cells cs.toArray T' (0, 0)) := hw.ent ⟨b, cs, T', (0, 0)⟩ (List.mem_of_getElem? hi)
  refine ⟨undef, _, w.setRow b cs'.toArray, ⟨rfl, rfl⟩, hw.setRow hi cs', .inr ⟨rfl, ?_⟩⟩
  have hst := run_storeCells_at C.P b off T' vs 0 cs.toArray w hE (by simpa [hn] using hle) h1
  have hsz : v.cells.size = n := by rw [← Array.length_toList, hv, hn]
  simp only [Nat.add_zero] at hst
  have hl : List.take off cs ++ vs ++ List.drop (off + vs.length) cs = cs' := hcs
  rw [hl] at hst
  simp [execOp, ha.ev hx, ha.ev hy, Instr.storeAt, Instr.sureAddr, storeVar, hS w, hsz, hv, hst]

theorem Step_alloc {T : TypeId} {ty : TypeId} (z : Value) (vs : List Value) (hz : ∀ w, (zeroValue T).run C.P w = .ok z w) (hv : z.cells.toList = vs) :
    Step C F L (.alloc T) ty fun v L' => ∃ nb, C.w0.heap.size ≤ nb ∧ v = Ptr nb 0 ∧ L' = L ++ [⟨nb, vs, T, (0, 0)⟩] := Step_run fun a w ha hw d pos aft g => by
  have : z.cells = vs.toArray := by rw [← hv]
  exact ⟨Ptr w.heap.size 0, _, w.alloc (.cells vs.toArray T), ⟨w.heap.size, hw.le, rfl, rfl⟩, hw.alloc vs T, .inl (by simp [execOp, Instr.alloc, hz w, newVar, newRow, newObj, Sem.run, this])⟩
theorem Step_box {T : TypeId} {x : Operand} {ty : TypeId} (v : Value) (vs : List Value) (hx : ev F x = some v) (hv : v.cells.toList = vs) :
    Step C F L (.box T x) ty fun v L' => ∃ nb, C.w0.heap.size ≤ nb ∧ v = Ptr nb 0 ∧ L' = L ++ [⟨nb, vs, T, (0, 0)⟩] := Step_run fun a w ha hw d pos aft g => by
  have : v.cells = vs.toArray := by rw [← hv]
  exact ⟨Ptr w.heap.size 0, _, w.alloc (.cells vs.toArray T), ⟨w.heap.size, hw.le, rfl, rfl⟩, hw.alloc vs T, .inl (by simp [execOp, Instr.box, ha.ev hx, newVar, newRow, newObj, Sem.run, this])⟩
theorem Step_callP {op : Op} {ty : TypeId} (f : FuncId) (args : List Value) (res : Value)
    (hc : Cl C F L op ty f args.toArray) (hct : ∀ w, Hp C.w0 C.M L w → Calls C.P f args.toArray w (Post w [] fun v L' => v = res ∧ L' = [])) :
    Step C F L op ty fun v L' => v = res ∧ L' = L := fun a w ha hw d pos aft g Kk Q hk =>
  Step_call f args.toArray [] [] _ hc (by simp [take?]) hct a w ha hw d pos aft g Kk Q (by
    rintro v L' w' ⟨L'', ⟨rfl, rfl⟩, rfl⟩ hw'
    exact hk _ _ w' ⟨rfl, by simp [rest?]⟩ hw')
theorem Step_callN {op : Op} {ty : TypeId} (f : FuncId) (args : List Value) (R : Value → List Ent → Prop)
    (hc : Cl C F L op ty f args.toArray) (hct : ∀ w, Hp C.w0 C.M L w → Calls C.P f args.toArray w (Post w [] R)) :
    Step C F L op ty fun v L' => ∃ L'', R v L'' ∧ L' = L ++ L'' := fun a w ha hw d pos aft g Kk Q hk =>
  Step_call f args.toArray [] [] _ hc (by simp [take?]) hct a w ha hw d pos aft g Kk Q (by
    rintro v L' w' ⟨L'', hR, rfl⟩ hw'
    exact hk _ _ w' ⟨L'', hR, by simp [rest?]⟩ hw')

/-! ### slices: literals, make, append, copy -/
theorem Step_buildSlice {T len : Nat} {parts : Array (Nat × Operand)} {ty : TypeId} (e s : Nat) (z : Value) (pv : List (Nat × Value)) (vs : List Value) (hu : C.P.underlying T = some (.slice e)) (hS : ∀ w, (sizeOf e).run C.P w = .ok s w)
    (hz : ∀ w, (zeroValue e).run C.P w = .ok z w) (hp : parts.toList.map (fun x => (x.1, ev F x.2)) = pv.map (fun x => (x.1, some x.2))) (hlen : Nat.ble (len * s) (2 ^ 24) = true) (h0 : Nat.beq (len * s) 0 = false)
    (hf : Instr.fill (fun i => some (i * s, s)) ((Array.range (len * s)).map (fun j => z.cells[j % z.cells.size]!)) pv = some vs.toArray) :
    Step C F L (.buildSlice T len parts) ty fun v L' => ∃ nb, C.w0.heap.size ≤ nb ∧ v = Slc nb 0 len len ∧ L' = L ++ [⟨nb, vs, e, (0, 0)⟩] := Step_run fun a w ha hw d pos aft g => by
  have hpv : (parts.map fun (i, x) => (i, a.eval x)).toList = pv := by
    rw [Array.toList_map]
    generalize parts.toList = l at hp
    clear hf
    induction l generalizing pv with
    | nil => cases pv <;> simp_all
    | cons o l ih =>
      cases pv with
      | nil => simp at hp
      | cons v pv =>
        simp only [List.map_cons, List.cons.injEq, Prod.mk.injEq] at hp
        obtain ⟨⟨h1, h2⟩, h3⟩ := hp
        simp only [List.map_cons, ih pv h3, h1, ha.ev h2]
  refine ⟨_, _, w.alloc (.cells vs.toArray e), ⟨w.heap.size, hw.le, rfl, rfl⟩, hw.alloc vs e, .inl ?_⟩
  have hne : ¬ len * s = 0 := Nat.ne_of_beq_eq_false h0
  have hle : ¬ len * s > 2 ^ 24 := by have := Nat.le_of_ble_eq_true hlen; omega
  simp only [execOp, Instr.buildSlice, hpv, Sem.run_bind, run_underlying hu, hS w, hz w, if_neg hne, if_neg hle, hf, Result.andThen, newRow, newObj, Sem.run, Sem.run_pure, pure]
  rfl
theorem Step_buildSlice0 {T : Nat} {ty : TypeId} (e s : Nat) (hu : C.P.underlying T = some (.slice e)) (hS : ∀ w, (sizeOf e).run C.P w = .ok s w) :
    Step C F L (.buildSlice T 0 #[]) ty fun v L' => ∃ nb, C.w0.heap.size ≤ nb ∧ v = Slc nb 0 0 0 ∧ L' = L ++ [⟨nb, [], e, (0, 0)⟩] := Step_run fun a w ha hw d pos aft g => by
  refine ⟨_, _, w.alloc (.cells #[] e), ⟨w.heap.size, hw.le, rfl, rfl⟩, hw.alloc [] e, .inl ?_⟩
  simp [execOp, Instr.buildSlice, run_underlying hu, hS w, Instr.fill, newRow, newObj, Sem.run]
  rw [show Array.range 0 = #[] from by simp [Array.range]]
  simp

/-- The world behind an append to a row of our own. -/
theorem Hp.grown {w0 w w' : World} {M : List Nat} {L : List Ent} (h : Hp w0 M L w) (g' : Option Nat) (hg : w.grownBy w' g') {m : List Bool} (hm : ∀ b, g' = some b → ∃ e ∈ take? m L, e.b = b) {g : Nat} {cs : List Value} {T : Nat}
    (hn : w'.heap[g]? = some (.cells cs.toArray T (0, 0))) (hgn : w.heap.size ≤ g ∨ ∃ e ∈ take? m L, e.b = g) : Hp w0 M (rest? m L ++ [⟨g, cs, T, (0, 0)⟩]) w' := by
  have hp := perm_mask m L
  have hlt : ∀ x ∈ L, x.b < w.heap.size := fun x hx => (Array.getElem?_eq_some_iff.1 (h.ent x hx)).1
  have hnd : ((take? m L ++ rest? m L).map Ent.b).Nodup := (hp.map Ent.b).nodup_iff.1 h.nd
  rw [List.map_append, List.nodup_append] at hnd
  obtain ⟨hn0, hnr, hdis⟩ := hnd
  have hr : ∀ x ∈ rest? m L, x ∈ L := fun x hx => hp.mem_iff.2 (List.mem_append.2 (.inr hx))
  have h0 : ∀ x ∈ take? m L, x ∈ L := fun x hx => hp.mem_iff.2 (List.mem_append.2 (.inl hx))
  have hrg : ∀ x ∈ rest? m L, ∀ y ∈ take? m L, x.b ≠ y.b := fun x hx y hy he => hdis _ (List.mem_map_of_mem hy) _ (List.mem_map_of_mem hx) he.symm
  refine ⟨hg.os.trans h.os, hg.tape.trans h.tape, hg.output.trans h.output, Nat.le_trans h.le hg.size, fun k hk hM => ?_, fun x hx => ?_, ?_, fun x hx => ?_⟩
  · rw [hg.block k (by have := h.le; omega) (fun he => ?_)]; exact h.old k hk hM
    obtain ⟨e, hee, heb⟩ := hm k he.symm
    rcases h.own e (h0 e hee) with h1 | h1
    · exact hM (heb ▸ h1)
    · omega
  · rcases List.mem_append.1 hx with h1 | h1
    · rw [hg.block x.b (hlt x (hr x h1)) (fun he => ?_)]; exact h.ent x (hr x h1)
      obtain ⟨e, hee, heb⟩ := hm x.b he.symm
      exact hrg x h1 e hee heb.symm
    · simp at h1; subst h1; exact hn
  · rw [List.map_append, List.nodup_append]
    refine ⟨hnr, by simp, fun a ha c hc => ?_⟩
    simp at hc; subst hc
    obtain ⟨x, hx, rfl⟩ := List.mem_map.1 ha
    rcases hgn with h1 | ⟨e, hee, heb⟩
    · have := hlt x (hr x hx); omega
    · rw [← heb]; exact hrg x hx e hee
  · rcases List.mem_append.1 hx with h1 | h1
    · exact h.own x (hr x h1)
    · simp at h1; subst h1
      rcases hgn with h1 | ⟨e, hee, heb⟩
      · exact .inr (Nat.le_trans h.le h1)
      · have := h.own e (h0 e hee); rw [heb] at this; exact this

theorem info_of {P : Program} {e : Nat} {z : Value} {s by' : Nat} (h : (P.info? e).map (fun i => (i.zero, i.size, i.bytes)) = some (some z, s, by')) : ∃ i, P.info? e = some i ∧ i.zero = some z ∧ i.size = s ∧ i.bytes = by' := by
  cases hi : P.info? e with
  | none => rw [hi] at h; simp at h
  | some i => rw [hi] at h; simp at h; exact ⟨i, rfl, h.1, h.2.1, h.2.2⟩

/-- A slice's k elements can be read: whatever its address where there is none. -/
def SrcAt (C : Cx) (L : List Ent) (ao : Option Addr) (vs : List Value) : Prop :=
  (ao = none → vs = []) ∧ ∀ a', ao = some a' → ∀ w, Hp C.w0 C.M L w → ∀ j u, vs[j]? = some u → w.cell? (a'.add j) = some u
theorem SrcAt.mem {b off : Nat} {vs : List Value} (h : MemAt C L b off vs) : SrcAt C L (some ⟨b, off, none⟩) vs :=
  ⟨fun h => by simp at h, fun a' ha w hw j u hj => by simp at ha; subst ha; rw [addr_add]; exact h w hw j u hj⟩
theorem SrcAt.nil {ao : Option Addr} : SrcAt C L ao [] := ⟨fun _ => rfl, fun _ _ _ _ j u hj => by simp at hj⟩

/-- append to a row of our own (or to a new one, where nothing was). m masks the row's entry. -/
theorem Step_append {x y : Operand} {ty : TypeId} (t e s bytes : Nat) (z : Value) (m : List Bool) (v : Value) (n : Nat) (xs news : List Value) (ao : Option Addr) (k c : Nat)
    (hu : C.P.underlying t = some (.slice e)) (hi : (C.P.info? e).map (fun i => (i.zero, i.size, i.bytes)) = some (some z, s, bytes)) (hzs : z.cells.size = s) (hs0 : 0 < s)
    (hx : ev F x = some v)
    (hv : (v = .slice none 0 0 ∧ n = 0 ∧ xs = [] ∧ take? m L = [] ∧ 0 < k) ∨ (∃ g sp cap, v = Slc g 0 n cap ∧ take? m L = [⟨g, xs ++ sp, e, (0, 0)⟩] ∧ xs.length = n * s ∧ (xs ++ sp).length = cap * s ∧ n ≤ cap ∧ cap ≤ maxLen))
    (hy : ev F y = some (.slice ao k c)) (hk : news.length = k * s) (hm : SrcAt C L ao news) (h1 : ∀ u ∈ news, u.oneCell' = true) (hmax : (n + k) * bytes ≤ 140737488355328) (hmax' : n + k ≤ maxLen) :
    Step C F L (.call { callee := .builtin .append, args := #[x, y], argTypes := #[t, t] }) ty fun v' L' => ∃ g sp cap, (C.w0.heap.size ≤ g ∨ g ∈ C.M) ∧ v' = Slc g 0 (n + k) cap ∧ L' = rest? m L ++ [⟨g, xs ++ news ++ sp, e, (0, 0)⟩] ∧ (xs ++ news).length = (n + k) * s ∧ (xs ++ news ++ sp).length = cap * s ∧ n + k ≤ cap ∧ cap ≤ maxLen :=
  Step_run fun a w ha hw d pos aft g => by
  obtain ⟨i, hi1, hi2, hi3, hi4⟩ := info_of hi
  have hp := perm_mask m L
  have h0 : ∀ x ∈ take? m L, x ∈ L := fun x hx => hp.mem_iff.2 (List.mem_append.2 (.inl hx))
  have he := ha.ev hx
  have he' := ha.ev hy
  -- what every way leaves
  have key : ∀ (v' : Value) (w' : World) (base : Nat) (row : Option Nat), (v' = .slice none 0 0 → False) → (Builtin.append_ #[t, t] ty #[v, .slice ao k c]).run C.P w = .ok v' w' → w'.ownsRow base e s v' (n + k) (xs ++ news) → w.grownBy w' row →
      (∀ b, row = some b → ∃ e ∈ take? m L, e.b = b) → (∀ g cap, v' = Slc g 0 (n + k) cap → w.heap.size ≤ g ∨ ∃ e ∈ take? m L, e.b = g) →
      ∃ v'' L' w'', (∃ g sp cap, (C.w0.heap.size ≤ g ∨ g ∈ C.M) ∧ v'' = Slc g 0 (n + k) cap ∧ L' = rest? m L ++ [⟨g, xs ++ news ++ sp, e, (0, 0)⟩] ∧ (xs ++ news).length = (n + k) * s ∧ (xs ++ news ++ sp).length = cap * s ∧ n + k ≤ cap ∧ cap ≤ maxLen) ∧ Hp C.w0 C.M L' w'' ∧
      ((execOp a.eval ⟨d, .call { callee := .builtin .append, args := #[x, y], argTypes := #[t, t] }, ty, pos, aft, g⟩).run C.P w = .ok (.value v'') w'' ∨ v'' = undef ∧ (execOp a.eval ⟨d, .call { callee := .builtin .append, args := #[x, y], argTypes := #[t, t] }, ty, pos, aft, g⟩).run C.P w = .ok .skip w'') := by
    intro v' w' base row hnn hr hown' hgr hrow hgn
    obtain ⟨hlen, hcase⟩ := hown'
    rcases hcase with ⟨h5, _⟩ | ⟨g', cap', cur, rfl, _, hh, hcap, hmaxl, hsz, htk⟩
    · exact (hnn h5).elim
    · have hcur : cur = (xs ++ news ++ cur.toList.drop ((n + k) * s)).toArray := by
        apply Array.toList_inj.1
        rw [← htk]; simp
      have hgn' := hgn g' cap' rfl
      refine ⟨_, _, w', ⟨g', cur.toList.drop ((n + k) * s), cap', ?_, rfl, rfl, hlen, ?_, hcap, hmaxl⟩, hw.grown row hgr hrow (by rw [← hcur]; exact hh) hgn', .inl ?_⟩
      · rcases hgn' with h5 | ⟨e', he1, rfl⟩
        · exact .inl (Nat.le_trans hw.le h5)
        · rcases hw.own e' (h0 e' he1) with h6 | h6
          · exact .inr h6
          · exact .inl h6
      · have := congrArg Array.size hcur
        rw [hsz] at this
        simpa using this.symm
      · simp [execOp, resolve, invoke, he, he', builtin, hr]
  cases ao with
  | none =>
    -- nothing is appended
    obtain rfl := hm.1 rfl
    have hk0 : k = 0 := by
      cases k with
      | zero => rfl
      | succ k => simp only [List.length_nil, Nat.succ_mul] at hk; omega
    subst hk0
    rcases hv with ⟨rfl, rfl, rfl, htk, hkp⟩ | ⟨g1, sp, cap, rfl, ht, hl, hl2, hc, hcm⟩
    · omega
    · have hE := hw.ent ⟨g1, xs ++ sp, e, (0, 0)⟩ (h0 _ (by rw [ht]; simp))
      have hr : (Builtin.append_ #[t, t] ty #[Slc g1 0 n cap, .slice none 0 c]).run C.P w = .ok (Slc g1 0 n cap) w := by
        simp [Builtin.append_, run_underlying hu, sizeOf, typeInfo, hi1, Builtin.lenOf, hc, Builtin.firstCells, storeCells]
      refine key _ w 0 none (fun h => by simp at h) hr ⟨by simpa using hl, .inr ⟨g1, cap, (xs ++ sp).toArray, rfl, Nat.zero_le _, hE, hc, hcm, by simpa using hl2, by rw [Nat.add_zero, ← hl]; simp⟩⟩ ⟨rfl, rfl, rfl, Nat.le_refl _, fun _ _ _ => rfl⟩ (fun b hb => by simp at hb) fun g cap' hvv => .inr ⟨⟨g1, xs ++ sp, e, (0, 0)⟩, by rw [ht]; simp, ?_⟩
      simp at hvv; exact hvv.1
  | some ad =>
  have hsrc : ∀ j u, news[j]? = some u → w.cell? (ad.add j) = some u := fun j u hj => hm.2 ad rfl w hw j u hj
  rcases hv with ⟨rfl, rfl, rfl, htk, hkp⟩ | ⟨g1, sp, cap, rfl, ht, hl, hl2, hc, hcm⟩
  · obtain ⟨v', w', hr, hown', hgr, hnil⟩ := run_append_own (P := C.P) w w.heap.size t ty e i z s bytes hu hi1 hi2 hi3 hi4 hzs hs0 _ 0 [] (World.ownsRow_nil _ _ _ _) ad k c news hk hsrc h1 hmax' hmax (Nat.le_refl _)
    have hnn : v' = .slice none 0 0 → False := fun h => by have := (hnil.1 h).2; omega
    refine key v' w' _ _ hnn hr hown' hgr (fun b hb => by simp [Value.ownBlock] at hb) fun g cap hvv => ?_
    rcases hown'.2 with ⟨h5, _⟩ | ⟨g', cap', cur, h5, h6, _⟩
    · exact (hnn h5).elim
    · rw [hvv] at h5; simp at h5; exact .inl (by omega)
  · have hE := hw.ent ⟨g1, xs ++ sp, e, (0, 0)⟩ (h0 _ (by rw [ht]; simp))
    have hown : w.ownsRow 0 e s (Slc g1 0 n cap) n xs := ⟨hl, .inr ⟨g1, cap, (xs ++ sp).toArray, rfl, Nat.zero_le _, hE, hc, hcm, by simpa using hl2, by rw [← hl]; simp⟩⟩
    by_cases hroom : n + k ≤ cap
    · obtain ⟨w', hr, hown', hgr⟩ := run_append_fits (P := C.P) w 0 t ty e i s hu hi1 hi3 g1 n cap xs hown ad k c news hk hsrc h1 hroom
      refine key _ w' _ _ (fun h => by simp at h) hr hown' hgr (fun b hb => ⟨⟨g1, xs ++ sp, e, (0, 0)⟩, by rw [ht]; simp, by simpa using hb⟩) fun g cap' hvv => .inr ⟨⟨g1, xs ++ sp, e, (0, 0)⟩, by rw [ht]; simp, ?_⟩
      simp at hvv; exact hvv.1
    · obtain ⟨v', w', hr, hown', hgr⟩ := run_append_arg_grows (P := C.P) w t ty e i z s bytes hu hi1 hi2 hi3 hi4 hzs hs0 ⟨g1, 0, none⟩ n cap xs hl (fun j u hj => by
        rw [addr_add]
        simp only [World.cell?, hE]
        have hlt := (List.getElem?_eq_some_iff.1 hj).1
        simp [List.getElem?_append_left hlt, hj]) ad k c news hk hsrc (by omega) hmax' hmax
      have hnn : v' = .slice none 0 0 → False := fun h => by
        rcases hown'.2 with ⟨_, h5⟩ | ⟨g', cap'', cur, h5, _⟩
        · omega
        · rw [h] at h5; simp at h5
      refine key v' w' _ _ hnn hr hown' hgr (fun b hb => by simp at hb) fun g cap' hvv => ?_
      rcases hown'.2 with ⟨h5, _⟩ | ⟨g', cap'', cur, h5, h6, _⟩
      · exact (hnn h5).elim
      · rw [hvv] at h5; simp at h5; exact .inl (by omega)

/-- copy into a row of our own, elements of one cell -/
theorem Step_copy {x y : Operand} {ty : TypeId} (t t' e : Nat) (i g o dl dc : Nat) (cs : List Value) (T : Nat) (ao : Option Addr) (k c n : Nat) (news cs' : List Value)
    (hu : C.P.underlying t = some (.slice e)) (hs : (C.P.info? e).map (·.size) = some 1) (hi : L[i]? = some ⟨g, cs, T, (0, 0)⟩)
    (hx : ev F x = some (Slc g o dl dc)) (hy : ev F y = some (.slice ao k c)) (hn : Nat.min k dl = n) (hl : news.length = n) (hm : SrcAt C L ao news) (hfit : o + n ≤ cs.length) (h1 : ∀ u ∈ news, u.oneCell' = true) (hcs : lay cs o news = cs') :
    Step C F L (.call { callee := .builtin .copy, args := #[x, y], argTypes := #[t, t'] }) ty fun v' L' => v' = I64 n ∧ L' = L.set i ⟨g, cs', T, (0, 0)⟩ := Step_run fun a w ha hw d pos aft gg => by
  have hE : w.heap[g]? = some (.cells cs.toArray T (0, 0)) := hw.ent ⟨g, cs, T, (0, 0)⟩ (List.mem_of_getElem? hi)
  have he := ha.ev hx
  have he' := ha.ev hy
  refine ⟨I64 n, _, w.setRow g cs'.toArray, ⟨rfl, rfl⟩, hw.setRow hi cs', .inl ?_⟩
  have hr : (Builtin.copy_ #[t, t'] ty #[Slc g o dl dc, .slice ao k c]).run C.P w = .ok (I64 n) (w.setRow g cs'.toArray) := by
    cases ao with
    | some ad =>
      have := run_copy_row (P := C.P) w t t' ty e g o dl dc ad k c cs.toArray T news hu hs hE (by rw [hl, hn]) (fun j u hj => hm.2 ad rfl w hw j u hj) (by simpa [hl] using hfit) h1
      rw [this, hl]
      have hcs2 : List.take o cs ++ news ++ List.drop (o + n) cs = cs' := by rw [← hcs, lay, hl]
      simp only [hcs2, goInt]
    | none =>
      obtain rfl := hm.1 rfl
      have hn0 : n = 0 := by simpa using hl.symm
      subst hn0
      have hcs2 : cs' = cs := by rw [← hcs]; simp [lay]
      have hset : w.setRow g cs.toArray = w := by
        have hh : (w.setRow g cs.toArray).heap = w.heap := by
          apply Array.ext_getElem?
          intro j
          by_cases hj : j = g
          · subst hj; rw [setRow_heap _ _ _ _ _ _ hE, hE]
          · exact setRow_other w g j _ hj
        have h2 : w.setRow g cs.toArray = { w with heap := (w.setRow g cs.toArray).heap } := rfl
        rw [h2, hh]
      rw [hcs2, hset]
      cases hq : C.P.info? e with
      | none => simp [hq] at hs
      | some inf => simp [Builtin.copy_, run_underlying hu, Builtin.lenOf, Builtin.firstCells, sizeOf, typeInfo, hq, storeCells, hn, goInt]
  simp [execOp, resolve, invoke, he, he', builtin, hr]

theorem made_one (z : Value) (h : z.cells = #[z]) (n : Nat) : madeCells z.cells (n * 1) = (List.replicate n z).toArray := by
  rw [h]
  apply Array.ext
  · simp [madeCells]
  · intro j h1 h2
    simp [madeCells, Nat.mod_one]
theorem Step_make {x y : Operand} {ty T : TypeId} (e bytes : Nat) (z : Value) (ln cp : Nat) (hu : C.P.underlying T = some (.slice e)) (hi : (C.P.info? e).map (fun i => (i.zero, i.size, i.bytes)) = some (some z, 1, bytes)) (hz : z.cells = #[z])
    (hx : ev F x = some (I64 ln)) (hy : ev F y = some (I64 cp)) (h1 : ln ≤ cp) (h2 : bytes * cp ≤ 140737488355328) (h3 : cp ≤ maxLen) :
    Step C F L (.makeSlice T x y) ty fun v' L' => ∃ nb, C.w0.heap.size ≤ nb ∧ v' = Slc nb 0 ln cp ∧ L' = L ++ [⟨nb, List.replicate cp z, e, (0, 0)⟩] := Step_run fun a w ha hw d pos aft gg => by
  obtain ⟨i, hi1, hi2, hi3, hi4⟩ := info_of hi
  have hr := run_make (P := C.P) w T e i z hu hi1 hi2 .i64 .i64 ln cp (by omega) (by omega) (by rw [hi4]; have h5 : ((bytes * cp : Nat) : Int) ≤ 281474976710656 := (by omega); rw [Int.natCast_mul] at h5; exact h5) (by unfold maxLen at h3; omega)
  rw [Int.toNat_natCast, Int.toNat_natCast, hi3, made_one z hz] at hr
  exact ⟨_, _, w.alloc (.cells (List.replicate cp z).toArray e), ⟨w.heap.size, hw.le, rfl, rfl⟩, hw.alloc _ e, .inl (by simp [execOp, ha.ev hx, ha.ev hy, hr])⟩

theorem Ev_toStr {src dst : TypeId} {x : Operand} {ty : TypeId} (e : Nat) (ao : Option Addr) (n c : Nat) (bs : List UInt8) (hs : C.P.underlying src = some (.slice e)) (he : C.P.underlying e = some (.int .u8)) (hd : C.P.underlying dst = some .string)
    (hx : ev F x = some (.slice ao n c)) (hn : bs.length = n) (hm : SrcAt C L ao (cu8 bs)) : Ev C F L (.convert src dst x) ty (.string ⟨bs.toArray⟩) := fun a w ha hw d pos aft g => by
  have hr : (convert src dst (.slice ao n c)).run C.P w = .ok (.string ⟨bs.toArray⟩) w := by
    cases ao with
    | none =>
      have hb : bs = [] := by simpa [cu8] using hm.1 rfl
      subst hb
      simp [convert, run_underlying hs, run_underlying hd, run_underlying he, Conv.bytesToString]
      rfl
    | some ad =>
      have hl : (loadCells ad n).run C.P w = .ok ((bs.map fun b => (b.toNat : Int)).map (Value.int .u8)).toArray w := by
        have := run_loadCells_list (P := C.P) w ad (cu8 bs) (fun j u hj => hm.2 ad rfl w hw j u hj)
        rw [cu8_length, hn] at this
        rw [this]; simp [cu8, Function.comp_def]
      rw [run_convert_bytes_string w src dst e _ n c hs he hd, run_bytesToString w _ n c _ hl, foldl_push_bytes]
      simp [ByteArray.empty, ByteArray.emptyWithCapacity, Function.comp_def]
      rfl
  simp [execOp, ha.ev hx, hr]
end Go.Sx
