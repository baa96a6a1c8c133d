import Derived.Test.YtncoifiafklkjaaDoorSxI
import Derived.Laws.Cover3
namespace Go.Sx
open Go Go.RowKit
set_option linter.unusedVariables false
set_option linter.unusedSimpArgs false
variable {C : Cx} {F : Frm} {L : List Ent}

theorem Ev_build {T ty : TypeId} {parts : Array (Nat × Operand)} (pv : List (Nat × Value)) (v : Value) (hp : parts.toList.map (fun x => (x.1, ev F x.2)) = pv.map (fun x => (x.1, some x.2)))
    (hr : ∀ w, (Instr.build T pv.toArray).run C.P w = .ok v w) : Ev C F L (.build T parts) ty v := fun a w ha _ d pos aft g => by
  have hpv : (parts.map fun (i, x) => (i, a.eval x)) = pv.toArray := by
    apply Array.toList_inj.1
    rw [Array.toList_map]
    generalize parts.toList = l at hp
    clear hr
    induction l generalizing pv with
    | nil => cases pv <;> simp_all
    | cons o l ih =>
      cases pv with
      | nil => simp at hp
      | cons v pv =>
        simp only [List.map_cons, List.cons.injEq, Prod.mk.injEq] at hp
        obtain ⟨⟨h1, h2⟩, h3⟩ := hp
        simp [ih pv h3, h1, ha.ev h2]
  simp [execOp, hpv, hr w]
theorem Ev_s2ap {T ty e : TypeId} {x : Operand} {b off l c : Nat} (n : Nat) (hu : C.P.underlying T = some (.array n e)) (hx : ev F x = some (Slc b off l c)) (hn : n ≤ l) : Ev C F L (.sliceToArrayPointer T x) ty (Ptr b off) := fun a w ha _ d pos aft g => by
  simp [execOp, ha.ev hx, run_arrayAt (w := w) (arr := T) (e := e) (n := n) (a := some ⟨b, off, none⟩) (len := l) (cap := c) hu hn]
theorem Ev_assert {T A ty : TypeId} {x : Operand} {ok : Bool} (vx v : Value) (hx : ev F x = some vx) (hr : ∀ w, (Instr.typeAssert vx T A ok).run C.P w = .ok v w) : Ev C F L (.typeAssert x T A ok) ty v := fun a w ha _ d pos aft g => by
  simp [execOp, ha.ev hx, hr w]

theorem lay_left {p q vs p' : List Value} {o : Nat} (h : o + vs.length ≤ p.length) (hp : lay p o vs = p') : lay (p ++ q) o vs = p' ++ q := by
  subst hp
  simp only [lay]
  rw [List.take_append_of_le_length (by omega), List.drop_append_of_le_length (by omega)]
  simp
theorem lay_right {p q vs q' : List Value} {o : Nat} (n o' : Nat) (hn : p.length = n) (ho : o = n + o') (hq : lay q o' vs = q') : lay (p ++ q) o vs = p ++ q' := by
  subst hq
  subst hn
  subst ho
  simp only [lay]
  rw [List.take_append, List.take_of_length_le (by omega), Nat.add_assoc, List.drop_append, List.drop_of_length_le (by omega)]
  simp [Nat.add_sub_cancel_left]

/-- bytes that the slice's address leads to, in a block that is no one of M -/
def RdB (w : World) (M : List Nat) (ao : Option Addr) (z : List UInt8) : Prop :=
  z = [] ∨ ∃ b off, ao = some ⟨b, off, none⟩ ∧ b < w.heap.size ∧ b ∉ M ∧ ∀ j v, (cu8 z)[j]? = some v → w.cell? ⟨b, off + j, none⟩ = some v
theorem RdB.nil {w : World} {M : List Nat} {ao : Option Addr} : RdB w M ao [] := .inl rfl
theorem RdB.pos {w : World} {M : List Nat} {ao : Option Addr} {z : List UInt8} (h : RdB w M ao z) (hz : 0 < z.length) :
    ∃ b off, ao = some ⟨b, off, none⟩ ∧ b < w.heap.size ∧ b ∉ M ∧ ∀ j v, (cu8 z)[j]? = some v → w.cell? ⟨b, off + j, none⟩ = some v := by
  rcases h with rfl | h
  · simp at hz
  · exact h
theorem RdB.src {ao : Option Addr} {z : List UInt8} (h : RdB C.w0 C.M ao z) : SrcAt C L ao (cu8 z) := by
  rcases h with rfl | ⟨b, off, rfl, hb, hM, hm⟩
  · exact SrcAt.nil
  · exact SrcAt.mem (MemAt.base hb hM hm)
theorem lt_of_cell {w : World} {b o : Nat} {v : Value} (h : w.cell? ⟨b, o, none⟩ = some v) : b < w.heap.size := by
  by_cases hb : b < w.heap.size
  · exact hb
  · have : w.heap[b]? = none := by simp; omega
    simp [World.cell?, this] at h
/-- what a caller's own memory holds, for a callee -/
theorem RdB.of {w : World} {M : List Nat} {b off : Nat} {z : List UInt8} (hw : Hp C.w0 C.M L w) (h : MemAt C L b off (cu8 z)) (hM : z ≠ [] → b ∉ M) : RdB w M (some ⟨b, off, none⟩) z := by
  by_cases hz : z = []
  · exact .inl hz
  · refine .inr ⟨b, off, rfl, ?_, hM hz, fun j v hj => h w hw j v hj⟩
    obtain ⟨x, r, rfl⟩ := List.exists_cons_of_ne_nil hz
    exact lt_of_cell (h w hw 0 _ (by simp [cu8]; rfl))
theorem RdB.at {w : World} {M M' : List Nat} {ao : Option Addr} {z : List UInt8} (hw : Hp C.w0 C.M L w) (h : RdB C.w0 C.M ao z) (hM : ∀ b, b < C.w0.heap.size → b ∉ C.M → b ∉ M) : RdB w M ao z := by
  rcases h with rfl | ⟨b, off, rfl, hb, hm, hc⟩
  · exact .inl rfl
  · exact RdB.of hw (MemAt.base hb hm hc) (fun _ => hM b hb hm)
theorem RdB.slice {w : World} {M : List Nat} {ao : Option Addr} {z : List UInt8} {c : Nat} (h : RdB w M ao z) (i j : Nat) (hj : j ≤ z.length) (hc : z.length ≤ c) : RdB w M (if c = i then ao else ao.map (·.add (i * 1))) ((z.drop i).take (j - i)) := by
  rcases h with rfl | ⟨b, off, rfl, hb, hm, hcell⟩
  · exact .inl (by simp)
  · by_cases hi : i < j
    · rw [if_neg (by omega)]
      refine .inr ⟨b, off + i, by simp [Addr.add], hb, hm, fun k v hk => ?_⟩
      have := hcell (i + k) v (by
        simp only [cu8, List.getElem?_map, List.getElem?_take, List.getElem?_drop] at hk ⊢
        split at hk
        · exact hk
        · simp at hk)
      rw [Nat.add_assoc]; exact this
    · exact .inl (by simp; omega)
/-- a call that writes one row of our own, and may lay new ones -/
theorem Step_callW {op : Op} {ty : TypeId} (f : FuncId) (args : List Value) (i : Nat) (e : Ent) (R : Value → List Ent → Prop) (S : Value → Ent → List Ent → Prop)
    (hc : Cl C F L op ty f args.toArray) (hi : L[i]? = some e) (hR : ∀ v l, R v l → ∃ e' l', l = e' :: l' ∧ e'.b = e.b ∧ S v e' l') (hct : ∀ w, Hp C.w0 C.M L w → Calls C.P f args.toArray w (Post w [e.b] R)) :
    Step C F L op ty fun v L' => ∃ e' l', S v e' l' ∧ L' = L.set i e' ++ l' := by
  have hil : i < L.length := (List.getElem?_eq_some_iff.1 hi).1
  have hie : L[i] = e := (List.getElem?_eq_some_iff.1 hi).2
  have htake : ∀ (l : List Ent) (i : Nat) (e : Ent), l[i]? = some e → take? ((List.replicate i false) ++ [true]) l = [e] ∧ rest? ((List.replicate i false) ++ [true]) l = l.eraseIdx i := by
    intro l
    induction l with
    | nil => intro i e h; simp at h
    | cons x l ih =>
      intro i e h
      cases i with
      | zero => simp at h; subst h; cases l <;> simp [take?, rest?]
      | succ i =>
        simp at h
        have := ih i e h
        simp [List.replicate_succ, take?, rest?, this.1, this.2]
  obtain ⟨ht, hr⟩ := htake L i e hi
  intro a w ha hw d pos aft g Kk Q hk
  refine Step_call f args.toArray _ [e.b] R hc (by rw [ht]; rfl) hct a w ha hw d pos aft g Kk Q ?_
  rintro v L' w' ⟨L'', hR', rfl⟩ hw'
  obtain ⟨e', l', rfl, hb, hS⟩ := hR v L'' hR'
  refine hk v _ w' ⟨e', l', hS, rfl⟩ (hw'.sub ?_ ?_)
  · intro x hx
    rw [hr]
    rcases List.mem_append.1 hx with h | h
    · obtain ⟨j, hj, rfl⟩ := List.mem_iff_getElem.1 h
      rw [List.getElem_set]
      split
      · simp
      · rename_i hne
        refine List.mem_append_left _ ?_
        rw [List.mem_eraseIdx_iff_getElem]
        exact ⟨j, by simpa using hj, fun h => hne h.symm, rfl⟩
    · simp [h]
  · have hnd := hw'.nd
    rw [hr, List.map_append, List.map_cons] at hnd
    rw [List.map_append]
    have h1 : (L.set i e').map Ent.b = L.map Ent.b := by
      rw [List.map_set, hb, ← hie]
      apply List.ext_getElem (by simp)
      intro j h1 h2
      rw [List.getElem_set]
      split
      · rename_i h; subst h; simp
      · rfl
    rw [h1]
    have hp : (L.map Ent.b).Perm ((L.eraseIdx i).map Ent.b ++ [e.b]) := by
      have h2 : L.Perm (L.eraseIdx i ++ [e]) := by
        have h3 : L = L.take i ++ e :: L.drop (i + 1) := by
          rw [← hie, List.getElem_cons_drop, List.take_append_drop]
        rw [List.eraseIdx_eq_take_drop_succ]
        conv => lhs; rw [h3]
        rw [List.append_assoc]
        exact List.Perm.append_left _ (List.perm_append_comm (l₁ := [e]))
      simpa using h2.map Ent.b
    have hp2 : (L.map Ent.b ++ l'.map Ent.b).Perm ((L.eraseIdx i).map Ent.b ++ e'.b :: l'.map Ent.b) := by
      have := hp.append_right (l'.map Ent.b)
      rw [List.append_assoc] at this
      rw [hb]
      exact this
    exact hp2.nodup_iff.2 hnd
end Go.Sx
