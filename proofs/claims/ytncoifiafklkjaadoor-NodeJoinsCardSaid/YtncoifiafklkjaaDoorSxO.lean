import Derived.Test.YtncoifiafklkjaaDoorSxR
import Derived.MakeChecks
namespace Go.Sx
open Go Go.RowKit
open Go.ChangeShapes Go.WideShapes
set_option linter.unusedVariables false
set_option linter.unusedSimpArgs false
section
variable {H : Type} {enc : TypeId × Value → H} {P : Program} {w : World} {base : Nat} {spare : Nat → Bool} {held : Bool} {sz : Bool}
/-- cells that read as a type's data (where sz: of sizes in reach) -/
def TD (enc : TypeId × Value → H) (P : Program) (w : World) (base : Nat) (spare : Nat → Bool) (held sz : Bool) (t : TypeId) (cs : List Value) : Prop :=
  ∃ fuel d ps, DataW.trod enc P w base spare held fuel t cs = some (d, ps) ∧ (sz = true → (d.weights P t).all (· ≤ reachBytes) = true)
theorem TD.of {t : TypeId} {v : Value} {d : DataW H} {ps : List MemPlace} (h : DataW.Trod enc P w base spare held t v d ps) (hw : sz = true → (d.weights P t).all (· ≤ reachBytes) = true) : TD enc P w base spare held sz t v.cells.toList := by
  obtain ⟨fuel, hf⟩ := h
  exact ⟨fuel, d, ps, hf, hw⟩
theorem TD.ofN {t : TypeId} {v : Value} {d : DataW H} {ps : List MemPlace} (h : DataW.Trod enc P w base spare held t v d ps) : TD enc P w base spare held false t v.cells.toList := TD.of h (fun h => by cases h)
theorem wEach_get {p : Nat → Bool} : ∀ (ts : List TypeId) (ds : List (DataW H)), (DataW.weightsEach P ts ds).all p = true → ∀ (i : Nat) (t : TypeId) (d : DataW H), ts[i]? = some t → ds[i]? = some d → (d.weights P t).all p = true
  | [], _, _, i, t, d, h, _ => by simp at h
  | t0 :: ts, [], _, i, t, d, _, h => by simp at h
  | t0 :: ts, d0 :: ds, h, i, t, d, ht, hd => by
    rw [DataW.weightsEach, List.all_append, Bool.and_eq_true] at h
    cases i with
    | zero => simp at ht hd; subst ht; subst hd; exact h.1
    | succ i => exact wEach_get ts ds h.2 i t d (by simpa using ht) (by simpa using hd)
theorem wAll_get {p : Nat → Bool} {e : TypeId} : ∀ (ds : List (DataW H)), (DataW.weightsAll P e ds).all p = true → ∀ (i : Nat) (d : DataW H), ds[i]? = some d → (d.weights P e).all p = true
  | [], _, i, d, h => by simp at h
  | d0 :: ds, h, i, d, hd => by
    rw [DataW.weightsAll, List.all_append, Bool.and_eq_true] at h
    cases i with
    | zero => simp at hd; subst hd; exact h.1
    | succ i => exact wAll_get ds h.2 i d (by simpa using hd)
variable {t : TypeId} {cs : List Value}
theorem TD.slen {fs : Array Field} (ht : P.underlying t = some (.struct fs)) (h : TD enc P w base spare held sz t cs) : cs.length = P.cellsOf t := by
  obtain ⟨fuel, d, ps, h, hw⟩ := h
  obtain ⟨xs, n, _, hx, hl, hlen, hf⟩ := DataW.trod_struct ht h
  exact hl
theorem TD.alen {n e : Nat} (ht : P.underlying t = some (.array n e)) (h : TD enc P w base spare held sz t cs) : cs.length = P.cellsOf t := by
  obtain ⟨fuel, d, ps, h, hw⟩ := h
  obtain ⟨xs, m, _, hx, hl, hlen, hf⟩ := DataW.trod_array ht h
  exact hl
/-- a field's cells -/
theorem TD.field {fs : Array Field} (i o ft s : Nat) (ht : P.underlying t = some (.struct fs)) (hi : (fs[i]?).map (fun f => (f.offset, f.type)) = some (o, ft)) (hs : P.cellsOf ft = s) (h : TD enc P w base spare held sz t cs) :
    TD enc P w base spare held sz ft ((cs.drop o).take s) := by
  obtain ⟨fuel, d, ps, h, hw⟩ := h
  obtain ⟨xs, n, _, hx, hl, hlen, hf⟩ := DataW.trod_struct ht h
  obtain ⟨f, hfi, hfo⟩ := Option.map_eq_some_iff.1 hi
  simp only [Prod.mk.injEq] at hfo
  obtain ⟨rfl, rfl⟩ := hfo
  subst hs
  have hlt : i < xs.length := by rw [hlen]; exact (Array.getElem?_eq_some_iff.1 hfi).1
  have hk := hf i f hfi
  rw [List.getElem?_eq_getElem hlt] at hk
  refine ⟨n, _, _, hk, fun hz => ?_⟩
  have hw := hw hz
  simp only [Prod.mk.injEq] at hx
  rw [hx.1, DataW.weights, ht] at hw
  exact wEach_get _ _ hw i f.type _ (by simp [hfi]) (by simp [hlt])
/-- an element's cells -/
theorem TD.elem {n e : Nat} (i o s : Nat) (ht : P.underlying t = some (.array n e)) (hi : i < n) (hs : P.cellsOf e = s) (ho : o = i * s) (h : TD enc P w base spare held sz t cs) :
    TD enc P w base spare held sz e ((cs.drop o).take s) := by
  obtain ⟨fuel, d, ps, h, hw⟩ := h
  obtain ⟨xs, m, _, hx, hl, hlen, hf⟩ := DataW.trod_array ht h
  subst ho; subst hs
  have hlt : i < xs.length := by rw [hlen]; exact hi
  have hk := hf i hi
  rw [List.getElem?_eq_getElem hlt] at hk
  refine ⟨m, _, _, hk, fun hz => ?_⟩
  have hw := hw hz
  simp only [Prod.mk.injEq] at hx
  rw [hx.1, DataW.weights, ht] at hw
  exact wAll_get _ hw i _ (by simp [hlt])
theorem TD.u8 (ht : P.underlying t = some (.int .u8)) (h : TD enc P w base spare held sz t cs) : ∃ a : UInt8, cs = [U8 a] := by
  obtain ⟨fuel, d, ps, h, hw⟩ := h
  obtain ⟨n, rfl, _, hn⟩ := DataW.trod_int ht h
  obtain ⟨u, rfl⟩ := wf_u8 hn
  exact ⟨u, rfl⟩
theorem TD.u32 (ht : P.underlying t = some (.int .u32)) (h : TD enc P w base spare held sz t cs) : ∃ a : UInt32, cs = [U32 a] := by
  obtain ⟨fuel, d, ps, h, hw⟩ := h
  obtain ⟨n, rfl, _, hn⟩ := DataW.trod_int ht h
  obtain ⟨u, rfl⟩ := wf_u32 hn
  exact ⟨u, rfl⟩
theorem TD.u64 (ht : P.underlying t = some (.int .u64)) (h : TD enc P w base spare held sz t cs) : ∃ a : UInt64, cs = [U64 a] := by
  obtain ⟨fuel, d, ps, h, hw⟩ := h
  obtain ⟨n, rfl, _, hn⟩ := DataW.trod_int ht h
  obtain ⟨u, rfl⟩ := wf_u64 hn
  exact ⟨u, rfl⟩
theorem TD.i64 (ht : P.underlying t = some (.int .i64)) (h : TD enc P w base spare held sz t cs) : ∃ a : Int, cs = [I64 a] ∧ (-9223372036854775808 ≤ a ∧ a ≤ 9223372036854775807) := by
  obtain ⟨fuel, d, ps, h, hw⟩ := h
  obtain ⟨n, rfl, _, hn⟩ := DataW.trod_int ht h
  exact ⟨n, rfl, bounds_i64 hn⟩
theorem TD.bool (ht : P.underlying t = some .bool) (h : TD enc P w base spare held sz t cs) : ∃ a : Bool, cs = [.bool a] := by
  obtain ⟨fuel, d, ps, h, hw⟩ := h
  obtain ⟨b, rfl, _⟩ := DataW.trod_bool ht h
  exact ⟨b, rfl⟩
theorem TD.str (ht : P.underlying t = some .string) (h : TD enc P w base spare held sz t cs) : ∃ l : List UInt8, cs = [.string ⟨l.toArray⟩] ∧ l.length ≤ maxLen := by
  obtain ⟨fuel, d, ps, h, hw⟩ := h
  obtain ⟨s, rfl, _, hs⟩ := DataW.trod_string ht h
  refine ⟨s.data.toList, by cases s; simp, ?_⟩
  have : s.data.toList.length = s.size := rfl
  omega
theorem TD.arr8 {n e : Nat} (ht : P.underlying t = some (.array n e)) (he : P.underlying e = some (.int .u8)) (hc : P.cellsOf e = 1) (hT : P.cellsOf t = n) (h : TD enc P w base spare held sz t cs) : ∃ l : List UInt8, cs = cu8 l ∧ l.length = n := by
  have hl := TD.alen ht h
  obtain ⟨l, rfl⟩ := all_u8 cs (fun i hi => by
    obtain ⟨u, hu⟩ := TD.u8 he (TD.elem i i 1 ht (by omega) hc (by omega) h)
    refine ⟨u, ?_⟩
    have h0 : ((cs.drop i).take 1)[0]? = some (U8 u) := by rw [hu]; rfl
    rw [List.getElem?_take, if_pos (by omega), List.getElem?_drop] at h0
    simpa using h0)
  exact ⟨l, rfl, by rw [← hT, ← hl]; simp⟩
theorem TD.arr64 {n e : Nat} (ht : P.underlying t = some (.array n e)) (he : P.underlying e = some (.int .u64)) (hc : P.cellsOf e = 1) (hT : P.cellsOf t = n) (h : TD enc P w base spare held sz t cs) : ∃ l : List UInt64, cs = cu64 l ∧ l.length = n := by
  have hl := TD.alen ht h
  obtain ⟨l, rfl⟩ := all_u64 cs (fun i hi => by
    obtain ⟨u, hu⟩ := TD.u64 he (TD.elem i i 1 ht (by omega) hc (by omega) h)
    refine ⟨u, ?_⟩
    have h0 : ((cs.drop i).take 1)[0]? = some (U64 u) := by rw [hu]; rfl
    rw [List.getElem?_take, if_pos (by omega), List.getElem?_drop] at h0
    simpa using h0)
  exact ⟨l, rfl, by rw [← hT, ← hl]; simp⟩
theorem TD.sl8 {e : Nat} (ht : P.underlying t = some (.slice e)) (he : P.underlying e = some (.int .u8)) (hc : P.cellsOf e = 1) (hb : P.bytesOf e = 1) (h : TD enc P w base spare held sz t cs) :
    ∃ (ao : Option Addr) (n c : Nat) (z : List UInt8), cs = [.slice ao n c] ∧ z.length = n ∧ (ao = none → c = 0) ∧ (n ≤ c ∧ c ≤ maxLen) ∧ RdB w [] ao z ∧ (sz = true → n ≤ 140737488351232) := by
  obtain ⟨fuel, d, ps, h, hw⟩ := h
  rcases DataW.trod_slice ht h with ⟨rfl, _⟩ | ⟨a, len, cap, elems, rest, k, _, rfl, hx, _, hl, hm, hlen, hel, _⟩
  · exact ⟨none, 0, 0, [], rfl, rfl, fun _ => rfl, ⟨Nat.le_refl _, by unfold maxLen; omega⟩, RdB.nil, fun _ => by omega⟩
  · obtain ⟨z, h1, h2, h3, h4⟩ := open_rd_u8 (enc := enc) (w := w) (base := base) (spare := spare) (held := held) (ao := some a) (n := len) (c := cap) ht he hc ⟨fuel, h⟩
    refine ⟨some a, len, cap, z, rfl, h1, (fun h => by cases h), ⟨h2, h3⟩, h4, fun hz => ?_⟩
    have hw := hw hz
    simp only [Prod.mk.injEq] at hx
    rw [hx.1, DataW.weights, ht] at hw
    simp only [List.all_cons, Bool.and_eq_true, decide_eq_true_eq, hb, Nat.mul_one] at hw
    have := hw.1
    unfold reachBytes at this
    simp at this
    omega
/-- values that are read at an address -/
def RdV (w : World) (ao : Option Addr) (vs : List Value) : Prop := vs = [] ∨ ∃ b off, ao = some ⟨b, off, none⟩ ∧ RdA w b off vs
theorem flat_get {α : Type} (f : α → List Value) (s : Nat) (hf : ∀ a, (f a).length = s) : ∀ (as : List α) (j : Nat) (v : Value), (as.flatMap f)[j]? = some v → ∃ (i k : Nat) (a : α), as[i]? = some a ∧ j = i * s + k ∧ k < s ∧ (f a)[k]? = some v
  | [], j, v, h => by simp at h
  | a :: as, j, v, h => by
    rw [List.flatMap_cons] at h
    by_cases hj : j < s
    · rw [List.getElem?_append_left (by rw [hf]; exact hj)] at h
      exact ⟨0, j, a, rfl, by omega, hj, h⟩
    · rw [List.getElem?_append_right (by rw [hf]; omega), hf] at h
      obtain ⟨i, k, x, h1, h2, h3, h4⟩ := flat_get f s hf as (j - s) v h
      exact ⟨i + 1, k, x, by simpa using h1, by rw [Nat.succ_mul]; omega, h3, h4⟩
theorem rows_choose {α : Type} {f : α → List Value} {G : α → Prop} : ∀ (n : Nat) (R : Nat → List Value → Prop), (∀ i, i < n → ∃ a, R i (f a) ∧ G a) → ∃ as : List α, as.length = n ∧ (∀ a ∈ as, G a) ∧ ∀ i a, as[i]? = some a → R i (f a)
  | 0, R, _ => ⟨[], rfl, by simp, by simp⟩
  | n + 1, R, h => by
    obtain ⟨as, h1, h2, h3⟩ := rows_choose n (fun i => R (i + 1)) (fun i hi => h (i + 1) (by omega))
    obtain ⟨a, h4, h5⟩ := h 0 (by omega)
    refine ⟨a :: as, by simp [h1], by simpa using ⟨h5, h2⟩, fun i x hx => ?_⟩
    cases i with
    | zero => simp at hx; subst hx; exact h4
    | succ i => exact h3 i x (by simpa using hx)
theorem addr_add2 (a : Addr) (i j : Nat) : (a.add i).add j = a.add (i + j) := by
  unfold Addr.add
  by_cases hi : i = 0 <;> by_cases hj : j = 0 <;> simp [hi, hj, Nat.add_assoc]
/-- a slice of rows -/
theorem TD.rows {α : Type} (f : α → List Value) (G : α → Prop) {e s b : Nat} (ht : P.underlying t = some (.slice e)) (hs : P.cellsOf e = s) (hs0 : 0 < s) (hb : P.bytesOf e = b) (hb0 : 0 < b) (hf : ∀ a, (f a).length = s)
    (hop : ∀ cs', TD enc P w base spare held sz e cs' → ∃ a, cs' = f a ∧ G a) (h : TD enc P w base spare held sz t cs) :
    ∃ (ao : Option Addr) (n c : Nat) (as : List α), cs = [.slice ao n c] ∧ as.length = n ∧ (∀ a ∈ as, G a) ∧ (ao = none → c = 0) ∧ (n ≤ c ∧ c ≤ maxLen) ∧ RdV w ao (as.flatMap f) ∧ (sz = true → n ≤ 140737488351232) := by
  obtain ⟨fuel, d, ps, h, hw⟩ := h
  rcases DataW.trod_slice ht h with ⟨rfl, _⟩ | ⟨a, len, cap, elems, rest, k, _, rfl, hx, _, hl, hm, hlen, hel, _⟩
  · exact ⟨none, 0, 0, [], rfl, rfl, by simp, fun _ => rfl, ⟨Nat.le_refl _, by unfold maxLen; omega⟩, .inl rfl, fun _ => by omega⟩
  simp only [Prod.mk.injEq] at hx
  obtain ⟨as, h1, h2, h3⟩ := rows_choose (f := f) (G := G) len (fun i cs' => w.cells? base (a.add (i * s)) s = some cs') (fun i hi => by
    have hk := hel i hi
    rw [List.getElem?_eq_getElem (by omega), hs] at hk
    obtain ⟨cs', h1, h2⟩ := Option.bind_eq_some_iff.1 hk
    obtain ⟨x, rfl, hG⟩ := hop cs' ⟨k, _, _, h2, fun hz => by
      have hw := hw hz
      rw [hx.1, DataW.weights, ht] at hw
      simp only [List.all_cons, Bool.and_eq_true, List.all_append] at hw
      exact wAll_get _ hw.2.1 i _ (by simp [show i < elems.length by omega])⟩
    exact ⟨x, h1, hG⟩)
  have cell : ∀ j v, (as.flatMap f)[j]? = some v → w.cell? (a.add j) = some v := fun j v hj => by
    obtain ⟨i, q, x, hi, rfl, hq, hv⟩ := flat_get f s hf as j v hj
    have hc := h3 i x hi
    obtain ⟨_, _, hc⟩ := World.cells?_some hc
    have := hc q hq
    rw [hv] at this
    rw [← this]
    rw [addr_add2]
  refine ⟨some a, len, cap, as, rfl, h1, h2, (fun h => by cases h), ⟨hl, hm⟩, ?_, fun hz => ?_⟩
  · by_cases h0 : as.flatMap f = []
    · exact .inl h0
    · obtain ⟨v, hv⟩ : ∃ v, (as.flatMap f)[0]? = some v := by
        cases hq : as.flatMap f with
        | nil => exact absurd hq h0
        | cons x y => exact ⟨x, rfl⟩
      have c0 := cell 0 v hv
      have hadd0 : a.add 0 = a := by simp [Addr.add]
      rw [hadd0] at c0
      have ha := addr_of_cell c0
      exact .inr ⟨a.block, a.off, by rw [← ha], lt_of_cell (ha ▸ c0), fun j v hj => cell_off ha (cell j v hj)⟩
  · have hw := hw hz
    rw [hx.1, DataW.weights, ht] at hw
    simp only [List.all_cons, Bool.and_eq_true, decide_eq_true_eq, hb, List.length_map, hlen] at hw
    have := hw.1
    unfold reachBytes at this
    have h5 : len * 1 ≤ (len + rest.length) * b := Nat.mul_le_mul (by omega) hb0
    omega
/-! cells put together -/
theorem cat0 {a : List Value} {s : Nat} (h : (cs.drop 0).take s = a) : cs.take s = a := h
theorem cat_step {a b : List Value} {o s o' : Nat} (h : cs.take o = a) (h1 : (cs.drop o).take s = b) (ho : o' = o + s) : cs.take o' = a ++ b := by
  subst ho; rw [List.take_add, h, h1]
theorem cat_end {a : List Value} {o : Nat} (h : cs.take o = a) (hl : cs.length = o) : cs = a := by
  rw [← h, ← hl, List.take_length]
theorem agg_of {v : Value} {cs : List Value} {r : Reach} {b0 : Nat} {fs : Array Field} (ht : P.underlying t = some (.struct fs)) (hval : Value.okWide P w r b0 t v) (h : v.cells.toList = cs) : v = .agg cs.toArray := by
  simp only [Value.okWide, ht] at hval
  obtain ⟨xs, rfl, _⟩ := hval
  have : (Value.agg xs).cells = xs := rfl
  rw [this] at h
  rw [← h]
theorem agg_ofA {v : Value} {cs : List Value} {r : Reach} {b0 n e : Nat} (ht : P.underlying t = some (.array n e)) (hval : Value.okWide P w r b0 t v) (h : v.cells.toList = cs) : v = .agg cs.toArray := by
  simp only [Value.okWide, ht] at hval
  obtain ⟨xs, rfl, _⟩ := hval
  have : (Value.agg xs).cells = xs := rfl
  rw [this] at h
  rw [← h]
/-- a slice is one, whatever it leads to -/
theorem slice_of {v : Value} {r : Reach} {b0 e : Nat} {ao : Option Addr} {n c : Nat} (ht : P.underlying t = some (.slice e)) (hval : Value.okWide P w r b0 t v) (h : v.cells.toList = [.slice ao n c]) : v = .slice ao n c := by
  obtain ⟨a', n', c', rfl⟩ := okWide_slice ht hval
  simpa [Value.cells] using h
end
end Go.Sx
