import Derived.Test.YtncoifiafklkjaaDoorSxG
namespace Go.Sx
open Go Go.RowKit
set_option linter.unusedVariables false
set_option linter.unusedSimpArgs false
variable {C : Cx} {F : Frm} {L : List Ent}

theorem Seg.get1 {cs : List Value} {off n : Nat} {v : Value} (h : Seg cs off [v]) (hn : n = off) : cs[n]? = some v := by
  subst hn; simpa using h 0 v (by simp)
theorem Seg.cut {cs vs : List Value} {off o n : Nat} (h : Seg cs off vs) (hn : vs.length = n) (ho : o = off) : (cs.drop o).take n = vs := by
  subst ho
  apply List.ext_getElem?
  intro j
  rw [List.getElem?_take, List.getElem?_drop]
  split
  · rename_i hj
    obtain ⟨v, hv⟩ : ∃ v, vs[j]? = some v := ⟨vs[j]'(by omega), by simp [hn, hj]⟩
    rw [hv, h j v hv]
  · rw [List.getElem?_eq_none (by omega)]
theorem MemAt.seg {b off o o' : Nat} {cs vs : List Value} (h : MemAt C L b off cs) (hs : Seg cs o vs) (ho : off + o = o') : MemAt C L b o' vs := fun w hw j v hj => by
  have := h w hw (o + j) v (hs j v hj)
  rw [← ho, Nat.add_assoc]; exact this
theorem Ev_sliceNil {T ty : TypeId} {x : Operand} {lo hi : Option Operand} (e s : Nat) (hu : C.P.underlying T = some (.slice e)) (hS : ∀ w, (sizeOf e).run C.P w = .ok s w) (hx : ev F x = some (.slice none 0 0))
    (hl : match lo with | some z => ev F z = some (I64 (0:Nat)) | none => True) (hh : match hi with | some z => ev F z = some (I64 (0:Nat)) | none => True) : Ev C F L (.slice T x lo hi none) ty (.slice none 0 0) := by
  have := Ev_sliceG (ty := ty) (L := L) (lo := lo) (hi := hi) e s 0 0 hu hS hx (by cases lo <;> simp_all) (by cases hi <;> simp_all) (by omega) (by omega)
  simpa using this
/-- v laid over l from o on. -/
def spl {α : Type} (l : List α) (o : Nat) (v : List α) : List α := l.take o ++ v ++ l.drop (o + v.length)
theorem spl_len {α : Type} {l v : List α} {o : Nat} (h : o + v.length ≤ l.length) : (spl l o v).length = l.length := by
  simp [spl]; omega
theorem spl_get {α : Type} {l v : List α} {o : Nat} (h : o + v.length ≤ l.length) (j : Nat) : (spl l o v)[j]? = if o ≤ j ∧ j < o + v.length then v[j - o]? else l[j]? := by
  unfold spl
  split
  · rename_i hj
    rw [List.append_assoc, List.getElem?_append_right (by simp; omega), List.getElem?_append_left (by simp; omega)]
    congr 1; simp; omega
  · rename_i hj
    by_cases h1 : j < o
    · rw [List.append_assoc, List.getElem?_append_left (by simp; omega), List.getElem?_take, if_pos h1]
    · rw [List.getElem?_append_right (by simp; omega), List.getElem?_drop]
      congr 1; simp; omega
theorem laySpl8 (l v : List UInt8) (o : Nat) (h : o + v.length ≤ l.length) : lay (cu8 l) o (cu8 v) = cu8 (spl l o v) := by
  simp [lay, spl, cu8]
theorem g8_spl {l v : List UInt8} {o : Nat} (h : o + v.length ≤ l.length) (j : Nat) : g8 (spl l o v) j = if o ≤ j ∧ j < o + v.length then g8 v (j - o) else g8 l j := by
  simp only [g8, List.getD_eq_getElem?_getD, spl_get h]
  split <;> rfl
theorem g8_app (a b : List UInt8) (j : Nat) : g8 (a ++ b) j = if j < a.length then g8 a j else g8 b (j - a.length) := by
  simp only [g8, List.getD_eq_getElem?_getD, List.getElem?_append]
  split <;> rfl
theorem g8_drop (l : List UInt8) (o j : Nat) : g8 (l.drop o) j = g8 l (o + j) := by
  simp [g8, List.getD_eq_getElem?_getD, List.getElem?_drop]
theorem g8_take {l : List UInt8} {n j : Nat} (h : j < n) : g8 (l.take n) j = g8 l j := by
  simp [g8, List.getD_eq_getElem?_getD, List.getElem?_take, h]
theorem g8_map_range {f : Nat → UInt8} {n j : Nat} (h : j < n) : g8 ((List.range n).map f) j = f j := by
  simp [g8, List.getD_eq_getElem?_getD, h]
theorem g8_rep {n j : Nat} : g8 (List.replicate n (0:UInt8)) j = 0 := by
  simp only [g8, List.getD_eq_getElem?_getD, List.getElem?_replicate]; split <;> rfl
theorem ext8 {a b : List UInt8} (hl : a.length = b.length) (h : ∀ j, j < a.length → g8 a j = g8 b j) : a = b := by
  apply List.ext_getElem hl
  intro i h1 h2
  have := h i h1
  rwa [g8_eq h1, g8_eq h2] at this
theorem laySpl32 (l v : List UInt32) (o : Nat) (h : o + v.length ≤ l.length) : lay (cu32 l) o (cu32 v) = cu32 (spl l o v) := by
  simp [lay, spl, cu32]
theorem g32_spl {l v : List UInt32} {o : Nat} (h : o + v.length ≤ l.length) (j : Nat) : g32 (spl l o v) j = if o ≤ j ∧ j < o + v.length then g32 v (j - o) else g32 l j := by
  simp only [g32, List.getD_eq_getElem?_getD, spl_get h]
  split <;> rfl
theorem g32_app (a b : List UInt32) (j : Nat) : g32 (a ++ b) j = if j < a.length then g32 a j else g32 b (j - a.length) := by
  simp only [g32, List.getD_eq_getElem?_getD, List.getElem?_append]
  split <;> rfl
theorem g32_drop (l : List UInt32) (o j : Nat) : g32 (l.drop o) j = g32 l (o + j) := by
  simp [g32, List.getD_eq_getElem?_getD, List.getElem?_drop]
theorem g32_take {l : List UInt32} {n j : Nat} (h : j < n) : g32 (l.take n) j = g32 l j := by
  simp [g32, List.getD_eq_getElem?_getD, List.getElem?_take, h]
theorem g32_map_range {f : Nat → UInt32} {n j : Nat} (h : j < n) : g32 ((List.range n).map f) j = f j := by
  simp [g32, List.getD_eq_getElem?_getD, h]
theorem g32_rep {n j : Nat} : g32 (List.replicate n (0:UInt32)) j = 0 := by
  simp only [g32, List.getD_eq_getElem?_getD, List.getElem?_replicate]; split <;> rfl
theorem ext32 {a b : List UInt32} (hl : a.length = b.length) (h : ∀ j, j < a.length → g32 a j = g32 b j) : a = b := by
  apply List.ext_getElem hl
  intro i h1 h2
  have := h i h1
  rwa [g32_eq h1, g32_eq h2] at this
theorem laySpl64 (l v : List UInt64) (o : Nat) (h : o + v.length ≤ l.length) : lay (cu64 l) o (cu64 v) = cu64 (spl l o v) := by
  simp [lay, spl, cu64]
theorem g64_spl {l v : List UInt64} {o : Nat} (h : o + v.length ≤ l.length) (j : Nat) : g64 (spl l o v) j = if o ≤ j ∧ j < o + v.length then g64 v (j - o) else g64 l j := by
  simp only [g64, List.getD_eq_getElem?_getD, spl_get h]
  split <;> rfl
theorem g64_app (a b : List UInt64) (j : Nat) : g64 (a ++ b) j = if j < a.length then g64 a j else g64 b (j - a.length) := by
  simp only [g64, List.getD_eq_getElem?_getD, List.getElem?_append]
  split <;> rfl
theorem g64_drop (l : List UInt64) (o j : Nat) : g64 (l.drop o) j = g64 l (o + j) := by
  simp [g64, List.getD_eq_getElem?_getD, List.getElem?_drop]
theorem g64_take {l : List UInt64} {n j : Nat} (h : j < n) : g64 (l.take n) j = g64 l j := by
  simp [g64, List.getD_eq_getElem?_getD, List.getElem?_take, h]
theorem g64_map_range {f : Nat → UInt64} {n j : Nat} (h : j < n) : g64 ((List.range n).map f) j = f j := by
  simp [g64, List.getD_eq_getElem?_getD, h]
theorem g64_rep {n j : Nat} : g64 (List.replicate n (0:UInt64)) j = 0 := by
  simp only [g64, List.getD_eq_getElem?_getD, List.getElem?_replicate]; split <;> rfl
theorem ext64 {a b : List UInt64} (hl : a.length = b.length) (h : ∀ j, j < a.length → g64 a j = g64 b j) : a = b := by
  apply List.ext_getElem hl
  intro i h1 h2
  have := h i h1
  rwa [g64_eq h1, g64_eq h2] at this
end Go.Sx
