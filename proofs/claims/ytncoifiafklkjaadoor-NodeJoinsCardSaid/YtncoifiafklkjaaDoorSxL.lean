import Derived.Test.YtncoifiafklkjaaDoorSxK
namespace Go.Sx
open Go Go.RowKit
set_option linter.unusedVariables false
set_option linter.unusedSimpArgs false
variable {C : Cx} {F : Frm} {L : List Ent}
/-- n elements from o on. -/
def mid {α : Type} (l : List α) (o n : Nat) : List α := (l.drop o).take n
theorem mid_len {α : Type} {l : List α} {o n : Nat} (h : o + n ≤ l.length) : (mid l o n).length = n := by simp [mid]; omega
theorem len_cu8 {l : List UInt8} {n : Nat} (h : l.length = n) : (cu8 l).length = n := by simp [h]
theorem len_cu32 {l : List UInt32} {n : Nat} (h : l.length = n) : (cu32 l).length = n := by simp [h]
theorem len_cu64 {l : List UInt64} {n : Nat} (h : l.length = n) : (cu64 l).length = n := by simp [h]
theorem some_i64 {a b : Int} (h : a = b) : some (I64 a) = some (I64 b) := by rw [h]
theorem heap_lt {w : World} {b : Nat} {o : Obj} (h : w.heap[b]? = some o) : b < w.heap.size := by
  by_cases hb : b < w.heap.size
  · exact hb
  · have : w.heap[b]? = none := by simp; omega
    rw [this] at h; cases h
theorem Hp.heap {w0 w : World} {M : List Nat} {b : Nat} {o : Obj} (hw : Hp w0 M L w) (h : w0.heap[b]? = some o) (hM : b ∉ M) : w.heap[b]? = some o := by
  rw [hw.old b (heap_lt h) hM]; exact h
theorem MemAt.heap {b T : Nat} {cs : List Value} (h : C.w0.heap[b]? = some (.cells cs.toArray T (0, 0))) (hM : b ∉ C.M) : MemAt C L b 0 cs :=
  MemAt.base (heap_lt h) hM fun j v hj => by
    rw [Nat.zero_add]
    simp only [World.cell?, h]
    simpa using hj
/-- what stands at an address -/
def RdA (w : World) (b off : Nat) (vs : List Value) : Prop := b < w.heap.size ∧ ∀ j v, vs[j]? = some v → w.cell? ⟨b, off + j, none⟩ = some v
theorem RdA.mem {b off : Nat} {vs : List Value} (h : RdA C.w0 b off vs) (hM : b ∉ C.M) : MemAt C L b off vs := MemAt.base h.1 hM h.2
theorem RdA.of {w : World} {b off : Nat} {vs : List Value} (hw : Hp C.w0 C.M L w) (h : MemAt C L b off vs) (hz : 0 < vs.length) : RdA w b off vs :=
  ⟨lt_of_cell (h w hw 0 vs[0] (by simp [hz])), fun j v hj => h w hw j v hj⟩
def zr8 (n : Nat) : List UInt8 := List.replicate n 0
theorem zr8_len (n : Nat) : (zr8 n).length = n := by simp [zr8]
theorem segm_u8 {l : List UInt8} (o n : Nat) (h : o + n ≤ l.length) : Seg (cu8 l) o (cu8 (mid l o n)) := seg_u8_mid o n h
theorem g8_mid {l : List UInt8} {o n j : Nat} (h : j < n) : g8 (mid l o n) j = g8 l (o + j) := by rw [mid, g8_take h, g8_drop]
theorem g8_zr {n j : Nat} : g8 (zr8 n) j = 0 := g8_rep
theorem cu8_zr (n : Nat) : List.replicate n (Value.int .u8 0) = cu8 (zr8 n) := by simp [zr8, cu8]
def zr32 (n : Nat) : List UInt32 := List.replicate n 0
theorem zr32_len (n : Nat) : (zr32 n).length = n := by simp [zr32]
theorem segm_u32 {l : List UInt32} (o n : Nat) (h : o + n ≤ l.length) : Seg (cu32 l) o (cu32 (mid l o n)) := seg_u32_mid o n h
theorem g32_mid {l : List UInt32} {o n j : Nat} (h : j < n) : g32 (mid l o n) j = g32 l (o + j) := by rw [mid, g32_take h, g32_drop]
theorem g32_zr {n j : Nat} : g32 (zr32 n) j = 0 := g32_rep
theorem cu32_zr (n : Nat) : List.replicate n (Value.int .u32 0) = cu32 (zr32 n) := by simp [zr32, cu32]
def zr64 (n : Nat) : List UInt64 := List.replicate n 0
theorem zr64_len (n : Nat) : (zr64 n).length = n := by simp [zr64]
theorem segm_u64 {l : List UInt64} (o n : Nat) (h : o + n ≤ l.length) : Seg (cu64 l) o (cu64 (mid l o n)) := seg_u64_mid o n h
theorem g64_mid {l : List UInt64} {o n j : Nat} (h : j < n) : g64 (mid l o n) j = g64 l (o + j) := by rw [mid, g64_take h, g64_drop]
theorem g64_zr {n j : Nat} : g64 (zr64 n) j = 0 := g64_rep
theorem cu64_zr (n : Nat) : List.replicate n (Value.int .u64 0) = cu64 (zr64 n) := by simp [zr64, cu64]
end Go.Sx
