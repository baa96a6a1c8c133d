import Derived.Test.YtncoifiafklkjaaDoorSxF
import Derived.ChangeKeysEq
namespace Go.Sx
open Go Go.RowKit
set_option linter.unusedVariables false
set_option linter.unusedSimpArgs false
variable {C : Cx} {F : Frm} {L : List Ent}

theorem str_get (l : List UInt8) (i : Nat) (h : i < l.length) : (ByteArray.mk l.toArray)[i]? = some (g8 l i) := by
  have h2 : i < (ByteArray.mk l.toArray).size := by simpa [ByteArray.size] using h
  rw [getElem?_pos _ i h2]
  simp [g8, h]
  rfl
theorem Ev_indexStrL {T ty : TypeId} {x y : Operand} {i : Int} {k : IntKind} (l : List UInt8) (n : Nat) (hu : C.P.underlying T = some .string) (hx : ev F x = some (.string ⟨l.toArray⟩)) (hy : ev F y = some (.int k i)) (hi : i = n) (h : n < l.length) : Ev C F L (.index T x y) ty (U8 (g8 l n)) :=
  Ev_indexStr (g8 l n) hu hx hy (by omega) (by subst hi; rw [Int.toNat_natCast]; exact str_get l n h)

section
variable {P : Program} {w : World}

theorem run_eqItems_u8 (d : Nat) {e : TypeId} (he : P.underlying e = some (.int .u8)) (hA : ∀ w, (isAgg e).run P w = .ok false w) (a b : List UInt8) : ∀ (is : List Nat), (∀ i ∈ is, i < a.length ∧ i < b.length) →
    (Op.eqItems (d + 1) e 1 (cu8 a).toArray (cu8 b).toArray is).run P w = .ok (is.all fun i => decide (g8 a i = g8 b i)) w
  | [], _ => by simp [Op.eqItems]
  | i :: is, h => by
    have hi := h i (by simp)
    have pa : (part e (cu8 a).toArray (i * 1)).run P w = .ok (U8 (g8 a i)) w := by
      simp [part, hA w, g8_get hi.1]
    have pb : (part e (cu8 b).toArray (i * 1)).run P w = .ok (U8 (g8 b i)) w := by
      simp [part, hA w, g8_get hi.2]
    have pe := run_equalIn_int (P := P) w d e .u8 .u8 (g8 a i).toNat (g8 b i).toNat he
    have e1 : (((g8 a i).toNat : Int) == ((g8 b i).toNat : Int)) = decide (g8 a i = g8 b i) := by rw [Bool.eq_iff_iff]; simp [← UInt8.toNat_inj]; omega
    rw [e1] at pe
    simp only [Op.eqItems, Sem.run_bind, pa, pb, pe, Result.andThen_ok, List.all_cons]
    cases hd : decide (g8 a i = g8 b i) with
    | false => simp
    | true => simpa using run_eqItems_u8 d he hA a b is (fun j hj => h j (List.mem_cons_of_mem _ hj))
theorem all_g8 {a b : List UInt8} {n : Nat} (ha : a.length = n) (hb : b.length = n) : ((List.range n).all fun i => decide (g8 a i = g8 b i)) = decide (a = b) := by
  rw [Bool.eq_iff_iff]
  simp only [List.all_eq_true, List.mem_range, decide_eq_true_eq]
  constructor
  · intro h
    apply List.ext_getElem (by omega)
    intro i h1 h2
    have := h i (by omega)
    rw [g8_eq h1, g8_eq h2] at this; exact this
  · rintro rfl i _; rfl
theorem equalIn_arr8 (d : Nat) {T e : TypeId} {n : Nat} (hu : P.underlying T = some (.array n e)) (he : P.underlying e = some (.int .u8)) (hA : ∀ w, (isAgg e).run P w = .ok false w) (hc : P.cellsOf e = 1) (hi : (P.info? e).isSome = true) {a b : List UInt8} (ha : a.length = n) (hb : b.length = n) :
    (Op.equalIn (d + 2) T (.agg (cu8 a).toArray) (.agg (cu8 b).toArray)).run P w = .ok (decide (a = b)) w := by
  obtain ⟨i, hi⟩ := Option.isSome_iff_exists.1 hi
  rw [run_equalIn_array (P := P) w (d + 1) _ _ hu hi, hc, run_eqItems_u8 d he hA a b _ (fun i hi => by have := List.mem_range.1 hi; omega), all_g8 ha hb]
theorem equal_arr8 {T e : TypeId} {n : Nat} (hu : P.underlying T = some (.array n e)) (he : P.underlying e = some (.int .u8)) (hA : ∀ w, (isAgg e).run P w = .ok false w) (hc : P.cellsOf e = 1) (hi : (P.info? e).isSome = true) {a b : List UInt8} (ha : a.length = n) (hb : b.length = n) :
    (Op.equal T (.agg (cu8 a).toArray) (.agg (cu8 b).toArray)).run P w = .ok (decide (a = b)) w := equalIn_arr8 9998 hu he hA hc hi ha hb
theorem eql_arr8 {T e : TypeId} {n : Nat} (hu : P.underlying T = some (.array n e)) (he : P.underlying e = some (.int .u8)) (hA : ∀ w, (isAgg e).run P w = .ok false w) (hc : P.cellsOf e = 1) (hi : (P.info? e).isSome = true) {a b : List UInt8} (ha : a.length = n) (hb : b.length = n) :
    (binOp .eql T (.agg (cu8 a).toArray) (.agg (cu8 b).toArray)).run P w = .ok (.bool (decide (a = b))) w := eql_of (by simp [binOp]) (equal_arr8 hu he hA hc hi ha hb)
theorem neq_arr8 {T e : TypeId} {n : Nat} (hu : P.underlying T = some (.array n e)) (he : P.underlying e = some (.int .u8)) (hA : ∀ w, (isAgg e).run P w = .ok false w) (hc : P.cellsOf e = 1) (hi : (P.info? e).isSome = true) {a b : List UInt8} (ha : a.length = n) (hb : b.length = n) :
    (binOp .neq T (.agg (cu8 a).toArray) (.agg (cu8 b).toArray)).run P w = .ok (.bool (!decide (a = b))) w := neq_of (by simp [binOp]) (equal_arr8 hu he hA hc hi ha hb)

theorem run_eqItems_u32 (d : Nat) {e : TypeId} (he : P.underlying e = some (.int .u32)) (hA : ∀ w, (isAgg e).run P w = .ok false w) (a b : List UInt32) : ∀ (is : List Nat), (∀ i ∈ is, i < a.length ∧ i < b.length) →
    (Op.eqItems (d + 1) e 1 (cu32 a).toArray (cu32 b).toArray is).run P w = .ok (is.all fun i => decide (g32 a i = g32 b i)) w
  | [], _ => by simp [Op.eqItems]
  | i :: is, h => by
    have hi := h i (by simp)
    have pa : (part e (cu32 a).toArray (i * 1)).run P w = .ok (U32 (g32 a i)) w := by
      simp [part, hA w, g32_get hi.1]
    have pb : (part e (cu32 b).toArray (i * 1)).run P w = .ok (U32 (g32 b i)) w := by
      simp [part, hA w, g32_get hi.2]
    have pe := run_equalIn_int (P := P) w d e .u32 .u32 (g32 a i).toNat (g32 b i).toNat he
    have e1 : (((g32 a i).toNat : Int) == ((g32 b i).toNat : Int)) = decide (g32 a i = g32 b i) := by rw [Bool.eq_iff_iff]; simp [← UInt32.toNat_inj]; omega
    rw [e1] at pe
    simp only [Op.eqItems, Sem.run_bind, pa, pb, pe, Result.andThen_ok, List.all_cons]
    cases hd : decide (g32 a i = g32 b i) with
    | false => simp
    | true => simpa using run_eqItems_u32 d he hA a b is (fun j hj => h j (List.mem_cons_of_mem _ hj))
theorem all_g32 {a b : List UInt32} {n : Nat} (ha : a.length = n) (hb : b.length = n) : ((List.range n).all fun i => decide (g32 a i = g32 b i)) = decide (a = b) := by
  rw [Bool.eq_iff_iff]
  simp only [List.all_eq_true, List.mem_range, decide_eq_true_eq]
  constructor
  · intro h
    apply List.ext_getElem (by omega)
    intro i h1 h2
    have := h i (by omega)
    rw [g32_eq h1, g32_eq h2] at this; exact this
  · rintro rfl i _; rfl
theorem equalIn_arr32 (d : Nat) {T e : TypeId} {n : Nat} (hu : P.underlying T = some (.array n e)) (he : P.underlying e = some (.int .u32)) (hA : ∀ w, (isAgg e).run P w = .ok false w) (hc : P.cellsOf e = 1) (hi : (P.info? e).isSome = true) {a b : List UInt32} (ha : a.length = n) (hb : b.length = n) :
    (Op.equalIn (d + 2) T (.agg (cu32 a).toArray) (.agg (cu32 b).toArray)).run P w = .ok (decide (a = b)) w := by
  obtain ⟨i, hi⟩ := Option.isSome_iff_exists.1 hi
  rw [run_equalIn_array (P := P) w (d + 1) _ _ hu hi, hc, run_eqItems_u32 d he hA a b _ (fun i hi => by have := List.mem_range.1 hi; omega), all_g32 ha hb]
theorem equal_arr32 {T e : TypeId} {n : Nat} (hu : P.underlying T = some (.array n e)) (he : P.underlying e = some (.int .u32)) (hA : ∀ w, (isAgg e).run P w = .ok false w) (hc : P.cellsOf e = 1) (hi : (P.info? e).isSome = true) {a b : List UInt32} (ha : a.length = n) (hb : b.length = n) :
    (Op.equal T (.agg (cu32 a).toArray) (.agg (cu32 b).toArray)).run P w = .ok (decide (a = b)) w := equalIn_arr32 9998 hu he hA hc hi ha hb
theorem eql_arr32 {T e : TypeId} {n : Nat} (hu : P.underlying T = some (.array n e)) (he : P.underlying e = some (.int .u32)) (hA : ∀ w, (isAgg e).run P w = .ok false w) (hc : P.cellsOf e = 1) (hi : (P.info? e).isSome = true) {a b : List UInt32} (ha : a.length = n) (hb : b.length = n) :
    (binOp .eql T (.agg (cu32 a).toArray) (.agg (cu32 b).toArray)).run P w = .ok (.bool (decide (a = b))) w := eql_of (by simp [binOp]) (equal_arr32 hu he hA hc hi ha hb)
theorem neq_arr32 {T e : TypeId} {n : Nat} (hu : P.underlying T = some (.array n e)) (he : P.underlying e = some (.int .u32)) (hA : ∀ w, (isAgg e).run P w = .ok false w) (hc : P.cellsOf e = 1) (hi : (P.info? e).isSome = true) {a b : List UInt32} (ha : a.length = n) (hb : b.length = n) :
    (binOp .neq T (.agg (cu32 a).toArray) (.agg (cu32 b).toArray)).run P w = .ok (.bool (!decide (a = b))) w := neq_of (by simp [binOp]) (equal_arr32 hu he hA hc hi ha hb)

theorem run_eqItems_u64 (d : Nat) {e : TypeId} (he : P.underlying e = some (.int .u64)) (hA : ∀ w, (isAgg e).run P w = .ok false w) (a b : List UInt64) : ∀ (is : List Nat), (∀ i ∈ is, i < a.length ∧ i < b.length) →
    (Op.eqItems (d + 1) e 1 (cu64 a).toArray (cu64 b).toArray is).run P w = .ok (is.all fun i => decide (g64 a i = g64 b i)) w
  | [], _ => by simp [Op.eqItems]
  | i :: is, h => by
    have hi := h i (by simp)
    have pa : (part e (cu64 a).toArray (i * 1)).run P w = .ok (U64 (g64 a i)) w := by
      simp [part, hA w, g64_get hi.1]
    have pb : (part e (cu64 b).toArray (i * 1)).run P w = .ok (U64 (g64 b i)) w := by
      simp [part, hA w, g64_get hi.2]
    have pe := run_equalIn_int (P := P) w d e .u64 .u64 (g64 a i).toNat (g64 b i).toNat he
    have e1 : (((g64 a i).toNat : Int) == ((g64 b i).toNat : Int)) = decide (g64 a i = g64 b i) := by rw [Bool.eq_iff_iff]; simp [← UInt64.toNat_inj]; omega
    rw [e1] at pe
    simp only [Op.eqItems, Sem.run_bind, pa, pb, pe, Result.andThen_ok, List.all_cons]
    cases hd : decide (g64 a i = g64 b i) with
    | false => simp
    | true => simpa using run_eqItems_u64 d he hA a b is (fun j hj => h j (List.mem_cons_of_mem _ hj))
theorem all_g64 {a b : List UInt64} {n : Nat} (ha : a.length = n) (hb : b.length = n) : ((List.range n).all fun i => decide (g64 a i = g64 b i)) = decide (a = b) := by
  rw [Bool.eq_iff_iff]
  simp only [List.all_eq_true, List.mem_range, decide_eq_true_eq]
  constructor
  · intro h
    apply List.ext_getElem (by omega)
    intro i h1 h2
    have := h i (by omega)
    rw [g64_eq h1, g64_eq h2] at this; exact this
  · rintro rfl i _; rfl
theorem equalIn_arr64 (d : Nat) {T e : TypeId} {n : Nat} (hu : P.underlying T = some (.array n e)) (he : P.underlying e = some (.int .u64)) (hA : ∀ w, (isAgg e).run P w = .ok false w) (hc : P.cellsOf e = 1) (hi : (P.info? e).isSome = true) {a b : List UInt64} (ha : a.length = n) (hb : b.length = n) :
    (Op.equalIn (d + 2) T (.agg (cu64 a).toArray) (.agg (cu64 b).toArray)).run P w = .ok (decide (a = b)) w := by
  obtain ⟨i, hi⟩ := Option.isSome_iff_exists.1 hi
  rw [run_equalIn_array (P := P) w (d + 1) _ _ hu hi, hc, run_eqItems_u64 d he hA a b _ (fun i hi => by have := List.mem_range.1 hi; omega), all_g64 ha hb]
theorem equal_arr64 {T e : TypeId} {n : Nat} (hu : P.underlying T = some (.array n e)) (he : P.underlying e = some (.int .u64)) (hA : ∀ w, (isAgg e).run P w = .ok false w) (hc : P.cellsOf e = 1) (hi : (P.info? e).isSome = true) {a b : List UInt64} (ha : a.length = n) (hb : b.length = n) :
    (Op.equal T (.agg (cu64 a).toArray) (.agg (cu64 b).toArray)).run P w = .ok (decide (a = b)) w := equalIn_arr64 9998 hu he hA hc hi ha hb
theorem eql_arr64 {T e : TypeId} {n : Nat} (hu : P.underlying T = some (.array n e)) (he : P.underlying e = some (.int .u64)) (hA : ∀ w, (isAgg e).run P w = .ok false w) (hc : P.cellsOf e = 1) (hi : (P.info? e).isSome = true) {a b : List UInt64} (ha : a.length = n) (hb : b.length = n) :
    (binOp .eql T (.agg (cu64 a).toArray) (.agg (cu64 b).toArray)).run P w = .ok (.bool (decide (a = b))) w := eql_of (by simp [binOp]) (equal_arr64 hu he hA hc hi ha hb)
theorem neq_arr64 {T e : TypeId} {n : Nat} (hu : P.underlying T = some (.array n e)) (he : P.underlying e = some (.int .u64)) (hA : ∀ w, (isAgg e).run P w = .ok false w) (hc : P.cellsOf e = 1) (hi : (P.info? e).isSome = true) {a b : List UInt64} (ha : a.length = n) (hb : b.length = n) :
    (binOp .neq T (.agg (cu64 a).toArray) (.agg (cu64 b).toArray)).run P w = .ok (.bool (!decide (a = b))) w := neq_of (by simp [binOp]) (equal_arr64 hu he hA hc hi ha hb)

end
end Go.Sx
