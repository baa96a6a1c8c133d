import Derived.Test.YtncoifiafklkjaaDoorSxO
import Derived.Test.YtncoifiafklkjaaDoorSxY
import Derived.Laws.StructEq
namespace Go.Sx
open Go Go.RowKit
set_option linter.unusedVariables false
set_option linter.unusedSimpArgs false
section
variable {P : Program}
/-- a part of cells, by its type -/
def PartV (P : Program) (t : TypeId) (cs : List Value) (off : Nat) (u : Value) : Prop := ∀ w, (part t cs.toArray off).run P w = .ok u w
theorem PartV.one {t : TypeId} {cs : List Value} {off : Nat} {v : Value} (hA : ∀ w, (isAgg t).run P w = .ok false w) (h : Seg cs off [v]) : PartV P t cs off v := fun w => by
  have h0 : cs[off]? = some v := by simpa using h 0 v rfl
  simp [part, hA w, h0]
theorem PartV.agg {t : TypeId} {cs vs : List Value} {off n : Nat} (hA : ∀ w, (isAgg t).run P w = .ok true w) (hS : ∀ w, (sizeOf t).run P w = .ok n w) (h : (cs.drop off).take n = vs) : PartV P t cs off (.agg vs.toArray) := fun w => by
  simp [part, hA w, hS w, ← h]
/-- are two values of a type equal -/
def EqV (P : Program) (d : Nat) (t : TypeId) (u v : Value) (b : Bool) : Prop := ∀ w, (Op.equalIn d t u v).run P w = .ok b w
theorem EqV.u64 {d : Nat} {t : TypeId} (he : P.underlying t = some (.int .u64)) (a b : UInt64) : EqV P (d + 1) t (U64 a) (U64 b) (decide (a = b)) := fun w => by
  have pe := run_equalIn_int (P := P) w d t .u64 .u64 a.toNat b.toNat he
  have e1 : ((a.toNat : Int) == (b.toNat : Int)) = decide (a = b) := by rw [Bool.eq_iff_iff]; simp [← UInt64.toNat_inj]; omega
  rw [e1] at pe
  simpa using pe
theorem EqV.u8 {d : Nat} {t : TypeId} (he : P.underlying t = some (.int .u8)) (a b : UInt8) : EqV P (d + 1) t (U8 a) (U8 b) (decide (a = b)) := fun w => by
  have pe := run_equalIn_int (P := P) w d t .u8 .u8 a.toNat b.toNat he
  have e1 : ((a.toNat : Int) == (b.toNat : Int)) = decide (a = b) := by rw [Bool.eq_iff_iff]; simp [← UInt8.toNat_inj]; omega
  rw [e1] at pe
  simpa using pe
theorem EqV.i64 {d : Nat} {t : TypeId} (he : P.underlying t = some (.int .i64)) (a b : Int) : EqV P (d + 1) t (I64 a) (I64 b) (decide (a = b)) := fun w => by
  have pe := run_equalIn_int (P := P) w d t .i64 .i64 a b he
  have e1 : (a == b) = decide (a = b) := rfl
  rw [e1] at pe
  simpa using pe
theorem EqV.bool {d : Nat} {t : TypeId} (he : P.underlying t = some .bool) (a b : Bool) : EqV P (d + 1) t (.bool a) (.bool b) (a == b) := fun w => by
  simp [Op.equalIn, run_underlying he]
theorem EqV.arr8 {d : Nat} {T e : TypeId} {n : Nat} (hu : P.underlying T = some (.array n e)) (he : P.underlying e = some (.int .u8)) (hA : ∀ w, (isAgg e).run P w = .ok false w) (hc : P.cellsOf e = 1) (hi : (P.info? e).isSome = true) {a b : List UInt8} (ha : a.length = n) (hb : b.length = n) :
    EqV P (d + 2) T (.agg (cu8 a).toArray) (.agg (cu8 b).toArray) (decide (a = b)) := fun w => equalIn_arr8 d hu he hA hc hi ha hb
/-- are the parts at some places equal -/
inductive EqRs (P : Program) (d : Nat) (xs ys : List Value) : List (TypeId × Nat) → Bool → Prop
  | last (t o : Nat) (u v : Value) (b : Bool) : PartV P t xs o u → PartV P t ys o v → EqV P d t u v b → EqRs P d xs ys [(t, o)] b
  | cons (t o : Nat) (u v : Value) (b : Bool) (r : List (TypeId × Nat)) (c : Bool) : PartV P t xs o u → PartV P t ys o v → EqV P d t u v b → EqRs P d xs ys r c → EqRs P d xs ys ((t, o) :: r) (b && c)
theorem EqRs.run {d : Nat} {xs ys : List Value} {r : List (TypeId × Nat)} {b : Bool} (h : EqRs P d xs ys r b) : ∀ (fs : List Field), fs.map (fun f => (decide (f.name ≠ "_"), f.type, f.offset)) = r.map (fun x => (true, x.1, x.2)) →
    ∀ w, (Op.eqFields d xs.toArray ys.toArray fs).run P w = .ok b w := by
  induction h with
  | last t o u v b hx hy he =>
    intro fs hf w
    obtain ⟨f, rfl⟩ : ∃ f, fs = [f] := by
      cases fs with
      | nil => simp at hf
      | cons f r => cases r with
        | nil => exact ⟨f, rfl⟩
        | cons g r => simp at hf
    · simp only [List.map_cons, List.map_nil, List.cons.injEq, Prod.mk.injEq, and_true, decide_eq_true_eq] at hf
      obtain ⟨h1, h2, h3⟩ := hf
      rw [Op.eqFields, if_pos h1, h2, h3]
      simp only [Sem.run_bind, hx w, hy w, he w, Result.andThen_ok, Op.eqFields]
      cases b <;> simp
  | cons t o u v b r c hx hy he hr ih =>
    intro fs hf w
    cases fs with
    | nil => simp at hf
    | cons f fs =>
      simp only [List.map_cons, List.cons.injEq, Prod.mk.injEq, decide_eq_true_eq] at hf
      obtain ⟨⟨h1, h2, h3⟩, h4⟩ := hf
      rw [Op.eqFields, if_pos h1, h2, h3]
      simp only [Sem.run_bind, hx w, hy w, he w, Result.andThen_ok]
      cases b with
      | false => simp
      | true => simpa using ih fs h4 w
theorem EqV.struct {d : Nat} {t : TypeId} {xs ys : List Value} {r : List (TypeId × Nat)} {b : Bool} (hu : P.underlying t = some (.struct (P.fieldsOf t))) (hp : P.stoodInHeld t = false)
    (hr : (P.fieldsOf t).toList.map (fun f => (decide (f.name ≠ "_"), f.type, f.offset)) = r.map (fun x => (true, x.1, x.2))) (h : EqRs P d xs ys r b) : EqV P (d + 1) t (.agg xs.toArray) (.agg ys.toArray) b := fun w => by
  rw [run_equalIn_struct w d t _ _ hu hp]
  exact h.run _ hr w
theorem eql_struct {t : TypeId} {x y : Array Value} {b : Bool} (p : Prop) [Decidable p] (h : EqV P 10000 t (.agg x) (.agg y) b) (hb : b = decide p) : ∀ w, (binOp .eql t (.agg x) (.agg y)).run P w = .ok (.bool (decide p)) w := fun w => by
  subst hb
  exact eql_of (by simp [binOp]) (h w)
theorem neq_struct {t : TypeId} {x y : Array Value} {b : Bool} (p : Prop) [Decidable p] (h : EqV P 10000 t (.agg x) (.agg y) b) (hb : b = decide p) : ∀ w, (binOp .neq t (.agg x) (.agg y)).run P w = .ok (.bool (!decide p)) w := fun w => by
  subst hb
  exact neq_of (by simp [binOp]) (h w)
theorem dt_dt {cs : List Value} {a n b m o : Nat} (hb : b + m ≤ n) (ho : o = a + b) : ((((cs.drop a).take n).drop b).take m) = (cs.drop o).take m := by
  subst ho
  rw [List.drop_take, List.take_take, List.drop_drop, Nat.min_eq_left (by omega)]
theorem TD.sub {H : Type} {enc : TypeId × Value → H} {w : World} {base : Nat} {spare : Nat → Bool} {held sz : Bool} {t : TypeId} {cs : List Value} {a n b m o : Nat} (h : TD enc P w base spare held sz t ((((cs.drop a).take n).drop b).take m)) (hb : b + m ≤ n) (ho : o = a + b) :
    TD enc P w base spare held sz t ((cs.drop o).take m) := by rw [← dt_dt hb ho]; exact h
theorem Seg.split {cs p q vs : List Value} {off : Nat} (h : cs = p ++ (vs ++ q)) (hn : p.length = off) : Seg cs off vs := Seg.sub (p := p) (q := q) (o := 0) hn (by omega) (by rw [h, List.append_assoc]; exact Seg.whole _)
theorem one_app {a b : List Value} (ha : ∀ u ∈ a, u.oneCell' = true) (hb : ∀ u ∈ b, u.oneCell' = true) : ∀ u ∈ a ++ b, u.oneCell' = true := fun u hu => (List.mem_append.1 hu).elim (ha u) (hb u)
theorem cells_toArray (cs : List Value) : (Value.agg cs.toArray).cells = cs.toArray := rfl
/-- an array's value of parts -/
theorem run_build_array {w : World} {T e n s : Nat} {z : Value} {pv : Array (Nat × Value)} {cs : List Value} (hz : ∀ w, (zeroValue T).run P w = .ok z w) (hu : P.underlying T = some (.array n e)) (hS : ∀ w, (sizeOf e).run P w = .ok s w)
    (hf : Instr.fill (fun i => some (i * s, s)) z.cells pv.toList = some cs.toArray) : (Instr.build T pv).run P w = .ok (.agg cs.toArray) w := by
  simp only [Instr.build, Sem.run_bind, hz, Result.andThen_ok, run_underlying hu, hS, hf, Sem.run_pure]
/-- the first part of an array, the others being nought -/
theorem fill_first {s n : Nat} {l : List UInt8} (hl : l.length = s) (hn : s ≤ n) : Instr.fill (fun i => some (i * s, s)) (cu8 (zr8 n)).toArray [(0, .agg (cu8 l).toArray)] = some (cu8 (spl (zr8 n) 0 l)).toArray := by
  have e : zr8 n = zr8 s ++ zr8 (n - s) := by
    unfold zr8; rw [List.replicate_append_replicate]; congr 1; omega
  have h := fill_step (place := fun i => some (i * s, s)) (i := 0) (v := .agg (cu8 l).toArray) (rest := []) [] (cu8 (zr8 s)) (cu8 (zr8 (n - s))) (cu8 l) rfl (by simp [cu8, zr8]) (by simp [cu8, zr8, hl])
  have h2 : spl (zr8 n) 0 l = l ++ zr8 (n - s) := by
    unfold spl; rw [hl, e]; simp [zr8]
  rw [h2, cu8_app, e, cu8_app]
  exact h
end
section
variable {C : Cx} {F : Frm} {L : List Ent}
/-- append to a row of elements of s octets -/
theorem Step_appH {x y : Operand} {ty : TypeId} (t e s bytes : Nat) (zv : Value) (m : List Bool) (v : Value) (n : Nat) (l z : List UInt8) (ao : Option Addr) (k c tot N : Nat)
    (hu : C.P.underlying t = some (.slice e)) (hi : (C.P.info? e).map (fun i => (i.zero, i.size, i.bytes)) = some (some zv, s, bytes)) (hzs : zv.cells.size = s) (hs0 : 0 < s)
    (hx : ev F x = some v)
    (hv : (v = .slice none 0 0 ∧ n = 0 ∧ l = [] ∧ take? m L = [] ∧ 0 < k) ∨ (∃ g sp cap, v = Slc g 0 n cap ∧ take? m L = [⟨g, cu8 l ++ sp, e, (0, 0)⟩] ∧ l.length = n * s ∧ sp.length = cap * s - n * s ∧ n ≤ cap ∧ cap ≤ maxLen))
    (hy : ev F y = some (.slice ao k c)) (hk : z.length = k * s) (hm : SrcAt C L ao (cu8 z)) (hmax : (n + k) * bytes ≤ 140737488355328) (hmax' : n + k ≤ maxLen) (htot : n + k = tot) (hN : N = tot * s) :
    Step C F L (.call { callee := .builtin .append, args := #[x, y], argTypes := #[t, t] }) ty fun v' L' => ∃ g sp cap, (C.w0.heap.size ≤ g ∨ g ∈ C.M) ∧ v' = Slc g 0 tot cap ∧ L' = rest? m L ++ [⟨g, cu8 (l ++ z) ++ sp, e, (0, 0)⟩] ∧ (l ++ z).length = N ∧ sp.length = cap * s - N ∧ tot ≤ cap ∧ cap ≤ maxLen := by
  subst htot; subst hN
  have hv' : (v = .slice none 0 0 ∧ n = 0 ∧ cu8 l = [] ∧ take? m L = [] ∧ 0 < k) ∨ (∃ g sp cap, v = Slc g 0 n cap ∧ take? m L = [⟨g, cu8 l ++ sp, e, (0, 0)⟩] ∧ (cu8 l).length = n * s ∧ (cu8 l ++ sp).length = cap * s ∧ n ≤ cap ∧ cap ≤ maxLen) := by
    rcases hv with ⟨h1, h2, h3, h4, h5⟩ | ⟨g, sp, cap, h1, h2, h3, h4, h5, h6⟩
    · exact .inl ⟨h1, h2, by rw [h3]; rfl, h4, h5⟩
    · have := Nat.mul_le_mul_right s h5
      refine .inr ⟨g, sp, cap, h1, h2, by simpa using h3, ?_, h5, h6⟩
      rw [List.length_append, h4]; simp; omega
  have h := Step_append (C := C) (F := F) (L := L) (x := x) (y := y) (ty := ty) t e s bytes zv m v n (cu8 l) (cu8 z) ao k c hu hi hzs hs0 hx hv' hy (by simpa using hk) hm one_u8 hmax hmax'
  intro a w ha hw d pos aft g Kk Q hq
  refine h a w ha hw d pos aft g Kk Q ?_
  rintro v' L' w' ⟨g, sp, cap, h1, h2, h3, h4, h5, h6, h7⟩ hw'
  rw [← cu8_app] at h3 h4 h5
  have h4' : (l ++ z).length = (n + k) * s := by simpa using h4
  refine hq v' L' w' ⟨g, sp, cap, h1, h2, h3, h4', ?_, h6, h7⟩ hw'
  rw [List.length_append, h4] at h5
  omega
/-- one element, as a row -/
theorem fill_firstS {s : Nat} {zs : Array Value} {l : List UInt8} (hl : l.length = s) (hz : (Array.range (1 * s)).map (fun j => zs[j % zs.size]!) = (cu8 (zr8 s)).toArray) :
    Instr.fill (fun i => some (i * s, s)) ((Array.range (1 * s)).map (fun j => zs[j % zs.size]!)) [(0, .agg (cu8 l).toArray)] = some (cu8 l).toArray := by
  rw [hz]
  have h := fill_first (s := s) (n := s) hl (Nat.le_refl _)
  rw [h]
  have e : spl (zr8 s) 0 l = l := by unfold spl; rw [hl]; simp [zr8]
  rw [e]
end
end Go.Sx
