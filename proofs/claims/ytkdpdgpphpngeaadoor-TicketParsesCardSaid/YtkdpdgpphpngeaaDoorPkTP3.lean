import Derived.Lib.LaidTab
import Derived.MakeChecks
import Derived.Shelf.Bytes.SlJoin
import Derived.Test.YtkdpdgpphpngeaaDoorPkTP2
set_option linter.unusedVariables false
set_option linter.unusedSimpArgs false
set_option maxRecDepth 100000
namespace Go.Proofs.YtkdpdgpphpngeaaDoor
open Go Go.Sx
theorem RdV.pos {w : World} {ao : Option Addr} {vs : List Value} (h : RdV w ao vs) (hv : 0 < vs.length) : ∃ b off, ao = some ⟨b, off, none⟩ ∧ RdA w b off vs := by
  rcases h with h | h
  · rw [h] at hv; simp at hv
  · exact h
theorem RdV.of {C : Cx} {L : List Ent} {w : World} {b off : Nat} {vs : List Value} (hw : Hp C.w0 C.M L w) (h : MemAt C L b off vs) : RdV w (some ⟨b, off, none⟩) vs := by
 cases vs with
 | nil => exact .inl rfl
 | cons v vs => exact .inr ⟨b, off, rfl, RdA.of hw h (by simp)⟩
theorem RdV.src {C : Cx} {L : List Ent} {ao : Option Addr} {vs : List Value} (h : RdV C.w0 ao vs) (hM : C.M = []) : SrcAt C L ao vs := by
  rcases h with rfl | ⟨b, off, rfl, h⟩
  · exact SrcAt.nil
  · exact SrcAt.mem (h.mem (by rw [hM]; simp))
theorem RdV.nil {w : World} {ao : Option Addr} : RdV w ao [] := .inl rfl
section
variable {C : Cx} {F : Frm} {L : List Ent} {ty : TypeId}
theorem Cl_clo {f : FuncId} {x : Operand} {args : Array Operand} {ats : Array TypeId} (vs caps : List Value) (hcf : ∀ (args : Array Value) (w : World), Sem.run C.P (callFunc f args) w = Result.ok (Next.enter f args) w)
  (hx : ev F x = some (.func (.func f) #[] caps.toArray)) (h : args.toList.map (ev F) = vs.map some) : Cl C F L (.call { callee := .value x, args := args, argTypes := ats }) ty f (vs ++ caps).toArray := fun a w ha _ d pos aft g => by
 have : args.map a.eval = vs.toArray := by
  apply Array.toList_inj.1
  rw [Array.toList_map]
  generalize args.toList = l at h
  clear hcf hx
  induction l generalizing vs with
  | nil => cases vs <;> simp_all
  | cons o l ih =>
   cases vs with
   | nil => simp at h
   | cons v vs =>
    simp only [List.map_cons, List.cons.injEq] at h
    simp [ha.ev h.1, ih vs h.2]
 have h2 : a.eval x = .func (.func f) #[] caps.toArray := ha.ev hx
 simp [execOp, resolve, this, h2, Deferred.ofValue, invoke, hcf]
end
def IdxBad (l : List UInt64) (k : Nat) : Prop := g64 l k >>> 32 ≠ 0 ∨ (0 < k ∧ g64 l k ≤ g64 l (k - 1))
instance (l : List UInt64) (k : Nat) : Decidable (IdxBad l k) := by unfold IdxBad; infer_instance
def RightI (l : List UInt64) : Prop := 1 ≤ l.length ∧ l.length ≤ 256 ∧ ∀ k, k < l.length → ¬ IdxBad l k
instance (l : List UInt64) : Decidable (RightI l) := by unfold RightI; infer_instance
theorem RightI_pos {l : List UInt64} (h : RightI l) : 1 ≤ l.length ∧ l.length ≤ 256 := ⟨h.1, h.2.1⟩
theorem idx_step {l : List UInt64} {i : Nat} (h : ∀ k, k < i → ¬ IdxBad l k) (hi : ¬ IdxBad l i) : ∀ k, k < i + 1 → ¬ IdxBad l k := fun k hk => by
  by_cases e : k = i
  · rw [e]; exact hi
  · exact h k (by omega)
theorem shr32 (x : UInt64) : (4294967296:UInt64) ≤ x ↔ x >>> 32 ≠ 0 := by
 have h1 : (4294967296:UInt64).toNat = 4294967296 := rfl
 have h2 : (x >>> 32).toNat = x.toNat / 4294967296 := by
  rw [UInt64.toNat_shiftRight, Nat.shiftRight_eq_div_pow]
  rfl
 have h3 : (0:UInt64).toNat = 0 := rfl
 rw [UInt64.le_iff_toNat_le, h1, ne_eq, ← UInt64.toNat_inj, h2, h3]
 omega
theorem pow2_step (j : Nat) : UInt64.ofNat (2 ^ j) * 2 = UInt64.ofNat (2 ^ (j + 1)) := by
 rw [Nat.pow_succ, UInt64.ofNat_mul]; rfl
structure SealR where
 e : UInt64
 d : List UInt8
 t : List UInt8
 hd : d.length = 32
 ht : t.length = 16
deriving DecidableEq
theorem SealR.eq_iff (x y : SealR) : x = y ↔ x.e = y.e ∧ x.d = y.d ∧ x.t = y.t := by
 refine ⟨fun h => by rw [h]; exact ⟨rfl, rfl, rfl⟩, fun h => ?_⟩
 obtain ⟨a, b, c, _, _⟩ := x
 obtain ⟨a', b', c', _, _⟩ := y
 obtain ⟨rfl, rfl, rfl⟩ := h
 rfl
def sealC (x : SealR) : List Value := [U64 x.e] ++ cu8 x.d ++ cu8 x.t
theorem FH (x : SealR) : (sealC x).length = 49 := by
 have h1 := x.hd
 have h2 := x.ht
 simp [sealC, h1, h2]
def RightB (i e : UInt64) : Bool := decide (i < 4294967296) && (decide (1 ≤ e) && decide (e < 18446744073709551615))
theorem u64_bounds (i e : UInt64) : (i ≤ 4294967295 ↔ i < 4294967296) ∧ (e ≠ 0 ↔ 1 ≤ e) ∧ (e ≠ 18446744073709551615 ↔ e < 18446744073709551615) := by
 have h1 : (4294967295:UInt64).toNat = 4294967295 := rfl
 have h2 : (4294967296:UInt64).toNat = 4294967296 := rfl
 have h3 : (0:UInt64).toNat = 0 := rfl
 have h4 : (1:UInt64).toNat = 1 := rfl
 have h5 : (18446744073709551615:UInt64).toNat = 18446744073709551615 := rfl
 have h6 := e.toNat_lt
 simp only [UInt64.lt_iff_toNat_lt, UInt64.le_iff_toNat_le, ne_eq, ← UInt64.toNat_inj, h1, h2, h3, h4, h5]
 omega
theorem RightB_ref (i e : UInt64) : RightB i e = (decide (i ≤ 4294967295) && (decide (e ≠ 0) && decide (e ≠ 18446744073709551615))) := by
 obtain ⟨h1, h2, h3⟩ := u64_bounds i e
 unfold RightB
 rw [decide_eq_decide.2 h1, decide_eq_decide.2 h2, decide_eq_decide.2 h3]
def findIx {α : Type} (p : α → Bool) (ls : List α) : Int := if ls.any p then (ls.findIdx p : Nat) else -1
theorem findIx_at {α : Type} {p : α → Bool} {ls : List α} {i : Nat} {x : α} (h : ls[i]? = some x) (hp : p x = true) (hlt : ∀ k, k < i → ∀ y, ls[k]? = some y → p y = false) : findIx p ls = i := by
 obtain ⟨hi, hx⟩ := List.getElem?_eq_some_iff.1 h
 have h1 : ls.any p = true := List.any_eq_true.2 ⟨x, hx ▸ List.getElem_mem hi, hp⟩
 have h2 : ls.findIdx p = i := by
  rw [List.findIdx_eq hi]
  exact ⟨by rw [hx]; exact hp, fun j hj => hlt j hj _ (List.getElem?_eq_getElem (by omega))⟩
 unfold findIx
 rw [if_pos h1, h2]
theorem findIx_no {α : Type} {p : α → Bool} {ls : List α} (h : ∀ k, k < ls.length → ∀ y, ls[k]? = some y → p y = false) : findIx p ls = -1 := by
 unfold findIx
 rw [if_neg]
 intro ha
 obtain ⟨x, hx, hp⟩ := List.any_eq_true.1 ha
 obtain ⟨k, hk, hk2⟩ := List.getElem_of_mem hx
 rw [h k hk x (by rw [List.getElem?_eq_getElem hk, hk2])] at hp
 exact absurd hp (by decide)
theorem findIx_ge {α : Type} (p : α → Bool) (ls : List α) : decide (0 ≤ findIx p ls) = ls.any p := by
 unfold findIx
 cases h : ls.any p with
 | true => rw [if_pos rfl]; exact decide_eq_true (by omega)
 | false => rw [if_neg (by decide)]; exact decide_eq_false (by omega)
theorem find_step {α : Type} {p : α → Bool} {ls : List α} {i : Nat} {x : α} (h : ls[i]? = some x) (hp : p x = false) (hlt : ∀ k, k < i → ∀ y, ls[k]? = some y → p y = false) : ∀ k, k < i + 1 → ∀ y, ls[k]? = some y → p y = false := fun k hk y hy => by
  by_cases e : k = i
  · rw [e, h] at hy
    injection hy with hy
    rw [← hy]; exact hp
  · exact hlt k (by omega) y hy
theorem FZ {l : List UInt64} {i : Nat} (h : i < l.length) : l[i]? = some (g64 l i) := by rw [g64_eq h, List.getElem?_eq_getElem h]
def headE (ls : List SealR) : UInt64 := (ls[0]?.map SealR.e).getD 0
theorem F5 {ls : List SealR} {x : SealR} (h : ls[0]? = some x) : headE ls = x.e := by unfold headE; rw [h]; rfl
def oddB (e0 e : UInt64) : Bool := !RightB 0 e || decide (e ≠ e0)
def RightO (kd : Int) (l : List UInt64) (ls : List SealR) (bl : UInt64) : Bool :=
 if kd = 1 then decide (bl = 0) && (decide (RightI l) && (decide (ls.length = l.length) && !(ls.any (fun x => oddB (headE ls) (SealR.e x)))))
 else if kd = 2 then decide (bl = 0) && (decide (RightI l) && decide (ls.length = 0))
 else if kd = 3 then decide (l.length + ls.length = 0) && (decide ((1:UInt64) ≤ bl) && decide (bl ≤ 4294967296))
 else false
theorem any_odd {α : Type} {p : α → Bool} {ls : List α} {i : Nat} {x : α} (h : ls[i]? = some x) (hp : p x = true) : ls.any p = true := by
 obtain ⟨hi, hx⟩ := List.getElem?_eq_some_iff.1 h
 exact List.any_eq_true.2 ⟨x, hx ▸ List.getElem_mem hi, hp⟩
theorem any_no {α : Type} {p : α → Bool} {ls : List α} (h : ∀ k, k < ls.length → ∀ y, ls[k]? = some y → p y = false) : ls.any p = false := by
 cases ha : ls.any p with
 | false => rfl
 | true =>
  obtain ⟨x, hx, hp⟩ := List.any_eq_true.1 ha
  obtain ⟨k, hk, hk2⟩ := List.getElem_of_mem hx
  rw [h k hk x (by rw [List.getElem?_eq_getElem hk, hk2])] at hp
  exact absurd hp (by decide)
theorem bl_pos (bl : UInt64) : (0:UInt64) < bl ↔ (1:UInt64) ≤ bl := by
 have h0 : (0:UInt64).toNat = 0 := rfl
 have h1 : (1:UInt64).toNat = 1 := rfl
 rw [UInt64.lt_iff_toNat_lt, UInt64.le_iff_toNat_le, h0, h1]
 omega
section
variable {C : Cx} {F : Frm} {L : List Ent}
theorem one_seal (z : SealR) : ∀ v ∈ sealC z, v.oneCell' = true := by
  intro v hv
  unfold sealC at hv
  simp only [List.mem_append, List.mem_cons, List.not_mem_nil, or_false] at hv
  rcases hv with (rfl | hv) | hv
  · rfl
  · exact CF v hv
  · exact CF v hv
theorem rows_len (l : List SealR) : (l.flatMap sealC).length = l.length * 49 := by
 induction l with
 | nil => rfl
 | cons a l ih => rw [List.flatMap_cons, List.length_append, FH, ih, List.length_cons]; omega
theorem Step_appS {x y : Operand} {ty : TypeId} (t e bytes : Nat) (zv : Value) (m : List Bool) (v : Value) (n : Nat) (l : List SealR) (z : SealR) (ao : Option Addr) (c tot : Nat)
    (hu : C.P.underlying t = some (.slice e)) (hi : (C.P.info? e).map (fun i => (i.zero, i.size, i.bytes)) = some (some zv, 49, bytes)) (hzs : zv.cells.size = 49)
    (hx : ev F x = some v)
    (hv : (v = .slice none 0 0 ∧ n = 0 ∧ l = [] ∧ take? m L = []) ∨ (∃ g sp cap, v = Slc g 0 n cap ∧ take? m L = [⟨g, l.flatMap sealC ++ sp, e, (0, 0)⟩] ∧ l.length = n ∧ sp.length = cap * 49 - n * 49 ∧ n ≤ cap ∧ cap ≤ maxLen))
    (hy : ev F y = some (.slice ao 1 c)) (hm : SrcAt C L ao (sealC z)) (hmax : (n + 1) * bytes ≤ 140737488355328) (hmax' : n + 1 ≤ maxLen) (htot : n + 1 = tot) :
    Step C F L (.call { callee := .builtin .append, args := #[x, y], argTypes := #[t, t] }) ty fun v' L' => ∃ g sp cap, (C.w0.heap.size ≤ g ∨ g ∈ C.M) ∧ v' = Slc g 0 tot cap ∧ L' = rest? m L ++ [⟨g, (l ++ [z]).flatMap sealC ++ sp, e, (0, 0)⟩] ∧ (l ++ [z]).length = tot ∧ sp.length = cap * 49 - tot * 49 ∧ tot ≤ cap ∧ cap ≤ maxLen := by
  subst htot
  have hv' : (v = .slice none 0 0 ∧ n = 0 ∧ l.flatMap sealC = [] ∧ take? m L = [] ∧ 0 < 1) ∨ (∃ g sp cap, v = Slc g 0 n cap ∧ take? m L = [⟨g, l.flatMap sealC ++ sp, e, (0, 0)⟩] ∧ (l.flatMap sealC).length = n * 49 ∧ (l.flatMap sealC ++ sp).length = cap * 49 ∧ n ≤ cap ∧ cap ≤ maxLen) := by
    rcases hv with ⟨h1, h2, h3, h4⟩ | ⟨g, sp, cap, h1, h2, h3, h4, h5, h6⟩
    · exact .inl ⟨h1, h2, by rw [h3]; rfl, h4, by omega⟩
    · refine .inr ⟨g, sp, cap, h1, h2, by rw [rows_len, h3], ?_, h5, h6⟩
      rw [List.length_append, h4, rows_len, h3]; omega
  have h := Step_append (C := C) (F := F) (L := L) (x := x) (y := y) (ty := ty) t e 49 bytes zv m v n (l.flatMap sealC) (sealC z) ao 1 c hu hi hzs (by decide) hx hv' hy (by rw [FH]) hm (one_seal z) hmax hmax'
  intro a w ha hw d pos aft g Kk Q hq
  refine h a w ha hw d pos aft g Kk Q ?_
  rintro v' L' w' ⟨g, sp, cap, h1, h2, h3, h4, h5, h6, h7⟩ hw'
  have e1 : l.flatMap sealC ++ sealC z = (l ++ [z]).flatMap sealC := by rw [List.flatMap_append]; simp
  rw [e1] at h3 h4 h5
  rw [rows_len] at h4
  refine hq v' L' w' ⟨g, sp, cap, h1, h2, h3, by omega, ?_, h6, h7⟩ hw'
  rw [List.length_append, rows_len] at h5
  omega
end
theorem take_step {α : Type} {ls : List α} {i : Nat} {x : α} (h : ls[i]? = some x) : ls.take i ++ [x] = ls.take (i + 1) := by rw [List.take_add_one, h]; rfl
theorem fill_one {s : Nat} {zs : Array Value} {c Z : List Value} (hl : c.length = s) (hz : (Array.range (1 * s)).map (fun j => zs[j % zs.size]!) = Z.toArray) (hZ : Z.length = s) :
  Instr.fill (fun i => some (i * s, s)) ((Array.range (1 * s)).map (fun j => zs[j % zs.size]!)) [(0, .agg c.toArray)] = some c.toArray := by
 rw [hz]
 have h := F6 (place := fun i => some (i * s, s)) (i := 0) (v := .agg c.toArray) (rest := []) Z [] c rfl (by simp [hZ]) (by rw [hl, hZ])
 rw [List.append_nil, List.append_nil] at h
 exact h
def LargeP (n m : Nat) : Prop := 300 < n ∨ 300 < m ∨ (20 < m ∧ m ≤ 256)
instance (n m : Nat) : Decidable (LargeP n m) := by unfold LargeP; infer_instance
theorem list_eq {α : Type} {a b : List α} (hl : a.length = b.length) (h : ∀ k, k < a.length → ∀ x y, a[k]? = some x → b[k]? = some y → x = y) : a = b := by
 apply List.ext_getElem hl
 intro k h1 h2
 exact h k h1 _ _ (List.getElem?_eq_getElem h1) (List.getElem?_eq_getElem h2)
theorem list_ne {α : Type} {a b : List α} {k : Nat} {x y : α} (h1 : a[k]? = some x) (h2 : b[k]? = some y) (h : x ≠ y) : a ≠ b := fun e => by
 rw [e, h2] at h1
 injection h1 with h1
 exact h h1.symm
theorem eq_step {α : Type} {a b : List α} {i : Nat} {p q : α} (ha : a[i]? = some p) (hb : b[i]? = some q) (hpq : p = q) (h : ∀ k, k < i → ∀ x y, a[k]? = some x → b[k]? = some y → x = y) : ∀ k, k < i + 1 → ∀ x y, a[k]? = some x → b[k]? = some y → x = y := fun k hk x y hx hy => by
  by_cases e : k = i
  · rw [e, ha] at hx
    rw [e, hb] at hy
    injection hx with hx
    injection hy with hy
    rw [← hx, ← hy]; exact hpq
  · exact h k (by omega) x y hx hy
theorem RightO_pos {kd : Int} {l : List UInt64} {ls : List SealR} {bl : UInt64} (h : RightO kd l ls bl = true) (hk : kd = 1) : 1 ≤ ls.length ∧ ls.length = l.length := by
 unfold RightO at h
 rw [if_pos hk] at h
 simp only [Bool.and_eq_true, decide_eq_true_eq] at h
 have := h.2.1.1
 exact ⟨by omega, h.2.2.1⟩
def mayN (pv ep : UInt64) (kd : Int) (l : List UInt64) (ls : List SealR) (bl : UInt64) : Nat :=
 if RightO kd l ls bl = true then (if kd = 1 ∧ headE ls ≠ ep then 2 else if RightB 0 ep = true ∧ ¬ ep ≤ pv then 0 else 1) else 2
theorem mayN_right {pv ep : UInt64} {kd : Int} {l : List UInt64} {ls : List SealR} {bl : UInt64} (h : mayN pv ep kd l ls bl = 0) : RightO kd l ls bl = true := by
  unfold mayN at h
  split at h
  · assumption
  · omega
theorem RightO_idx {kd : Int} {l : List UInt64} {ls : List SealR} {bl : UInt64} (h : RightO kd l ls bl = true) (hk : kd = 1 ∨ kd = 2) : RightI l := by
  unfold RightO at h
  rcases hk with hk | hk
  · rw [if_pos hk] at h
    simp only [Bool.and_eq_true, decide_eq_true_eq] at h
    exact h.2.1
  · rw [if_neg (by omega), if_pos hk] at h
    simp only [Bool.and_eq_true, decide_eq_true_eq] at h
    exact h.2.1
def idxT (l : List UInt64) (i : Nat) : List UInt8 := (List.range i).flatMap (fun k => numK 4 (g64 l k) 4)
theorem idxT_zero (l : List UInt64) : idxT l 0 = [] := rfl
theorem idxT_succ (l : List UInt64) (i : Nat) : idxT l (i + 1) = idxT l i ++ numK 4 (g64 l i) 4 := by
 unfold idxT; rw [List.range_succ, List.flatMap_append]; simp
theorem idxT_len (l : List UInt64) : ∀ i, (idxT l i).length = 4 * i
 | 0 => rfl
 | i + 1 => by rw [idxT_succ, List.length_append, idxT_len l i, EA]; omega
def selT (ls : List SealR) : List UInt8 := ls.flatMap (fun x => putL x.e x.d x.t)
theorem selT_nil : selT [] = [] := rfl
theorem selT_app (ls : List SealR) (x : SealR) : selT (ls ++ [x]) = selT ls ++ putL x.e x.d x.t := by unfold selT; rw [List.flatMap_append]; simp
theorem selT_len : ∀ ls : List SealR, (selT ls).length = 56 * ls.length
 | [] => rfl
 | x :: ls => by
  have h := selT_len ls
  unfold selT at h ⊢
  rw [List.flatMap_cons, List.length_append, h, putL_len x.hd x.ht, List.length_cons]; omega
theorem shr8n {n : Nat} (h : n < 256) : UInt64.ofNat n >>> UInt64.ofNat (8 * 1) = 0 := by
 apply UInt64.toNat_inj.1
 rw [UInt64.toNat_shiftRight, UInt64.toNat_ofNat', Nat.mod_eq_of_lt (by omega), Nat.shiftRight_eq_div_pow]
 show n / 2 ^ 8 = 0
 exact Nat.div_eq_of_lt h
theorem idx_fit {l : List UInt64} {i : Nat} (h : RightI l) (hi : i < l.length) : g64 l i >>> UInt64.ofNat (8 * 4) = 0 := by
 have h1 := h.2.2 i hi
 unfold IdxBad at h1
 exact Classical.not_not.1 (fun e => h1 (.inl e))
def tktT (pv ep : UInt64) (k : Nat) (l : List UInt64) (ls : List SealR) (bl : UInt64) : List UInt8 :=
 if k = 3 then ((numK 8 pv 8 ++ numK 8 ep 8) ++ numK 1 (UInt64.ofNat k) 1) ++ numK 8 bl 8
 else ((((numK 8 pv 8 ++ numK 8 ep 8) ++ numK 1 (UInt64.ofNat k) 1) ++ numK 1 (UInt64.ofNat (l.length - 1)) 1) ++ idxT l l.length) ++ selT ls
end Go.Proofs.YtkdpdgpphpngeaaDoor
namespace Go.Sx
open Go Go.RowKit
open Go.ChangeShapes Go.WideShapes
theorem laidVars_mem {P : Program} {w : World} : ∀ {l : List (String × DataW Unit)} {ps : List MemPlace}, DataW.LaidVars P w l ps → ∀ {n : String} {d : DataW Unit}, (n, d) ∈ l →
    ∃ g t cs fuel p, P.globalNamed n = some g ∧ (P.globals[g]?).map (·.type) = some t ∧ w.var? P n = some cs ∧ DataW.trod (fun _ => ()) P w 0 (fun _ => true) false fuel t cs.toList = some (d, p)
  | (n', d') :: r, ps, h, n, d, hm => by
    obtain ⟨g, t, cs, fuel, p, q, h1, h2, h3, h4, h5, _⟩ := h
    rcases List.mem_cons.1 hm with hm | hm
    · cases hm; exact ⟨g, t, cs, fuel, p, h1, h2, h3, h4⟩
    · exact laidVars_mem h5 hm
theorem laid_rd {P : Program} {W : World} {laid : List (String × DataW Unit)} (h : laidMetH P laid W) (hp : (laid.all fun x => x.2.handleName?.isNone) = true) {name : String} {d : DataW Unit} (hm : (name, d) ∈ laid) (l : List UInt32)
  (hd : d = Lib.tabData .u32 (l.map fun u => (u.toNat : Int))) {g t e n : Nat}
  (hg : P.globalNamed name = some g) (hty : (P.globals[g]?).map (·.type) = some t) (ht : P.underlying t = some (.array n e)) (he : P.underlying e = some (.int .u32)) (hce : P.cellsOf e = 1) (hct : P.cellsOf t = n) (hl : 0 < l.length) : RdA W g 0 (cu32 l) := by
 rw [MakeChecks.laidMetH_plain _ _ _ hp] at h
 obtain ⟨ps, hv, _, _⟩ := h
 obtain ⟨g', t', cs, fuel, p, hg', ht', hvar, htr⟩ := laidVars_mem hv hm
 obtain rfl := Option.some.inj (hg.symm.trans hg')
 obtain rfl := Option.some.inj (hty.symm.trans ht')
 subst hd
 have hcs := Lib.cells_of_tab ht he hce hct htr
 have key : ∀ j v, (cu32 l)[j]? = some v → W.cell? ⟨g, 0 + j, none⟩ = some v := fun j v hj => by
  have := World.var?_cell hg hvar j
  rw [Nat.zero_add, this, ← Array.getElem?_toList, hcs]
  simpa [cu32] using hj
 have h0 : (cu32 l)[0]? = some (U32 (l[0]'hl)) := by simp [cu32, hl]
 exact ⟨lt_of_cell (key 0 _ h0), key⟩
theorem open_rdn_u8 {H : Type} {enc : TypeId × Value → H} {P : Program} {w : World} {base : Nat} {spare : Nat → Bool} {held : Bool} {t e : TypeId} {ao : Option Addr} {n c : Nat} {d : DataW H} {ps : List MemPlace} (ht : P.underlying t = some (.slice e)) (he : P.underlying e = some (.int .u8)) (hc : P.cellsOf e = 1)
    (hd : DataW.Trod enc P w base spare held t (.slice ao n c) d ps) : ∃ z : List UInt8, z.length = n ∧ (ao = none → c = 0) ∧ (n ≤ c ∧ c ≤ maxLen) ∧ RdB w [] ao z := by
  have hn : ao = none → c = 0 := fun h => by
    obtain ⟨fuel, hf⟩ := hd
    rcases open_ints ht he hc hf with ⟨h1, _⟩ | ⟨a, len, cap, zs, h1, _⟩
    · have h1' : (Value.slice ao n c) = .slice none 0 0 := by simpa [Value.cells] using h1
      cases h1'; rfl
    · have h1' : (Value.slice ao n c) = .slice (some a) len cap := by simpa [Value.cells] using h1
      cases h1'; cases h
  obtain ⟨z, h1, h2, h3, h4⟩ := open_rd_u8 ht he hc hd
  exact ⟨z, h1, hn, ⟨h2, h3⟩, h4⟩
end Go.Sx
namespace Go.Sx
open Go Go.RowKit Go.Proofs
theorem RdB.holds {w : World} {ao : Option Addr} {n c : Nat} {z : List UInt8} (hr : RdB w [] ao z) (hn : z.length = n) : Lib.HoldsBytes w (.slice ao n c) z := by
  subst hn
  refine ⟨ao, c, rfl, ?_, ?_⟩
  · rintro rfl
    rcases hr with h | ⟨_, _, h, _⟩
    · exact h
    · cases h
  · intro a ha i x hx
    rcases hr with rfl | ⟨b, off, rfl, _, _, hc⟩
    · simp at hx
    · cases ha
      have := hc i (U8 x) (by simp [cu8, hx])
      rw [show (⟨b, off, none⟩ : Addr).add i = ⟨b, off + i, none⟩ from Lib.add_plain2 b off i]
      exact this
theorem fresh_ent {B : Nat} {w' : World} {v : Value} {l : List UInt8} (h : Lib.FreshBytes B w' v l) (hl : 0 < l.length) :
    ∃ g sp cap T fz, v = Slc g 0 l.length cap ∧ B ≤ g ∧ l.length ≤ cap ∧ cap ≤ maxLen ∧ w'.heap[g]? = some (.cells (cu8 l ++ sp).toArray T fz) := by
  obtain ⟨g, cap, zs, rfl, hB, hc, hm, hz, hr, hb, hcell, _⟩ := h
  have h0 := hcell 0 (by omega)
  have : ∃ cs T fz, w'.heap[g]? = some (.cells cs T fz) := by
    unfold World.cell? at h0
    split at h0
    · rename_i cs T fz he; exact ⟨cs, T, fz, he⟩
    · simp at h0
  obtain ⟨cs, T, fz, he⟩ := this
  have key : ∀ i, i < cap → cs[i]? = some (.int .u8 (zs.getD i 0)) := fun i hi => by
    have := hcell i hi
    simpa [World.cell?, he] using this
  refine ⟨g, cs.toList.drop l.length, cap, T, fz, rfl, hB, hc, hm, ?_⟩
  rw [he]
  have e1 : cs.toList.take l.length = cu8 l := by
    apply List.ext_getElem?
    intro i
    by_cases hi : i < l.length
    · rw [List.getElem?_take, if_pos hi]
      have k := key i (by omega)
      rw [← Array.getElem?_toList] at k
      rw [k]
      obtain ⟨x, hzi⟩ : ∃ x, zs[i]? = some x := ⟨_, List.getElem?_eq_getElem (show i < zs.length by omega)⟩
      have hrange := hr x (List.mem_of_getElem? hzi)
      have hli : l[i]? = some (UInt8.ofNat x.toNat) := by
        have := congrArg (fun q => q[i]?) hb
        simp only [Lib.bytesOf, List.getElem?_map, List.getElem?_take, if_pos hi, hzi, Option.map_some] at this
        exact this.symm
      have hx : ((UInt8.ofNat x.toNat).toNat : Int) = x := by
        rw [UInt8.toNat_ofNat']
        have : x.toNat < 256 := by omega
        rw [Nat.mod_eq_of_lt (by simpa using this)]
        omega
      simp only [cu8, List.getElem?_map, hli, Option.map_some, List.getD_eq_getElem?_getD, hzi, Option.getD_some]
      show _ = some (Value.int .u8 ((UInt8.ofNat x.toNat).toNat : Int))
      rw [hx]
    · rw [List.getElem?_eq_none (by simp; omega), List.getElem?_eq_none (by simp [cu8]; omega)]
  rw [← e1, List.take_append_drop]
def JoinR (l : List UInt8) (v : Value) (L : List Ent) : Prop :=
 (l = [] ∧ ∃ ao c, v = .slice ao 0 c ∧ L = [] ∧ (ao = none → c = 0)) ∨
 (0 < l.length ∧ ∃ g sp cap T fz, v = Slc g 0 l.length cap ∧ L = [⟨g, cu8 l ++ sp, T, fz⟩] ∧ l.length ≤ cap ∧ cap ≤ maxLen)
theorem join_post {w : World} {l : List UInt8} {v : Value} {w' : World} (h : Lib.FreshBytes w.heap.size w' v l) (hb : Below w.heap.size w w') : Post w [] (JoinR l) (.returned v) w' := by
  by_cases hl : 0 < l.length
  · obtain ⟨g, sp, cap, T, fz, hv, hB, hc, hm, he⟩ := fresh_ent h hl
    refine ⟨v, _, rfl, .inr ⟨hl, g, sp, cap, T, fz, hv, rfl, hc, hm⟩, ⟨hb.os, hb.tape, hb.output, hb.size, fun b hbl _ => hb.block b hbl, ?_, by simp, ?_⟩⟩
    · intro e he'; simp at he'; subst he'; exact he
    · intro e he'; simp at he'; subst he'; exact .inr hB
  · have hn : l = [] := by simpa using hl
    subst hn
    obtain ⟨g, cap, zs, rfl, _⟩ := h
    exact ⟨_, [], rfl, .inl ⟨rfl, _, _, rfl, rfl, fun h => by cases h⟩, ⟨hb.os, hb.tape, hb.output, hb.size, fun b hbl _ => hb.block b hbl, by simp, by simp, by simp⟩⟩
def PL (w : World) : List Value → List (List UInt8) → Prop
 | [], [] => True
 | v :: vs, l :: ls => (∃ ao c, v = .slice ao l.length c ∧ RdB w [] ao l) ∧ PL w vs ls
 | _, _ => False
theorem PL.len {w : World} : ∀ {vs : List Value} {ls : List (List UInt8)}, PL w vs ls → vs.length = ls.length
 | [], [], _ => rfl
 | _ :: _, _ :: _, h => by simp [PL.len h.2]
 | [], _ :: _, h => h.elim
 | _ :: _, [], h => h.elim
theorem PL.get {w : World} : ∀ {vs : List Value} {ls : List (List UInt8)}, PL w vs ls → ∀ (i : Nat) v l, vs[i]? = some v → ls[i]? = some l → ∃ ao c, v = .slice ao l.length c ∧ RdB w [] ao l
 | _ :: _, _ :: _, h, 0, v, l, hv, hl => by simp at hv hl; subst hv; subst hl; exact h.1
 | _ :: _, _ :: _, h, i + 1, v, l, hv, hl => PL.get h.2 i v l (by simpa using hv) (by simpa using hl)
 | [], [], _, i, v, l, hv, _ => by simp at hv
 | [], _ :: _, h, _, _, _, _, _ => h.elim
 | _ :: _, [], h, _, _, _, _, _ => h.elim
theorem PL.at {C : Cx} {L : List Ent} {w : World} (hw : Hp C.w0 C.M L w) (hM : C.M = []) : ∀ {vs : List Value} {ls : List (List UInt8)}, PL C.w0 vs ls → PL w vs ls
 | [], [], _ => trivial
 | v :: vs, l :: ls, ⟨⟨ao, c, hv, hr⟩, h⟩ => by
  rw [← hM] at hr
  exact ⟨⟨ao, c, hv, hr.at (M' := []) hw (by simp)⟩, PL.at hw hM h⟩
 | [], _ :: _, h => h.elim
 | _ :: _, [], h => h.elim
def Parts (w : World) (b : Nat) (vs : List Value) (ls : List (List UInt8)) : Prop := RdA w b 0 vs ∧ PL w vs ls
theorem Parts.at {C : Cx} {L : List Ent} {w : World} {b : Nat} {vs : List Value} {ls : List (List UInt8)} (hw : Hp C.w0 C.M L w) (hM : C.M = []) (h : Parts C.w0 b vs ls) (h0 : 0 < ls.length) : Parts w b vs ls :=
 ⟨RdA.of hw (h.1.mem (by simp [hM])) (by rw [h.2.len]; exact h0), h.2.at hw hM⟩
theorem lens_flat : ∀ ls : List (List UInt8), Lib.lens ls = ls.flatten.length
 | [] => rfl
 | l :: ls => by have := lens_flat ls; simp only [Lib.lens, List.map_cons, List.sum_cons, List.flatten_cons, List.length_append] at this ⊢; omega
theorem join_flat : ∀ ls : List (List UInt8), Lib.join ls [] = ls.flatten
 | [] => rfl
 | l :: ls => by rw [Lib.join_cons, Lib.joinTail]; simp
variable {P : Program} {ρ : Shelf.Ren}
theorem joinN (Lw : SlLaysJ.n14 P ρ) (b c : Nat) (vs : List Value) (ls : List (List UInt8)) (w : World) (hk : 1 ≤ ls.length) (hc : ls.length ≤ c) (hk2 : ls.length ≤ 1000) (hp : Parts w b vs ls) (hs : ls.flatten.length ≤ 17592186044416) :
    Calls P (ρ.f 14) #[.slice (some ⟨b, 0, none⟩) ls.length c, .slice none 0 0] w (Post w [] (JoinR ls.flatten)) := by
  obtain ⟨hA, hP⟩ := hp
  have hcell : ∀ j v, vs[j]? = some v → w.cell? ⟨b, j, none⟩ = some v := fun j v hj => by simpa using hA.2 j v hj
  by_cases h2 : 2 ≤ ls.length
  · refine (Any.bytes_Join_many Lw b 0 ls.length c vs ls (.slice none 0 0) [] w rfl h2 ⟨hP.len, fun i v hv => ?_, fun i v l hv hl => ?_⟩ hc ⟨none, 0, rfl, fun _ => rfl, fun a ha => by cases ha⟩ (by omega) (by rw [lens_flat, List.length_nil, Nat.zero_mul]; omega)).mono ?_
    · rw [Lib.add_plain2, Nat.zero_add]; exact hcell i v hv
    · obtain ⟨ao, c', rfl, hr⟩ := hP.get i v l hv hl
      exact hr.holds rfl
    · rintro e w' ⟨v', rfl, hf, hb⟩
      rw [join_flat] at hf
      exact join_post hf hb
  · match vs, ls, hP with
    | [v], [l], ⟨⟨ao, c0, hv, hr⟩, _⟩ =>
      subst hv
      have h0 := hcell 0 _ rfl
      by_cases hl : l.length = 0
      · have : l = [] := by simpa using hl
        subst this
        refine (Any.bytes_Join_one_empty Lw b 0 c ao c0 (.slice none 0 0) w h0).mono ?_
        rintro e w' ⟨rfl, rfl⟩
        exact ⟨_, [], rfl, .inl ⟨rfl, none, 0, rfl, rfl, fun _ => rfl⟩, BY (by simp) (by simp) (by simp)⟩
      · rcases hr with rfl | ⟨b', off, rfl, _, _, hcc⟩
        · simp at hl
        · refine (Any.bytes_Join_one Lw b 0 c ⟨b', off, none⟩ c0 l (.slice none 0 0) w h0 (fun i x hx => ?_) (by omega) (by simp at hs; omega)).mono ?_
          · rw [Lib.add_plain2]
            exact hcc i (U8 x) (by simp [cu8, hx])
          · rintro e w' ⟨v', rfl, hf, hb⟩
            have := join_post hf hb
            simpa using this
    | [], [], _ => simp at hk
    | _ :: _ :: _, [_], h => exact absurd h.len (by simp)
    | [], [_], h => exact h.elim
    | _, _ :: _ :: _, _ => simp at h2
end Go.Sx
namespace Go.Proofs.YtkdpdgpphpngeaaDoor
open Go Go.Sx
attribute [local irreducible] mid zr8 zr32 rotr wordL spreadL comprL cpN adN spN constL initL padL stN outN hashL sumG
def rhoJ : Shelf.Ren := ⟨fun x => if x = 14 then 174 else if x = 15 then 190 else x, fun x => if x = 0 then 0 else if x = 3 then 3 else if x = 4 then 4 else if x = 9 then 9 else if x = 20 then 20 else if x = 22 then 43 else if x = 26 then 230 else if x = 5 then 5 else x, fun x => x⟩
set_option maxRecDepth 1000000 in
theorem joinLays : SlLaysJ.n14 Tryd.prog rhoJ where
 mixed := BP
 f14 := by kernel_rfl
 f15 := by kernel_rfl
 t0 := by kernel_rfl
 a0 := fun _ => by kernel_rfl
 z0 := fun _ => by kernel_rfl
 v0 := fun _ => by kernel_rfl
 t3 := by kernel_rfl
 a3 := fun _ => by kernel_rfl
 z3 := fun _ => by kernel_rfl
 v3 := fun _ => by kernel_rfl
 t4 := by kernel_rfl
 a4 := fun _ => by kernel_rfl
 z4 := fun _ => by kernel_rfl
 v4 := fun _ => by kernel_rfl
 t9 := by kernel_rfl
 a9 := fun _ => by kernel_rfl
 z9 := fun _ => by kernel_rfl
 v9 := fun _ => by kernel_rfl
 t20 := by kernel_rfl
 a20 := fun _ => by kernel_rfl
 z20 := fun _ => by kernel_rfl
 v20 := fun _ => by kernel_rfl
 t22 := by kernel_rfl
 a22 := fun _ => by kernel_rfl
 z22 := fun _ => by kernel_rfl
 v22 := fun _ => by kernel_rfl
 t26 := by kernel_rfl
 a26 := fun _ => by kernel_rfl
 z26 := fun _ => by kernel_rfl
 v26 := fun _ => by kernel_rfl
 t5 := by kernel_rfl
 z5 := fun _ => by kernel_rfl
 i5 := by kernel_rfl
theorem join_c (b c : Nat) (vs : List Value) (ls : List (List UInt8)) (w : World) (hk : 1 ≤ ls.length) (hc : ls.length ≤ c) (hk2 : ls.length ≤ 1000) (hp : Parts w b vs ls) (hs : ls.flatten.length ≤ 17592186044416) : Calls Tryd.prog 174 #[.slice (some ⟨b, 0, none⟩) ls.length c, .slice none 0 0] w (Post w [] (JoinR ls.flatten)) :=
 joinN joinLays b c vs ls w hk hc hk2 hp hs
theorem of_c (b c : Nat) (vs : List Value) (ls : List (List UInt8)) (w : World) (hk : 1 ≤ ls.length) (hc : ls.length ≤ c) (hk2 : ls.length ≤ 1000) (hp : Parts w b vs ls) (hs : ls.flatten.length ≤ 1000000000) (hG : GLs w) : Calls Tryd.prog 172 #[.slice (some ⟨b, 0, none⟩) ls.length c] w (Post w [] (fun v L => v = .agg (cu8 (sumG constL initL ls.flatten)).toArray ∧ L = [])) := by
 refine enter w [] 6 [] [.slice (some ⟨b, 0, none⟩) ls.length c] Tryd.func172 rfl rfl (by simp) (BY (by simp) (by simp) (by simp)) ?_
 show JC _ _ _ [(0, .slice (some ⟨b, 0, none⟩) ls.length c)] _
 refine AG (AB (A2 (BN _ (cu8 (zr8 32)) Tryd.zeroValue54 (by kernel_rfl)) rfl ?_))
 rintro v1 L1 ⟨nb1, hnb1, rfl, rfl⟩
 show JL _ _ _ _ ((2, Ptr nb1 0) :: _) [⟨nb1, cu8 (zr8 32), 54, (0, 0)⟩]
 refine AL (AC (AG (AB (AA _ (AE rfl) rfl ?_))))
 refine A2 (B3 174 [.slice (some ⟨b, 0, none⟩) ls.length c, .slice none 0 0] _ (AZ _ Tryd.call174 rfl) (fun w1 hw1 => join_c b c vs ls w1 hk hc hk2 (hp.at hw1 rfl (by omega)) (by omega))) rfl ?_
 rintro v1 L1 ⟨_, (⟨he1, ao1, ca1, rfl, rfl, hn1⟩ | ⟨hp1, nb2, sp1, cp1, tj1, fj1, rfl, rfl, hl1, hm1⟩), rfl⟩
 ·
  show JL _ _ _ _ ((4, .slice ao1 0 ca1) :: _) [_]
  refine AY (AX 177 [.slice ao1 0 ca1] (.agg (cu8 (sumG constL initL ([] : List UInt8))).toArray) (AZ _ Tryd.call177 rfl) (fun w1 hw1 => sum_c ao1 0 ca1 ([] : List UInt8) w1 rfl hn1 (by omega) RdB.nil (hG.at hw1))) rfl ?_
  show JL _ _ _ _ ((5, .agg (cu8 (sumG constL initL ([] : List UInt8))).toArray) :: _) [_]
  refine AY (AU 0 nb1 32 (cu8 (zr8 32)) 54 (cu8 (sumG constL initL ([] : List UInt8))) rfl rfl rfl D7 (DY (EJ _ _ _)) (by first | exact CF | exact EI | exact EE | (simp [cu8, cu32, cu64, Value.oneCell']; done)) (by simp [(AN 32)]) (A0 (by simp [(AN 32), (EJ _ _ _)]))) rfl ?_
  show JL _ _ _ _ _ [⟨nb1, cu8 (sumG constL initL ([] : List UInt8)), 54, (0, 0)⟩]
  refine AL (AC (BH (BI (.agg (cu8 (sumG constL initL ([] : List UInt8))).toArray) (res1 Tryd.results172 (CQ rfl (A5 Tryd.isAgg54 D7 (DY (EJ _ _ _)) (AT 0 rfl (AJ _))))) fun w1 hw1 => ?_)))
  refine ⟨_, [], rfl, ⟨?_, rfl⟩, hw1.sub (by simp) (by simp)⟩
  first | rfl | rw [he1]
 ·
  show JL _ _ _ _ ((4, Slc nb2 0 ls.flatten.length cp1) :: _) [_, ⟨nb2, cu8 ls.flatten ++ sp1, tj1, fj1⟩]
  refine AY (AX 177 [Slc nb2 0 ls.flatten.length cp1] (.agg (cu8 (sumG constL initL ls.flatten)).toArray) (AZ _ Tryd.call177 rfl) (fun w1 hw1 => sum_c (some ⟨nb2, 0, none⟩) ls.flatten.length cp1 ls.flatten w1 (rfl : ls.flatten.length = _) (fun h => by cases h) (by omega) (RdB.of hw1 (AT 1 rfl (A8 (AJ _))) (by simp)) (hG.at hw1))) rfl ?_
  show JL _ _ _ _ ((5, .agg (cu8 (sumG constL initL ls.flatten)).toArray) :: _) [_, _]
  refine AY (AU 0 nb1 32 (cu8 (zr8 32)) 54 (cu8 (sumG constL initL ls.flatten)) rfl rfl rfl D7 (DY (EJ _ _ _)) (by first | exact CF | exact EI | exact EE | (simp [cu8, cu32, cu64, Value.oneCell']; done)) (by simp [(AN 32)]) (A0 (by simp [(AN 32), (EJ _ _ _)]))) rfl ?_
  show JL _ _ _ _ _ [⟨nb1, cu8 (sumG constL initL ls.flatten), 54, (0, 0)⟩, _]
  refine AL (AC (BH (BI (.agg (cu8 (sumG constL initL ls.flatten)).toArray) (res1 Tryd.results172 (CQ rfl (A5 Tryd.isAgg54 D7 (DY (EJ _ _ _)) (AT 0 rfl (AJ _))))) fun w1 hw1 => ?_)))
  refine ⟨_, [], rfl, ⟨?_, rfl⟩, hw1.sub (by simp) (by simp)⟩
  first | rfl | rw [he1]
end Go.Proofs.YtkdpdgpphpngeaaDoor
namespace Go.Proofs.YtkdpdgpphpngeaaDoor
open Go Go.Sx
def blkL (b : List UInt8) : List UInt8 := if 64 < b.length then spl (zr8 64) 0 (sumG constL initL b) else spl (zr8 64) 0 b
theorem FS (b : List UInt8) : (blkL b).length = 64 := by
  unfold blkL
  split
  · rw [spl_len (by rw [EJ, AN]; omega), AN]
  · rw [spl_len (by rw [AN]; omega), AN]
def xbN (b : List UInt8) (x : UInt8) : Nat → List UInt8
 | 0 => b
 | k + 1 => (xbN b x k).set k (g8 (xbN b x k) k ^^^ x)
theorem xbN_len (b : List UInt8) (x : UInt8) : ∀ k, (xbN b x k).length = b.length
 | 0 => rfl
 | k + 1 => by rw [xbN, List.length_set, xbN_len b x k]
theorem xbN_len64 {b : List UInt8} (x : UInt8) (k : Nat) (h : b.length = 64) : (xbN b x k).length = 64 := (xbN_len b x k).trans h
def macL (b t : List UInt8) : List UInt8 := sumG constL initL (xbN (blkL b) 92 64 ++ sumG constL initL (xbN (blkL b) 54 64 ++ t))
theorem FN (b t : List UInt8) : (macL b t).length = 32 := EJ _ _ _
def orN (x y : List UInt8) : Nat → UInt8
 | 0 => 0
 | i + 1 => orN x y i ||| (g8 x i ^^^ g8 y i)
theorem or_zero {a b : UInt8} : (a ||| b = 0) ↔ a = 0 ∧ b = 0 := by
  constructor
  · intro h
    have h2 : a.toBitVec ||| b.toBitVec = 0 := by
      have := congrArg UInt8.toBitVec h
      simpa using this
    have ha : a.toBitVec = 0 := by
      apply BitVec.eq_of_getElem_eq
      intro i hi
      have := congrArg (fun v => v[i]) h2
      simp at this
      simpa using this.1
    have hb : b.toBitVec = 0 := by
      apply BitVec.eq_of_getElem_eq
      intro i hi
      have := congrArg (fun v => v[i]) h2
      simp at this
      simpa using this.2
    exact ⟨UInt8.toBitVec_inj.1 ha, UInt8.toBitVec_inj.1 hb⟩
  · rintro ⟨rfl, rfl⟩; rfl
theorem xor_zero {a b : UInt8} : (a ^^^ b = 0) ↔ a = b := UInt8.xor_eq_zero_iff
theorem orN_zero (x y : List UInt8) : ∀ n, (orN x y n = 0) ↔ ∀ i, i < n → g8 x i = g8 y i
  | 0 => by simp [orN]
  | n + 1 => by
    rw [orN, or_zero, xor_zero, orN_zero x y n]
    constructor
    · rintro ⟨h1, h2⟩ i hi
      by_cases h : i = n
      · subst h; exact h2
      · exact h1 i (by omega)
    · intro h; exact ⟨fun i hi => h i (by omega), h n (by omega)⟩
theorem orN_same {x y : List UInt8} {n : Nat} (hx : x.length = n) (hy : y.length = n) : decide (orN x y n = 0) = decide (x = y) := by
  have : (orN x y n = 0) ↔ x = y := by
    rw [orN_zero]
    constructor
    · intro h; exact ext8 (by rw [hx, hy]) fun j hj => h j (by omega)
    · rintro rfl _ _; rfl
  by_cases h : x = y
  · rw [decide_eq_true h, decide_eq_true (this.2 h)]
  · rw [decide_eq_false h, decide_eq_false (fun h2 => h (this.1 h2))]
def tktN (k ni ns : Nat) : Nat := if k = 3 then 25 else 18 + 4*ni + 56*ns
theorem tktT_len {pv ep : UInt64} {k : Nat} {l : List UInt64} {ls : List SealR} {bl : UInt64} {ni ns : Nat} (hl : l.length = ni) (hls : ls.length = ns) : (tktT pv ep k l ls bl).length = tktN k ni ns := by
  unfold tktT tktN
  split
  · simp only [List.length_append, EA]
  · simp only [List.length_append, EA, idxT_len, selT_len, hl, hls]
def tkG (key : List UInt8) (pv ep : UInt64) (k : Nat) (l : List UInt64) (ls : List SealR) (bl : UInt64) : List UInt8 := mid (macL key (tktT pv ep k l ls bl)) 0 16
theorem tkG_len (key : List UInt8) (pv ep : UInt64) (k : Nat) (l : List UInt64) (ls : List SealR) (bl : UInt64) : (tkG key pv ep k l ls bl).length = 16 := FE (by rw [FN]; omega)
theorem tkG_of (key : List UInt8) (pv ep : UInt64) (k : Nat) (l : List UInt64) (ls : List SealR) (bl : UInt64) : mid (macL key [tktT pv ep k l ls bl].flatten) 0 16 = tkG key pv ep k l ls bl := by
 unfold tkG; simp
theorem chk_tk (key : List UInt8) (pv ep : UInt64) (k : Nat) (l : List UInt64) (ls : List SealR) (bl : UInt64) {tg : List UInt8} (ht : tg.length = 16) :
  (decide (tg = macL key [tktT pv ep k l ls bl].flatten) || decide (tg = mid (macL key [tktT pv ep k l ls bl].flatten) 0 16)) = decide (tg = tkG key pv ep k l ls bl) := by
 rw [tkG_of, decide_eq_false, Bool.false_or]
 intro h
 have := congrArg List.length h
 rw [FN, ht] at this
 omega
section
variable {C : Cx} {F : Frm} {L : List Ent}
theorem one_rows : ∀ (ls : List SealR), ∀ v ∈ ls.flatMap sealC, v.oneCell' = true := fun ls v hv => by
 obtain ⟨z, _, hz⟩ := List.mem_flatMap.1 hv
 exact one_seal z v hz
theorem Step_cloneS {x y : Operand} {ty : TypeId} (t e bytes : Nat) (zv : Value) (m : List Bool) (nb : Nat) (ls : List SealR) (ao : Option Addr) (k c : Nat)
  (hu : C.P.underlying t = some (.slice e)) (hi : (C.P.info? e).map (fun i => (i.zero, i.size, i.bytes)) = some (some zv, 49, bytes)) (hzs : zv.cells.size = 49)
  (hx : ev F x = some (Slc nb 0 0 0)) (ht : take? m L = [⟨nb, [], e, (0, 0)⟩]) (hy : ev F y = some (.slice ao k c)) (hl : ls.length = k) (hm : SrcAt C L ao (ls.flatMap sealC)) (hmax : k * bytes ≤ 140737488355328) (hmax' : k ≤ maxLen) :
  Step C F L (.call { callee := .builtin .append, args := #[x, y], argTypes := #[t, t] }) ty fun v' L' => ∃ g sp cap, (C.w0.heap.size ≤ g ∨ g ∈ C.M) ∧ v' = Slc g 0 k cap ∧ L' = rest? m L ++ [⟨g, ls.flatMap sealC ++ sp, e, (0, 0)⟩] ∧ sp.length = cap * 49 - k * 49 ∧ k ≤ cap ∧ cap ≤ maxLen := by
 have h := Step_append (C := C) (F := F) (L := L) (x := x) (y := y) (ty := ty) t e 49 bytes zv m (Slc nb 0 0 0) 0 [] (ls.flatMap sealC) ao k c hu hi hzs (by decide) hx (.inr ⟨nb, [], 0, rfl, ht, rfl, rfl, Nat.le_refl _, Nat.zero_le _⟩) hy (by rw [rows_len, hl]) hm (one_rows ls) (by rw [Nat.zero_add]; exact hmax) (by omega)
 intro a w ha hw d pos aft g Kk Q hq
 refine h a w ha hw d pos aft g Kk Q ?_
 rintro v' L' w' ⟨g, sp, cap, h1, h2, h3, h4, h5, h6, h7⟩ hw'
 rw [List.nil_append] at h3 h4 h5
 rw [Nat.zero_add] at h2 h4 h6
 refine hq v' L' w' ⟨g, sp, cap, h1, h2, h3, ?_, h6, h7⟩ hw'
 rw [List.length_append, h4] at h5
 omega
end
end Go.Proofs.YtkdpdgpphpngeaaDoor
namespace Go.Proofs.YtkdpdgpphpngeaaDoor
open Go Go.Sx Go.RowKit
open Go.ChangeShapes Go.WideShapes
section
variable {H : Type} {enc : TypeId × Value → H} {P : Program} {w : World} {base : Nat} {spare : Nat → Bool} {held : Bool} {sz : Bool} {t : TypeId} {cs : List Value}
end
theorem RightO_cases {kd : Int} {l : List UInt64} {ls : List SealR} {bl : UInt64} (h : RightO kd l ls bl = true) :
    (kd = 1 ∧ 1 ≤ l.length ∧ ls.length = l.length) ∨ (kd = 2 ∧ 1 ≤ l.length ∧ ls.length = 0) ∨ (kd = 3 ∧ l.length = 0 ∧ ls.length = 0) := by
  unfold RightO at h
  split at h
  · rename_i hk
    simp only [Bool.and_eq_true, decide_eq_true_eq] at h
    have := h.2.1.1
    exact .inl ⟨hk, by omega, h.2.2.1⟩
  · split at h
    · rename_i hk
      simp only [Bool.and_eq_true, decide_eq_true_eq] at h
      have := h.2.1.1
      exact .inr (.inl ⟨hk, by omega, h.2.2⟩)
    · split at h
      · rename_i hk
        simp only [Bool.and_eq_true, decide_eq_true_eq] at h
        exact .inr (.inr ⟨hk, by omega, by omega⟩)
      · exact absurd h (by decide)
end Go.Proofs.YtkdpdgpphpngeaaDoor
namespace Go.Proofs.YtkdpdgpphpngeaaDoor
open Go Go.Sx
def ySeal (z : List UInt8) : SealR :=
 if h : 56 ≤ z.length then ⟨valK z 8, mid (z.drop 8) 0 32, mid ((z.drop 8).drop 32) 0 16, FE (by rw [List.length_drop]; omega), FE (by rw [List.length_drop, List.length_drop]; omega)⟩
 else ⟨0, zr8 32, zr8 16, AN 32, AN 16⟩
def z3T (z : List UInt8) : List UInt8 := ((z.drop 8).drop 8).drop 1
def kdT (z : List UInt8) : Nat := (valK ((z.drop 8).drop 8) 1).toNat
def nnT (z : List UInt8) : Nat := (valK (z3T z) 1).toNat + 1
def zlT (z : List UInt8) : List UInt8 := (z3T z).drop 1
def ixT (zl : List UInt8) : Nat → List UInt64
 | 0 => []
 | i + 1 => ixT zl i ++ [valK (zl.drop (4*i)) 4]
def seT (zs : List UInt8) : Nat → List SealR
 | 0 => []
 | j + 1 => seT zs j ++ [ySeal (zs.drop (56*j))]
def nsT (z : List UInt8) : Nat := if kdT z = 1 then nnT z else 0
def zsT (z : List UInt8) : List UInt8 := (zlT z).drop (4 * nnT z)
def lT (z : List UInt8) : List UInt64 := if kdT z = 3 then [] else ixT (zlT z) (nnT z)
def lsT (z : List UInt8) : List SealR := if kdT z = 1 then seT (zsT z) (nnT z) else []
def blT (z : List UInt8) : UInt64 := if kdT z = 3 then valK (z3T z) 8 else 0
def LenT (z : List UInt8) : Prop := 17 ≤ z.length ∧ ((kdT z = 3 ∧ 41 ≤ z.length) ∨ ((kdT z = 1 ∨ kdT z = 2) ∧ 18 ≤ z.length ∧ 34 + 4 * nnT z + 56 * nsT z ≤ z.length))
instance (z : List UInt8) : Decidable (LenT z) := by unfold LenT; infer_instance
def OkT (z : List UInt8) : Prop := LenT z ∧ mayN (valK z 8) (valK (z.drop 8) 8) (kdT z : Int) (lT z) (lsT z) (blT z) = 0
instance (z : List UInt8) : Decidable (OkT z) := by unfold OkT; infer_instance
theorem mayN_kd {pv ep : UInt64} {kd : Int} {l : List UInt64} {ls : List SealR} {bl : UInt64} (h : kd ≠ 1 ∧ kd ≠ 2 ∧ kd ≠ 3) : mayN pv ep kd l ls bl = 2 := by
  have hR : ¬ RightO kd l ls bl = true := fun e => by
    rcases RightO_cases e with h1 | h1 | h1
    · exact h.1 h1.1
    · exact h.2.1 h1.1
    · exact h.2.2 h1.1
  unfold mayN; rw [if_neg hR]
theorem bnotT {b : Bool} (h : b = true) : (!b) = false := by rw [h]; rfl
theorem bnotF {b : Bool} (h : b = false) : (!b) = true := by rw [h]; rfl
def eQ (z0 : List UInt8) (p : Nat) : Nat := if p ≤ z0.length then 0 else 2
def vQ (z0 : List UInt8) (p s : Nat) : UInt64 := if p + s ≤ z0.length then valK (z0.drop p) s else 0
def tQ (z0 : List UInt8) (p s : Nat) : List UInt8 := if p + s ≤ z0.length then mid (z0.drop p) 0 s else []
def bQ (z0 : List UInt8) (p s : Nat) : List UInt8 := if p + s ≤ z0.length then mid (z0.drop p) 0 s else zr8 s
theorem BJ (z0 : List UInt8) (p s : Nat) : (bQ z0 p s).length = s := by
  unfold bQ
  by_cases h : p + s ≤ z0.length
  · rw [if_pos h]; exact FE (by rw [List.length_drop]; omega)
  · rw [if_neg h]; exact AN s
theorem bQ_neg {z0 : List UInt8} {p s : Nat} (h : ¬ p + s ≤ z0.length) : bQ z0 p s = zr8 s := if_neg h
theorem vQ_lt1 (z0 : List UInt8) (p : Nat) : (vQ z0 p 1).toNat < 256 := by
  unfold vQ
  by_cases h : p + 1 ≤ z0.length
  · rw [if_pos h, valK_one]
    have := (g8 (z0.drop p) 0).toNat_lt
    simpa using this
  · rw [if_neg h]; decide
def sQ (z0 : List UInt8) (p : Nat) : SealR := ⟨vQ z0 p 8, bQ z0 (p + 8) 32, bQ z0 (p + 40) 16, BJ _ _ _, BJ _ _ _⟩
theorem sQ_eq (z0 : List UInt8) (p : Nat) (h1 : (bQ z0 (p + 8) 32).length = 32) (h2 : (bQ z0 (p + 40) 16).length = 16) : SealR.mk (vQ z0 p 8) (bQ z0 (p + 8) 32) (bQ z0 (p + 40) 16) h1 h2 = sQ z0 p := rfl
def ixQ (z0 : List UInt8) (p : Nat) : Nat → List UInt64
 | 0 => []
 | i + 1 => ixQ z0 p i ++ [vQ z0 (p + 4*i) 4]
def seQ (z0 : List UInt8) (p : Nat) : Nat → List SealR
 | 0 => []
 | j + 1 => seQ z0 p j ++ [sQ z0 (p + 56*j)]
theorem ixQ_succ (z0 : List UInt8) (p i : Nat) : ixQ z0 p (i + 1) = ixQ z0 p i ++ [vQ z0 (p + 4*i) 4] := rfl
theorem ixQ_one (z0 : List UInt8) (p : Nat) : ixQ z0 p 1 = [vQ z0 p 4] := rfl
theorem seQ_succ (z0 : List UInt8) (p i : Nat) : seQ z0 p (i + 1) = seQ z0 p i ++ [sQ z0 (p + 56*i)] := rfl
theorem seQ_one (z0 : List UInt8) (p : Nat) : seQ z0 p 1 = [sQ z0 p] := rfl
theorem FF (z0 : List UInt8) (p : Nat) : ∀ i, (ixQ z0 p i).length = i
 | 0 => rfl
 | i + 1 => by unfold ixQ; rw [List.length_append, FF z0 p i]; rfl
theorem seQ_len (z0 : List UInt8) (p : Nat) : ∀ i, (seQ z0 p i).length = i
 | 0 => rfl
 | i + 1 => by unfold seQ; rw [List.length_append, seQ_len z0 p i]; rfl
theorem eQ_zero {z0 : List UInt8} {p : Nat} : eQ z0 p = 0 ↔ p ≤ z0.length := by
  unfold eQ
  by_cases h : p ≤ z0.length
  · rw [if_pos h]; exact ⟨fun _ => h, fun _ => rfl⟩
  · rw [if_neg h]; exact ⟨fun e => absurd e (by decide), fun e => absurd e h⟩
theorem F7 {z0 : List UInt8} {p : Nat} (h : p ≤ z0.length) : eQ z0 p = 0 := eQ_zero.2 h
theorem eQ_bad {z0 : List UInt8} {p : Nat} (h : ¬ p ≤ z0.length) : eQ z0 p = 2 := if_neg h
def Lq (z0 z : List UInt8) (p : Nat) : Prop := p ≤ z0.length → z = z0.drop p
theorem Lq.zero (z0 : List UInt8) : Lq z0 z0 0 := fun _ => rfl
theorem Lq.len {z0 z : List UInt8} {p : Nat} (h : Lq z0 z p) (hp : p ≤ z0.length) : z.length = z0.length - p := by rw [h hp, List.length_drop]
theorem NuOk_q {z0 z : List UInt8} {p s : Nat} (h : Lq z0 z p) (hs : Szd (s : Int)) : NuOk z (eQ z0 p) (s : Int) ↔ p + s ≤ z0.length := by
  unfold NuOk
  rw [eQ_zero]
  constructor
  · rintro ⟨h1, _, h3⟩; have := h.len h1; omega
  · intro h1; have := h.len (by omega); exact ⟨by omega, hs, by omega⟩
theorem TkOk_q {z0 z : List UInt8} {p s : Nat} (h : Lq z0 z p) : TkOk z (eQ z0 p) (s : Int) ↔ p + s ≤ z0.length := by
  unfold TkOk
  rw [eQ_zero]
  constructor
  · rintro ⟨h1, _, h3⟩; have := h.len h1; omega
  · intro h1; have := h.len (by omega); exact ⟨by omega, by omega, by omega⟩
theorem okE_q {z0 : List UInt8} {p s : Nat} {q : Prop} [Decidable q] (h : q ↔ p + s ≤ z0.length) : okE (eQ z0 p) (decide q) = eQ z0 (p + s) := by
  by_cases hq : q
  · rw [decide_eq_true hq, F7 (h.1 hq)]; rfl
  · rw [decide_eq_false hq, eQ_bad (fun e => hq (h.2 e))]
    show erN (eQ z0 p) 2 = 2
    unfold eQ
    by_cases hp : p ≤ z0.length
    · rw [if_pos hp]; rfl
    · rw [if_neg hp]; rfl
theorem nuV_q {z0 z : List UInt8} {p s : Nat} (h : Lq z0 z p) (hs : Szd (s : Int)) : nuV z (eQ z0 p) (s : Int) = vQ z0 p s := by
  unfold nuV vQ
  by_cases hq : p + s ≤ z0.length
  · rw [if_pos ((NuOk_q h hs).2 hq), if_pos hq, h (by omega)]; rfl
  · rw [if_neg (fun e => hq ((NuOk_q h hs).1 e)), if_neg hq]
theorem nuZ_q {z0 z : List UInt8} {p s : Nat} (h : Lq z0 z p) (hs : Szd (s : Int)) : Lq z0 (nuZ z (eQ z0 p) (s : Int)) (p + s) := fun hq => by
 unfold nuZ
 rw [if_pos ((NuOk_q h hs).2 hq), h (by omega), List.drop_drop]; rfl
theorem tkV_q {z0 z : List UInt8} {p s : Nat} (h : Lq z0 z p) : tkV z (eQ z0 p) (s : Int) = tQ z0 p s := by
  unfold tkV tQ
  by_cases hq : p + s ≤ z0.length
  · rw [if_pos ((TkOk_q h).2 hq), if_pos hq, h (by omega)]; rfl
  · rw [if_neg (fun e => hq ((TkOk_q h).1 e)), if_neg hq]
theorem tkZ_q {z0 z : List UInt8} {p s : Nat} (h : Lq z0 z p) : Lq z0 (tkZ z (eQ z0 p) (s : Int)) (p + s) := fun hq => by
 unfold tkZ
 rw [if_pos ((TkOk_q h).2 hq), h (by omega), List.drop_drop]; rfl
attribute [local irreducible] mid zr8 zr32 numK valK rvalK rotr wordL spreadL comprL cpN adN spN constL initL padL stN outN sumG putL
theorem pright_c (ai : Option Addr) (ni ci : Nat) (l : List UInt64)  (w : World) (hl : l.length = ni) (hnm : ni ≤ 2000000) (hnc : ni ≤ ci) (hcm : ci ≤ maxLen) (hv : RdV w ai (cu64 l))  : Calls Tryd.prog 85 #[I64 32, .slice ai ni ci] w (Post w [] (fun v L => v = .bool (decide (RightI l)) ∧ L = [])) := by
 have hmx : maxLen = 9223372036854775807 := rfl
 refine enter w [] 48 [] [I64 32, .slice ai ni ci] Tryd.func85 rfl rfl (by simp) (BY (by simp) (by simp) (by simp)) ?_
 show JC _ _ _ [(0, I64 32), (1, .slice ai ni ci)] _
 refine AG (AB (AA _ (AH rfl) rfl ?_))
 refine AL (AC (AG (AG (AB (AA _ (AE rfl) rfl ?_)))))
 refine AA (.bool (decide ((32:Int) < (0:Int)))) (AP rfl rfl fun _ => DC _ _) rfl ?_
 refine AA _ (AE rfl) rfl ?_
 refine AS 2 9 false _ _ rfl rfl (by decide) (AE rfl) rfl ?_
 refine AS 2 9 false _ (.bool (decide ((32:Int) < (32:Int)))) rfl rfl (by decide) (AP rfl rfl fun _ => EL _ _) rfl ?_
 refine AA _ (BF _ rfl (by decide) rfl) rfl ?_
 refine AA _ (AE rfl) rfl ?_
 refine AS 6 13 false _ _ rfl rfl (by decide) (AE rfl) rfl ?_
 refine AS 6 13 false _ (I64 ni) rfl rfl (by decide) (DS BR rfl) rfl ?_
 refine AS 6 13 false _ (.bool (decide (((ni:Int)) < (1:Int)))) rfl rfl (by decide) (AP rfl rfl fun _ => DC _ _) rfl ?_
 refine AA _ (BF _ rfl (by decide) rfl) rfl ?_
 refine AA _ (AE rfl) rfl ?_
 rcases Bool.eq_false_or_eq_true (decide (((ni:Int)) < (1:Int))) with hb1 | hb1
 ·
  have hp1 : ((ni:Int)) < (1:Int) := of_decide_eq_true hb1
  refine AF 11 18 false _ rfl rfl hb1 rfl ?_
  refine AF 11 18 false _ rfl rfl hb1 rfl ?_
  refine AF 11 18 false _ rfl rfl hb1 rfl ?_
  refine AA _ (BO _ rfl hb1 rfl) rfl ?_
  refine AL (AC (CM _ rfl rfl ?_))
  refine AG (AB (AA _ (AH rfl) rfl ?_))
  refine AL (AC (BH (A4 (BI (.bool false) (res1 Tryd.results85 (BU rfl)) fun w1 hw1 => ?_))))
  refine ⟨_, [], rfl, ⟨congrArg Value.bool (Eq.symm (decide_eq_false (fun h => ?_))), rfl⟩, hw1.sub (by simp) (by simp)⟩
  first | (have := h.1; omega) | (have := h.2.1; omega) | exact h.2.2 i (by omega) (.inl ‹_›) | exact h.2.2 i (by omega) (.inr ⟨by omega, ‹_›⟩) | exact h.2.2 i (by omega) (.inl ((shr32 _).1 ‹_›))
 ·
  have hp1 : ¬ (((ni:Int)) < (1:Int)) := of_decide_eq_false hb1
  refine AS 11 18 false _ _ rfl rfl hb1 (AE rfl) rfl ?_
  refine AS 11 18 false _ (I64 ni) rfl rfl hb1 (DS BR rfl) rfl ?_
  refine AS 11 18 false _ (.bool (decide ((256:Int) < ((ni:Int))))) rfl rfl hb1 (AP rfl rfl fun _ => EL _ _) rfl ?_
  refine AA _ (BF _ rfl hb1 rfl) rfl ?_
  refine AL (AC (CL (decide ((256:Int) < ((ni:Int)))) rfl (fun hb2 => ?_) (fun hb2 => ?_)))
  ·
   have hp2 : (256:Int) < ((ni:Int)) := of_decide_eq_true hb2
   refine AG (AB (AA _ (AH rfl) rfl ?_))
   refine AL (AC (BH (A4 (BI (.bool false) (res1 Tryd.results85 (BU rfl)) fun w1 hw1 => ?_))))
   refine ⟨_, [], rfl, ⟨congrArg Value.bool (Eq.symm (decide_eq_false (fun h => ?_))), rfl⟩, hw1.sub (by simp) (by simp)⟩
   first | (have := h.1; omega) | (have := h.2.1; omega) | exact h.2.2 i (by omega) (.inl ‹_›) | exact h.2.2 i (by omega) (.inr ⟨by omega, ‹_›⟩) | exact h.2.2 i (by omega) (.inl ((shr32 _).1 ‹_›))
  ·
   have hp2 : ¬ ((256:Int) < ((ni:Int))) := of_decide_eq_false hb2
   refine BL (AC (AG (AG (AB (AA _ (AE rfl) rfl ?_)))))
   refine AA (I64 ni) (DS BR rfl) rfl ?_
   refine AA _ (AE rfl) rfl ?_
   refine AL (AC (B4 (D4 (ι := Nat) (fun i => [(0, I64 32), (1, .slice ai ni ci), (23, .slice ai ni ci), (24, I64 ni), (25, I64 i)]) (fun i => []) (fun i => i ≤ ni ∧ ∀ k, k < i → ¬ IdxBad l k) (fun i => ni - i) 0 ⟨by omega, fun k hk => absurd hk (by omega)⟩ (Sub.all rfl) rfl ?_)))
   rintro i ⟨hx1, hx2⟩
   show JC _ _ _ [(0, I64 32), (1, .slice ai ni ci), (23, .slice ai ni ci), (24, I64 ni), (25, I64 i)] []
   refine AG (AB (AA (.bool (decide (((i:Int)) < ((ni:Int))))) (AP rfl rfl fun _ => DC _ _) rfl ?_))
   refine AL (AC (AG (CL (decide (((i:Int)) < ((ni:Int)))) rfl (fun hb3 => ?_) (fun hb3 => ?_))))
   ·
    have hp3 : ((i:Int)) < ((ni:Int)) := of_decide_eq_true hb3
    refine BL (AC (AG (B4 (AG (AB (AA _ (AE rfl) rfl ?_))))))
    obtain ⟨bz1, oz1, hz1, hm1⟩ := RdV.pos hv (by rw [FX, hl]; omega)
    refine AA (Ptr bz1 (i + oz1)) (C9 22 1 (i + oz1) BR A1 rfl hz1 rfl (by omega) (by omega) (by omega)) rfl ?_
    refine AA (U64 (g64 l i)) (AM rfl (A6 BD (CW (hm1.mem (by simp)) (Seg.get (g64_get (i := i) (by rw [hl]; omega))) (by omega)))) rfl ?_
    refine AA _ (AH rfl) rfl ?_
    refine AA _ (AH rfl) rfl ?_
    refine AL (AC (AG (AB (AA _ (AE rfl) rfl ?_))))
    refine AA _ (AE rfl) rfl ?_
    refine AA (U64 ((g64 l i) >>> (32:UInt64))) (AP rfl rfl fun _ => FJ (g64 l i) _ _ 32 (by decide) rfl) rfl ?_
    refine AA (.bool (decide (((g64 l i) >>> (32:UInt64)) ≠ (0:UInt64)))) (AP rfl rfl fun _ => EO ((g64 l i) >>> (32:UInt64)) (0:UInt64)) rfl ?_
    refine AA _ (AE rfl) rfl ?_
    rcases Bool.eq_false_or_eq_true (decide (((g64 l i) >>> (32:UInt64)) ≠ (0:UInt64))) with hb4 | hb4
    ·
     have hp4 : ((g64 l i) >>> (32:UInt64)) ≠ (0:UInt64) := of_decide_eq_true hb4
     refine AF 4 34 false _ rfl rfl hb4 rfl ?_
     refine AF 4 34 false _ rfl rfl hb4 rfl ?_
     refine AF 4 34 false _ rfl rfl hb4 rfl ?_
     refine JL_gskipU 7 37 true rfl rfl rfl ?_
     refine JL_gskipU 7 37 true rfl rfl rfl ?_
     refine JL_gskipU 7 37 true rfl rfl rfl ?_
     refine JL_gskipU 7 37 true rfl rfl rfl ?_
     refine JL_gskipU 7 37 true rfl rfl rfl ?_
     refine JL_gskipU 7 37 true rfl rfl rfl ?_
     refine JL_gskipU 7 37 true rfl rfl rfl ?_
     refine AF 4 34 false _ rfl rfl hb4 rfl ?_
     refine AA _ (BO _ rfl hb4 rfl) rfl ?_
     refine AL (AC (CM _ rfl rfl ?_))
     refine AG (AB (AA _ (AH rfl) rfl ?_))
     refine AL (AC (BH (DD (A4 (A4 (DD (A4 (BI (.bool false) (res1 Tryd.results85 (BU rfl)) fun w1 hw1 => ?_))))))))
     refine ⟨_, [], rfl, ⟨congrArg Value.bool (Eq.symm (decide_eq_false (fun h => ?_))), rfl⟩, hw1.sub (by simp) (by simp)⟩
     first | (have := h.1; omega) | (have := h.2.1; omega) | exact h.2.2 i (by omega) (.inl ‹_›) | exact h.2.2 i (by omega) (.inr ⟨by omega, ‹_›⟩) | exact h.2.2 i (by omega) (.inl ((shr32 _).1 ‹_›))
    ·
     have hp4 : ¬ (((g64 l i) >>> (32:UInt64)) ≠ (0:UInt64)) := of_decide_eq_false hb4
     refine AS 4 34 false _ _ rfl rfl hb4 (AE rfl) rfl ?_
     refine AS 4 34 false _ (.bool (decide ((0:Int) < ((i:Int))))) rfl rfl hb4 (AP rfl rfl fun _ => EL _ _) rfl ?_
     refine AS 4 34 false _ _ rfl rfl hb4 (AE rfl) rfl ?_
     rcases Bool.eq_false_or_eq_true (decide ((0:Int) < ((i:Int)))) with hb5 | hb5
     ·
      have hp5 : (0:Int) < ((i:Int)) := of_decide_eq_true hb5
      refine AS 7 37 true _ _ rfl rfl hb5 (AE rfl) rfl ?_
      refine AS 7 37 true _ _ rfl rfl hb5 (AE rfl) rfl ?_
      refine AS 7 37 true _ (I64 ((i:Int) - 1)) rfl rfl hb5 (AP rfl rfl fun _ => D3 _ _ ((i:Int) - 1) (by omega) (by omega)) rfl ?_
      refine AS 7 37 true _ (Ptr bz1 (i + oz1 - 1)) rfl rfl hb5 (C9 22 1 (i + oz1 - 1) BR A1 rfl hz1 rfl (by omega) (by omega) (by omega)) rfl ?_
      refine AS 7 37 true _ (U64 (g64 l (i - 1))) rfl rfl hb5 (AM rfl (A6 BD (CW (hm1.mem (by simp)) (Seg.get (g64_get (i := (i - 1)) (by rw [hl]; omega))) (by omega)))) rfl ?_
      refine AS 7 37 true _ _ rfl rfl hb5 (AE rfl) rfl ?_
      refine AS 7 37 true _ (.bool (decide ((g64 l i) ≤ (g64 l (i - 1))))) rfl rfl hb5 (AP rfl rfl fun _ => FR (g64 l (i - 1)) (g64 l i)) rfl ?_
      refine AS 4 34 false _ _ rfl rfl hb4 (BO _ rfl hb5 rfl) rfl ?_
      refine AA _ (BF _ rfl hb4 rfl) rfl ?_
      refine AL (AC (CL (decide ((g64 l i) ≤ (g64 l (i - 1)))) rfl (fun hb6 => ?_) (fun hb6 => ?_)))
      ·
       have hp6 : (g64 l i) ≤ (g64 l (i - 1)) := of_decide_eq_true hb6
       refine AG (AB (AA _ (AH rfl) rfl ?_))
       refine AL (AC (BH (DD (A4 (A4 (DD (A4 (BI (.bool false) (res1 Tryd.results85 (BU rfl)) fun w1 hw1 => ?_))))))))
       refine ⟨_, [], rfl, ⟨congrArg Value.bool (Eq.symm (decide_eq_false (fun h => ?_))), rfl⟩, hw1.sub (by simp) (by simp)⟩
       first | (have := h.1; omega) | (have := h.2.1; omega) | exact h.2.2 i (by omega) (.inl ‹_›) | exact h.2.2 i (by omega) (.inr ⟨by omega, ‹_›⟩) | exact h.2.2 i (by omega) (.inl ((shr32 _).1 ‹_›))
      ·
       have hp6 : ¬ ((g64 l i) ≤ (g64 l (i - 1))) := of_decide_eq_false hb6
       refine BL (B0 (AC (AB (AA (I64 ((i:Int) + 1)) (AP rfl rfl fun _ => DL _ _ ((i:Int) + 1) (by omega) (by omega)) rfl ?_))))
       refine AA _ (AE rfl) rfl ?_
       refine AL (DO (ER (i + 1) ⟨by omega, idx_step hx2 (fun hq => by rcases hq with hq | ⟨hq1, hq2⟩ <;> first | contradiction | omega | exact absurd ((shr32 _).2 hq) ‹_›)⟩ (by first | (simp; omega) | simp | (dsimp only; omega) | omega) (Sub.all rfl) rfl))
     ·
      have hp5 : ¬ ((0:Int) < ((i:Int))) := of_decide_eq_false hb5
      refine AF 7 37 true _ rfl rfl hb5 rfl ?_
      refine AF 7 37 true _ rfl rfl hb5 rfl ?_
      refine AF 7 37 true _ rfl rfl hb5 rfl ?_
      refine AF 7 37 true _ rfl rfl hb5 rfl ?_
      refine AF 7 37 true _ rfl rfl hb5 rfl ?_
      refine AF 7 37 true _ rfl rfl hb5 rfl ?_
      refine AF 7 37 true _ rfl rfl hb5 rfl ?_
      refine AS 4 34 false _ _ rfl rfl hb4 (BF _ rfl hb5 rfl) rfl ?_
      refine AA _ (BF _ rfl hb4 rfl) rfl ?_
      refine AL (AC (BZ _ rfl rfl ?_))
      refine BL (B0 (AC (AB (AA (I64 ((i:Int) + 1)) (AP rfl rfl fun _ => DL _ _ ((i:Int) + 1) (by omega) (by omega)) rfl ?_))))
      refine AA _ (AE rfl) rfl ?_
      refine AL (DO (ER (i + 1) ⟨by omega, idx_step hx2 (fun hq => by rcases hq with hq | ⟨hq1, hq2⟩ <;> first | contradiction | omega | exact absurd ((shr32 _).2 hq) ‹_›)⟩ (by first | (simp; omega) | simp | (dsimp only; omega) | omega) (Sub.all rfl) rfl))
   ·
    have hp3 : ¬ (((i:Int)) < ((ni:Int))) := of_decide_eq_false hb3
    refine DU (A9 (A9 (CR (AC (AG (AB (AA _ (AH rfl) rfl ?_)))))))
    refine AL (AC (BH (BI (.bool true) (res1 Tryd.results85 (BU rfl)) fun w1 hw1 => ?_)))
    have e1 : i = ni := by omega
    subst e1
    exact ⟨_, [], rfl, ⟨congrArg Value.bool (Eq.symm (decide_eq_true ⟨by omega, by omega, by rw [hl]; exact hx2⟩)), rfl⟩, hw1.sub (by simp) (by simp)⟩
theorem rpright_c (ai : Option Addr) (ni ci : Nat) (l : List UInt64)  (w : World) (hl : l.length = ni) (hnm : ni ≤ 2000000) (hnc : ni ≤ ci) (hcm : ci ≤ maxLen) (hv : RdV w ai (cu64 l))  : Calls Tryd.prog 79 #[I64 32, .slice ai ni ci] w (Post w [] (fun v L => v = .bool (decide (RightI l)) ∧ L = [])) := by
 have hmx : maxLen = 9223372036854775807 := rfl
 refine enter w [] 59 [] [I64 32, .slice ai ni ci] Tryd.func79 rfl rfl (by simp) (BY (by simp) (by simp) (by simp)) ?_
 show JC _ _ _ [(0, I64 32), (1, .slice ai ni ci)] _
 refine AG (AB (AA _ (AH rfl) rfl ?_))
 refine AL (AC (AG (AG (AB (AA _ (AE rfl) rfl ?_)))))
 refine AA (.bool (decide ((32:Int) < (0:Int)))) (AP rfl rfl fun _ => DC _ _) rfl ?_
 refine AA _ (AE rfl) rfl ?_
 refine AS 2 10 false _ _ rfl rfl (by decide) (AE rfl) rfl ?_
 refine AS 2 10 false _ (.bool (decide ((32:Int) < (32:Int)))) rfl rfl (by decide) (AP rfl rfl fun _ => EL _ _) rfl ?_
 refine AA _ (BF _ rfl (by decide) rfl) rfl ?_
 refine AA _ (AE rfl) rfl ?_
 refine AS 6 14 false _ _ rfl rfl (by decide) (AE rfl) rfl ?_
 refine AS 6 14 false _ (I64 ni) rfl rfl (by decide) (DS BR rfl) rfl ?_
 refine AS 6 14 false _ (.bool (decide (((ni:Int)) = (0:Int)))) rfl rfl (by decide) (AP rfl rfl fun _ => CA _ _) rfl ?_
 refine AA _ (BF _ rfl (by decide) rfl) rfl ?_
 refine AA _ (AE rfl) rfl ?_
 rcases Bool.eq_false_or_eq_true (decide (((ni:Int)) = (0:Int))) with hb1 | hb1
 ·
  have hp1 : ((ni:Int)) = (0:Int) := of_decide_eq_true hb1
  refine AF 11 19 false _ rfl rfl hb1 rfl ?_
  refine AF 11 19 false _ rfl rfl hb1 rfl ?_
  refine AF 11 19 false _ rfl rfl hb1 rfl ?_
  refine AA _ (BO _ rfl hb1 rfl) rfl ?_
  refine AL (AC (CM _ rfl rfl ?_))
  refine AG (AB (AA _ (AH rfl) rfl ?_))
  refine AL (AC (BH (A4 (BI (.bool false) (res1 Tryd.results79 (BU rfl)) fun w1 hw1 => ?_))))
  refine ⟨_, [], rfl, ⟨congrArg Value.bool (Eq.symm (decide_eq_false (fun h => ?_))), rfl⟩, hw1.sub (by simp) (by simp)⟩
  first | (have := h.1; omega) | (have := h.2.1; omega) | exact h.2.2 i (by omega) (.inl ‹_›) | exact h.2.2 i (by omega) (.inr ⟨by omega, ‹_›⟩) | exact h.2.2 i (by omega) (.inl ((shr32 _).1 ‹_›))
 ·
  have hp1 : ¬ (((ni:Int)) = (0:Int)) := of_decide_eq_false hb1
  refine AS 11 19 false _ _ rfl rfl hb1 (AE rfl) rfl ?_
  refine AS 11 19 false _ (I64 ni) rfl rfl hb1 (DS BR rfl) rfl ?_
  refine AS 11 19 false _ (.bool (decide ((256:Int) < ((ni:Int))))) rfl rfl hb1 (AP rfl rfl fun _ => EL _ _) rfl ?_
  refine AA _ (BF _ rfl hb1 rfl) rfl ?_
  refine AL (AC (CL (decide ((256:Int) < ((ni:Int)))) rfl (fun hb2 => ?_) (fun hb2 => ?_)))
  ·
   have hp2 : (256:Int) < ((ni:Int)) := of_decide_eq_true hb2
   refine AG (AB (AA _ (AH rfl) rfl ?_))
   refine AL (AC (BH (A4 (BI (.bool false) (res1 Tryd.results79 (BU rfl)) fun w1 hw1 => ?_))))
   refine ⟨_, [], rfl, ⟨congrArg Value.bool (Eq.symm (decide_eq_false (fun h => ?_))), rfl⟩, hw1.sub (by simp) (by simp)⟩
   first | (have := h.1; omega) | (have := h.2.1; omega) | exact h.2.2 i (by omega) (.inl ‹_›) | exact h.2.2 i (by omega) (.inr ⟨by omega, ‹_›⟩) | exact h.2.2 i (by omega) (.inl ((shr32 _).1 ‹_›))
  ·
   have hp2 : ¬ ((256:Int) < ((ni:Int))) := of_decide_eq_false hb2
   refine BL (AC (AG (AB (AA _ (AH rfl) rfl ?_))))
   refine AL (AC (AG (AG (AB (AA _ (AH rfl) rfl ?_)))))
   refine AL (AC (B4 (D4 (ι := Nat × UInt64) (fun ⟨j, y⟩ => [(0, I64 32), (1, .slice ai ni ci), (4, .bool false), (6, I64 j), (5, U64 y)]) (fun ⟨j, y⟩ => []) (fun ⟨j, y⟩ => j ≤ 32 ∧ y = UInt64.ofNat (2 ^ j)) (fun ⟨j, y⟩ => 32 - j) (0, 1) ⟨by omega, rfl⟩ (Sub.all rfl) rfl ?_)))
   rintro ⟨j, y⟩ ⟨hj1, hj2⟩
   show JC _ _ _ [(0, I64 32), (1, .slice ai ni ci), (4, .bool false), (6, I64 j), (5, U64 y)] []
   refine AG (AG (AB (AA _ (AE rfl) rfl ?_)))
   refine AA _ (AE rfl) rfl ?_
   refine AA (.bool (decide (((j:Int)) < (32:Int)))) (AP rfl rfl fun _ => DC _ _) rfl ?_
   refine AL (AC (CL (decide (((j:Int)) < (32:Int))) rfl (fun hb3 => ?_) (fun hb3 => ?_)))
   ·
    have hp3 : ((j:Int)) < (32:Int) := of_decide_eq_true hb3
    refine BL (AC (AG (B4 (AB (AA _ (AE rfl) rfl ?_)))))
    refine AA (U64 (y * (2:UInt64))) (AP rfl rfl fun _ => bin_mul_u64 y (2:UInt64)) rfl ?_
    refine AA _ (AH rfl) rfl ?_
    refine AL (B0 (AC (AB (AA _ (AE rfl) rfl ?_))))
    refine AA (I64 ((j:Int) + 1)) (AP rfl rfl fun _ => DL _ _ ((j:Int) + 1) (by omega) (by omega)) rfl ?_
    refine AA _ (AH rfl) rfl ?_
    refine AL (DO (ER (j + 1, y * 2) ⟨by omega, by rw [hj2]; exact pow2_step j⟩ (by first | (simp; omega) | simp | (dsimp only; omega) | omega) (Sub.all rfl) rfl))
   ·
    have hp3 : ¬ (((j:Int)) < (32:Int)) := of_decide_eq_false hb3
    refine DU (A9 (A9 (CR (AC (AG (AG ?_))))))
    have hj3 : j = 32 := by omega
    have hy : y = 4294967296 := by rw [hj2, hj3]; rfl
    subst hy
    skip
    refine AB (AA _ (AH rfl) rfl ?_)
    refine AL (AC (B4 (D4 (ι := Nat) (fun i => [(1, .slice ai ni ci), (5, U64 4294967296), (7, I64 i)]) (fun i => []) (fun i => i ≤ ni ∧ ∀ k, k < i → ¬ IdxBad l k) (fun i => ni - i) 0 ⟨by omega, fun k hk => absurd hk (by omega)⟩ (Sub.all rfl) rfl ?_)))
    rintro i ⟨hx1, hx2⟩
    show JC _ _ _ [(1, .slice ai ni ci), (5, U64 4294967296), (7, I64 i)] []
    refine AG (AG (AB (AA _ (AE rfl) rfl ?_)))
    refine AA _ (AE rfl) rfl ?_
    refine AA (I64 ni) (DS BR rfl) rfl ?_
    refine AA (.bool (decide (((i:Int)) < ((ni:Int))))) (AP rfl rfl fun _ => DC _ _) rfl ?_
    refine AL (AC (CL (decide (((i:Int)) < ((ni:Int)))) rfl (fun hb4 => ?_) (fun hb4 => ?_)))
    ·
     have hp4 : ((i:Int)) < ((ni:Int)) := of_decide_eq_true hb4
     refine BL (AC (AG (B4 (AG ?_))))
     rcases Bool.eq_false_or_eq_true (decide ((4294967296:UInt64) ≤ (g64 l i))) with hb5 | hb5
     ·
      have hp5 : (4294967296:UInt64) ≤ (g64 l i) := of_decide_eq_true hb5
      obtain ⟨bz1, oz1, hz1, hm1⟩ := RdV.pos hv (by rw [FX, hl]; omega)
      refine CH 59 1 [(0, .slice ai ni ci), (1, I64 i), (2, Ptr bz1 (i + oz1)), (3, U64 (g64 l i)), (4, U64 4294967296), (5, .bool (decide ((4294967296:UInt64) ≤ (g64 l i)))), (6, .bool (decide ((4294967296:UInt64) ≤ (g64 l i)))), (7, undef), (8, undef), (9, undef), (10, undef), (11, undef), (12, undef), (13, undef), (14, undef), (15, undef), (16, undef), (17, undef), (18, undef), (19, undef), (20, undef), (21, .bool true)] BP rfl (by decide +kernel) ?_
      refine C2 ⟨[], [0, 1, 2, 3, 4, 5, 6, 7, 8, 9, 10, 11, 12, 13, 14, 15, 16, 17, 18, 19, 20, 21], [], [0, 1, 2, 3, 4, 5, 6, 7, 8, 9, 10, 11, 12, 13, 14, 15, 16, 17, 18, 19, 20, 21], []⟩ rfl rfl (by decide +kernel) rfl ⟨BQ rfl rfl rfl, BQ rfl rfl rfl, ⟨_, rfl, AI rfl (C9 22 1 (i + oz1) BR A1 rfl hz1 rfl (by omega) (by omega) (by omega))⟩, ⟨_, rfl, AI rfl (AM rfl (A6 BD (CW (hm1.mem (by simp)) (Seg.get (g64_get (i := i) (by rw [hl]; omega))) (by omega))))⟩, BQ rfl rfl rfl, ⟨_, rfl, AI rfl (AP rfl rfl fun _ => FR (g64 l i) (4294967296:UInt64))⟩, BQ rfl rfl rfl, ⟨_, rfl, CV 6 43 false _ rfl rfl rfl hb5⟩, ⟨_, rfl, CV 6 43 false _ rfl rfl rfl hb5⟩, ⟨_, rfl, CV 6 43 false _ rfl rfl rfl hb5⟩, ⟨_, rfl, FY 9 46 true rfl rfl rfl⟩, ⟨_, rfl, FY 9 46 true rfl rfl rfl⟩, ⟨_, rfl, FY 9 46 true rfl rfl rfl⟩, ⟨_, rfl, FY 9 46 true rfl rfl rfl⟩, ⟨_, rfl, FY 9 46 true rfl rfl rfl⟩, ⟨_, rfl, FY 9 46 true rfl rfl rfl⟩, ⟨_, rfl, FY 9 46 true rfl rfl rfl⟩, ⟨_, rfl, FY 9 46 true rfl rfl rfl⟩, ⟨_, rfl, FY 9 46 true rfl rfl rfl⟩, ⟨_, rfl, FY 9 46 true rfl rfl rfl⟩, ⟨_, rfl, CV 6 43 false _ rfl rfl rfl hb5⟩, ⟨_, rfl, AI rfl (BO _ rfl hb5 rfl)⟩, trivial⟩ ?_
      refine CB (F' := [(37, .slice ai ni ci), (38, I64 i), (39, Ptr bz1 (i + oz1)), (40, U64 (g64 l i)), (41, U64 4294967296), (42, .bool (decide ((4294967296:UInt64) ≤ (g64 l i)))), (43, .bool (decide ((4294967296:UInt64) ≤ (g64 l i)))), (44, undef), (45, undef), (46, undef), (47, undef), (48, undef), (49, undef), (50, undef), (51, undef), (52, undef), (53, undef), (54, undef), (55, undef), (56, undef), (57, undef), (58, .bool true), (1, .slice ai ni ci), (5, U64 4294967296), (7, I64 i), (31, I64 i), (32, .slice ai ni ci), (33, I64 ni), (34, .bool (decide (((i:Int)) < ((ni:Int)))))]) (by kernel_rfl) ?_
      refine AC (CM _ rfl rfl ?_)
      refine AG (AB (AA _ (AH rfl) rfl ?_))
      refine AL (AC (BH (DD (A4 (A4 (DD (A4 (BI (.bool false) (res1 Tryd.results79 (BU rfl)) fun w1 hw1 => ?_))))))))
      refine ⟨_, [], rfl, ⟨congrArg Value.bool (Eq.symm (decide_eq_false (fun h => ?_))), rfl⟩, hw1.sub (by simp) (by simp)⟩
      first | (have := h.1; omega) | (have := h.2.1; omega) | exact h.2.2 i (by omega) (.inl ‹_›) | exact h.2.2 i (by omega) (.inr ⟨by omega, ‹_›⟩) | exact h.2.2 i (by omega) (.inl ((shr32 _).1 ‹_›))
     ·
      have hp5 : ¬ ((4294967296:UInt64) ≤ (g64 l i)) := of_decide_eq_false hb5
      rcases Bool.eq_false_or_eq_true (decide ((0:Int) < ((i:Int)))) with hb6 | hb6
      ·
       have hp6 : (0:Int) < ((i:Int)) := of_decide_eq_true hb6
       obtain ⟨bz2, oz2, hz2, hm2⟩ := RdV.pos hv (by rw [FX, hl]; omega)
       refine CH 59 1 [(0, .slice ai ni ci), (1, I64 i), (2, Ptr bz2 (i + oz2)), (3, U64 (g64 l i)), (4, U64 4294967296), (5, .bool (decide ((4294967296:UInt64) ≤ (g64 l i)))), (6, .bool (decide ((4294967296:UInt64) ≤ (g64 l i)))), (7, I64 i), (8, .bool (decide ((0:Int) < ((i:Int))))), (9, .bool (decide ((0:Int) < ((i:Int))))), (10, .slice ai ni ci), (11, I64 i), (12, Ptr bz2 (i + oz2)), (13, U64 (g64 l i)), (14, .slice ai ni ci), (15, I64 i), (16, I64 ((i:Int) - 1)), (17, Ptr bz2 (i + oz2 - 1)), (18, U64 (g64 l (i - 1))), (19, .bool (decide ((g64 l i) ≤ (g64 l (i - 1))))), (20, .bool (decide ((g64 l i) ≤ (g64 l (i - 1))))), (21, .bool (decide ((g64 l i) ≤ (g64 l (i - 1)))))] BP rfl (by decide +kernel) ?_
       refine C2 ⟨[], [0, 1, 2, 3, 4, 5, 6, 7, 8, 9, 10, 11, 12, 13, 14, 15, 16, 17, 18, 19, 20, 21], [], [0, 1, 2, 3, 4, 5, 6, 7, 8, 9, 10, 11, 12, 13, 14, 15, 16, 17, 18, 19, 20, 21], []⟩ rfl rfl (by decide +kernel) rfl ⟨BQ rfl rfl rfl, BQ rfl rfl rfl, ⟨_, rfl, AI rfl (C9 22 1 (i + oz2) BR A1 rfl hz2 rfl (by omega) (by omega) (by omega))⟩, ⟨_, rfl, AI rfl (AM rfl (A6 BD (CW (hm2.mem (by simp)) (Seg.get (g64_get (i := i) (by rw [hl]; omega))) (by omega))))⟩, BQ rfl rfl rfl, ⟨_, rfl, AI rfl (AP rfl rfl fun _ => FR (g64 l i) (4294967296:UInt64))⟩, BQ rfl rfl rfl, ⟨_, rfl, B1 6 43 false _ rfl rfl rfl hb5 (AE rfl)⟩, ⟨_, rfl, B1 6 43 false _ rfl rfl rfl hb5 (AP rfl rfl fun _ => EL _ _)⟩, ⟨_, rfl, B1 6 43 false _ rfl rfl rfl hb5 (AE rfl)⟩, ⟨_, rfl, B1 9 46 true _ rfl rfl rfl hb6 (AE rfl)⟩, ⟨_, rfl, B1 9 46 true _ rfl rfl rfl hb6 (AE rfl)⟩, ⟨_, rfl, B1 9 46 true _ rfl rfl rfl hb6 (C9 22 1 (i + oz2) BR A1 rfl hz2 rfl (by omega) (by omega) (by omega))⟩, ⟨_, rfl, B1 9 46 true _ rfl rfl rfl hb6 (AM rfl (A6 BD (CW (hm2.mem (by simp)) (Seg.get (g64_get (i := i) (by rw [hl]; omega))) (by omega))))⟩, ⟨_, rfl, B1 9 46 true _ rfl rfl rfl hb6 (AE rfl)⟩, ⟨_, rfl, B1 9 46 true _ rfl rfl rfl hb6 (AE rfl)⟩, ⟨_, rfl, B1 9 46 true _ rfl rfl rfl hb6 (AP rfl rfl fun _ => D3 _ _ ((i:Int) - 1) (by omega) (by omega))⟩, ⟨_, rfl, B1 9 46 true _ rfl rfl rfl hb6 (C9 22 1 (i + oz2 - 1) BR A1 rfl hz2 rfl (by omega) (by omega) (by omega))⟩, ⟨_, rfl, B1 9 46 true _ rfl rfl rfl hb6 (AM rfl (A6 BD (CW (hm2.mem (by simp)) (Seg.get (g64_get (i := (i - 1)) (by rw [hl]; omega))) (by omega))))⟩, ⟨_, rfl, B1 9 46 true _ rfl rfl rfl hb6 (AP rfl rfl fun _ => bin_leq_u64 (g64 l i) (g64 l (i - 1)))⟩, ⟨_, rfl, B1 6 43 false _ rfl rfl rfl hb5 (BO _ rfl hb6 rfl)⟩, ⟨_, rfl, AI rfl (BF _ rfl hb5 rfl)⟩, trivial⟩ ?_
       refine CB (F' := [(37, .slice ai ni ci), (38, I64 i), (39, Ptr bz2 (i + oz2)), (40, U64 (g64 l i)), (41, U64 4294967296), (42, .bool (decide ((4294967296:UInt64) ≤ (g64 l i)))), (43, .bool (decide ((4294967296:UInt64) ≤ (g64 l i)))), (44, I64 i), (45, .bool (decide ((0:Int) < ((i:Int))))), (46, .bool (decide ((0:Int) < ((i:Int))))), (47, .slice ai ni ci), (48, I64 i), (49, Ptr bz2 (i + oz2)), (50, U64 (g64 l i)), (51, .slice ai ni ci), (52, I64 i), (53, I64 ((i:Int) - 1)), (54, Ptr bz2 (i + oz2 - 1)), (55, U64 (g64 l (i - 1))), (56, .bool (decide ((g64 l i) ≤ (g64 l (i - 1))))), (57, .bool (decide ((g64 l i) ≤ (g64 l (i - 1))))), (58, .bool (decide ((g64 l i) ≤ (g64 l (i - 1))))), (1, .slice ai ni ci), (5, U64 4294967296), (7, I64 i), (31, I64 i), (32, .slice ai ni ci), (33, I64 ni), (34, .bool (decide (((i:Int)) < ((ni:Int)))))]) (by kernel_rfl) ?_
       refine AC (CL (decide ((g64 l i) ≤ (g64 l (i - 1)))) rfl (fun hb7 => ?_) (fun hb7 => ?_))
       ·
        have hp7 : (g64 l i) ≤ (g64 l (i - 1)) := of_decide_eq_true hb7
        refine AG (AB (AA _ (AH rfl) rfl ?_))
        refine AL (AC (BH (DD (A4 (A4 (DD (A4 (BI (.bool false) (res1 Tryd.results79 (BU rfl)) fun w1 hw1 => ?_))))))))
        refine ⟨_, [], rfl, ⟨congrArg Value.bool (Eq.symm (decide_eq_false (fun h => ?_))), rfl⟩, hw1.sub (by simp) (by simp)⟩
        first | (have := h.1; omega) | (have := h.2.1; omega) | exact h.2.2 i (by omega) (.inl ‹_›) | exact h.2.2 i (by omega) (.inr ⟨by omega, ‹_›⟩) | exact h.2.2 i (by omega) (.inl ((shr32 _).1 ‹_›))
       ·
        have hp7 : ¬ ((g64 l i) ≤ (g64 l (i - 1))) := of_decide_eq_false hb7
        refine BL (B0 (AC (AB (AA _ (AE rfl) rfl ?_))))
        refine AA (I64 ((i:Int) + 1)) (AP rfl rfl fun _ => DL _ _ ((i:Int) + 1) (by omega) (by omega)) rfl ?_
        refine AA _ (AH rfl) rfl ?_
        refine AL (DO (ER (i + 1) ⟨by omega, idx_step hx2 (fun hq => by rcases hq with hq | ⟨hq1, hq2⟩ <;> first | contradiction | omega | exact absurd ((shr32 _).2 hq) ‹_›)⟩ (by first | (simp; omega) | simp | (dsimp only; omega) | omega) (Sub.all rfl) rfl))
      ·
       have hp6 : ¬ ((0:Int) < ((i:Int))) := of_decide_eq_false hb6
       obtain ⟨bz3, oz3, hz3, hm3⟩ := RdV.pos hv (by rw [FX, hl]; omega)
       refine CH 59 1 [(0, .slice ai ni ci), (1, I64 i), (2, Ptr bz3 (i + oz3)), (3, U64 (g64 l i)), (4, U64 4294967296), (5, .bool (decide ((4294967296:UInt64) ≤ (g64 l i)))), (6, .bool (decide ((4294967296:UInt64) ≤ (g64 l i)))), (7, I64 i), (8, .bool (decide ((0:Int) < ((i:Int))))), (9, .bool (decide ((0:Int) < ((i:Int))))), (10, undef), (11, undef), (12, undef), (13, undef), (14, undef), (15, undef), (16, undef), (17, undef), (18, undef), (19, undef), (20, .bool false), (21, .bool false)] BP rfl (by decide +kernel) ?_
       refine C2 ⟨[], [0, 1, 2, 3, 4, 5, 6, 7, 8, 9, 10, 11, 12, 13, 14, 15, 16, 17, 18, 19, 20, 21], [], [0, 1, 2, 3, 4, 5, 6, 7, 8, 9, 10, 11, 12, 13, 14, 15, 16, 17, 18, 19, 20, 21], []⟩ rfl rfl (by decide +kernel) rfl ⟨BQ rfl rfl rfl, BQ rfl rfl rfl, ⟨_, rfl, AI rfl (C9 22 1 (i + oz3) BR A1 rfl hz3 rfl (by omega) (by omega) (by omega))⟩, ⟨_, rfl, AI rfl (AM rfl (A6 BD (CW (hm3.mem (by simp)) (Seg.get (g64_get (i := i) (by rw [hl]; omega))) (by omega))))⟩, BQ rfl rfl rfl, ⟨_, rfl, AI rfl (AP rfl rfl fun _ => FR (g64 l i) (4294967296:UInt64))⟩, BQ rfl rfl rfl, ⟨_, rfl, B1 6 43 false _ rfl rfl rfl hb5 (AE rfl)⟩, ⟨_, rfl, B1 6 43 false _ rfl rfl rfl hb5 (AP rfl rfl fun _ => EL _ _)⟩, ⟨_, rfl, B1 6 43 false _ rfl rfl rfl hb5 (AE rfl)⟩, ⟨_, rfl, CV 9 46 true _ rfl rfl rfl hb6⟩, ⟨_, rfl, CV 9 46 true _ rfl rfl rfl hb6⟩, ⟨_, rfl, CV 9 46 true _ rfl rfl rfl hb6⟩, ⟨_, rfl, CV 9 46 true _ rfl rfl rfl hb6⟩, ⟨_, rfl, CV 9 46 true _ rfl rfl rfl hb6⟩, ⟨_, rfl, CV 9 46 true _ rfl rfl rfl hb6⟩, ⟨_, rfl, CV 9 46 true _ rfl rfl rfl hb6⟩, ⟨_, rfl, CV 9 46 true _ rfl rfl rfl hb6⟩, ⟨_, rfl, CV 9 46 true _ rfl rfl rfl hb6⟩, ⟨_, rfl, CV 9 46 true _ rfl rfl rfl hb6⟩, ⟨_, rfl, B1 6 43 false _ rfl rfl rfl hb5 (BF _ rfl hb6 rfl)⟩, ⟨_, rfl, AI rfl (BF _ rfl hb5 rfl)⟩, trivial⟩ ?_
       refine CB (F' := [(37, .slice ai ni ci), (38, I64 i), (39, Ptr bz3 (i + oz3)), (40, U64 (g64 l i)), (41, U64 4294967296), (42, .bool (decide ((4294967296:UInt64) ≤ (g64 l i)))), (43, .bool (decide ((4294967296:UInt64) ≤ (g64 l i)))), (44, I64 i), (45, .bool (decide ((0:Int) < ((i:Int))))), (46, .bool (decide ((0:Int) < ((i:Int))))), (47, undef), (48, undef), (49, undef), (50, undef), (51, undef), (52, undef), (53, undef), (54, undef), (55, undef), (56, undef), (57, .bool false), (58, .bool false), (1, .slice ai ni ci), (5, U64 4294967296), (7, I64 i), (31, I64 i), (32, .slice ai ni ci), (33, I64 ni), (34, .bool (decide (((i:Int)) < ((ni:Int)))))]) (by kernel_rfl) ?_
       refine AC (BZ _ rfl rfl ?_)
       refine BL (B0 (AC (AB (AA _ (AE rfl) rfl ?_))))
       refine AA (I64 ((i:Int) + 1)) (AP rfl rfl fun _ => DL _ _ ((i:Int) + 1) (by omega) (by omega)) rfl ?_
       refine AA _ (AH rfl) rfl ?_
       refine AL (DO (ER (i + 1) ⟨by omega, idx_step hx2 (fun hq => by rcases hq with hq | ⟨hq1, hq2⟩ <;> first | contradiction | omega | exact absurd ((shr32 _).2 hq) ‹_›)⟩ (by first | (simp; omega) | simp | (dsimp only; omega) | omega) (Sub.all rfl) rfl))
    ·
     have hp4 : ¬ (((i:Int)) < ((ni:Int))) := of_decide_eq_false hb4
     refine DU (A9 (A9 (CR (AC (AG (AB (AA _ (AH rfl) rfl ?_)))))))
     refine AL (AC (BH (BI (.bool true) (res1 Tryd.results79 (BU rfl)) fun w1 hw1 => ?_)))
     have e1 : i = ni := by omega
     subst e1
     exact ⟨_, [], rfl, ⟨congrArg Value.bool (Eq.symm (decide_eq_true ⟨by omega, by omega, by rw [hl]; exact hx2⟩)), rfl⟩, hw1.sub (by simp) (by simp)⟩
attribute [local irreducible] RightB
theorem right_c (i e : UInt64) (w : World) : Calls Tryd.prog 133 #[U64 i, U64 e] w (Post w [] (fun v L => v = .bool (RightB i e) ∧ L = [])) := by
 refine enter w [] 15 [] [U64 i, U64 e] Tryd.func133 rfl rfl (by simp) (BY (by simp) (by simp) (by simp)) ?_
 show JC _ _ _ [(0, U64 i), (1, U64 e)] _
 refine AG (AB (AA _ (AH rfl) rfl ?_))
 refine AL (AC (AG (AB (AA _ (AE rfl) rfl ?_))))
 refine AA (.bool (decide (i < (4294967296:UInt64)))) (AP rfl rfl fun _ => bin_lss_u64 i (4294967296:UInt64)) rfl ?_
 refine AA _ (AE rfl) rfl ?_
 rcases Bool.eq_false_or_eq_true (decide (i < (4294967296:UInt64))) with hb1 | hb1
 ·
  have hp1 : i < (4294967296:UInt64) := of_decide_eq_true hb1
  refine AS 2 7 true _ _ rfl rfl hb1 (AE rfl) rfl ?_
  refine AS 2 7 true _ (.bool (decide ((1:UInt64) ≤ e))) rfl rfl hb1 (AP rfl rfl fun _ => FR e (1:UInt64)) rfl ?_
  refine AA _ (BO _ rfl hb1 rfl) rfl ?_
  refine AA _ (AE rfl) rfl ?_
  rcases Bool.eq_false_or_eq_true (decide ((1:UInt64) ≤ e)) with hb2 | hb2
  ·
   have hp2 : (1:UInt64) ≤ e := of_decide_eq_true hb2
   refine AS 6 11 true _ _ rfl rfl hb2 (AE rfl) rfl ?_
   refine AS 6 11 true _ (.bool (decide (e < (18446744073709551615:UInt64)))) rfl rfl hb2 (AP rfl rfl fun _ => bin_lss_u64 e (18446744073709551615:UInt64)) rfl ?_
   refine AA _ (BO _ rfl hb2 rfl) rfl ?_
   refine AA _ (AH rfl) rfl ?_
   refine AL (AC (BH (BI (.bool (decide (e < (18446744073709551615:UInt64)))) (res1 Tryd.results133 (BU rfl)) fun w1 hw1 => ?_)))
   refine ⟨_, [], rfl, ⟨congrArg Value.bool ?_, rfl⟩, hw1.sub (by simp) (by simp)⟩
   unfold RightB
   simp [*]
  ·
   have hp2 : ¬ ((1:UInt64) ≤ e) := of_decide_eq_false hb2
   refine AF 6 11 true _ rfl rfl hb2 rfl ?_
   refine AF 6 11 true _ rfl rfl hb2 rfl ?_
   refine AA _ (BF _ rfl hb2 rfl) rfl ?_
   refine AA _ (AH rfl) rfl ?_
   refine AL (AC (BH (BI (.bool false) (res1 Tryd.results133 (BU rfl)) fun w1 hw1 => ?_)))
   refine ⟨_, [], rfl, ⟨congrArg Value.bool ?_, rfl⟩, hw1.sub (by simp) (by simp)⟩
   unfold RightB
   simp [*]
 ·
  have hp1 : ¬ (i < (4294967296:UInt64)) := of_decide_eq_false hb1
  refine AF 2 7 true _ rfl rfl hb1 rfl ?_
  refine AF 2 7 true _ rfl rfl hb1 rfl ?_
  refine AA _ (BF _ rfl hb1 rfl) rfl ?_
  refine AA _ (AE rfl) rfl ?_
  refine AF 6 11 true _ rfl rfl rfl rfl ?_
  refine AF 6 11 true _ rfl rfl rfl rfl ?_
  refine AA _ (BF _ rfl rfl rfl) rfl ?_
  refine AA _ (AH rfl) rfl ?_
  refine AL (AC (BH (BI (.bool false) (res1 Tryd.results133 (BU rfl)) fun w1 hw1 => ?_)))
  refine ⟨_, [], rfl, ⟨congrArg Value.bool ?_, rfl⟩, hw1.sub (by simp) (by simp)⟩
  unfold RightB
  simp [*]
theorem rright_c (i e : UInt64) (w : World) : Calls Tryd.prog 111 #[U64 i, U64 e] w (Post w [] (fun v L => v = .bool (RightB i e) ∧ L = [])) := by
 refine enter w [] 15 [] [U64 i, U64 e] Tryd.func111 rfl rfl (by simp) (BY (by simp) (by simp) (by simp)) ?_
 show JC _ _ _ [(0, U64 i), (1, U64 e)] _
 refine AG (AB (AA _ (AH rfl) rfl ?_))
 refine AL (AC (AG (AB (AA _ (AE rfl) rfl ?_))))
 refine AA (.bool (decide (i ≤ (4294967295:UInt64)))) (AP rfl rfl fun _ => bin_leq_u64 i (4294967295:UInt64)) rfl ?_
 refine AA _ (AE rfl) rfl ?_
 rcases Bool.eq_false_or_eq_true (decide (i ≤ (4294967295:UInt64))) with hb1 | hb1
 ·
  have hp1 : i ≤ (4294967295:UInt64) := of_decide_eq_true hb1
  refine AS 2 7 true _ _ rfl rfl hb1 (AE rfl) rfl ?_
  refine AS 2 7 true _ (.bool (decide (e ≠ (0:UInt64)))) rfl rfl hb1 (AP rfl rfl fun _ => EO e (0:UInt64)) rfl ?_
  refine AA _ (BO _ rfl hb1 rfl) rfl ?_
  refine AA _ (AE rfl) rfl ?_
  rcases Bool.eq_false_or_eq_true (decide (e ≠ (0:UInt64))) with hb2 | hb2
  ·
   have hp2 : e ≠ (0:UInt64) := of_decide_eq_true hb2
   refine AS 6 11 true _ _ rfl rfl hb2 (AE rfl) rfl ?_
   refine AS 6 11 true _ (.bool (decide (e ≠ (18446744073709551615:UInt64)))) rfl rfl hb2 (AP rfl rfl fun _ => EO e (18446744073709551615:UInt64)) rfl ?_
   refine AA _ (BO _ rfl hb2 rfl) rfl ?_
   refine AA _ (AH rfl) rfl ?_
   refine AL (AC (BH (BI (.bool (decide (e ≠ (18446744073709551615:UInt64)))) (res1 Tryd.results111 (BU rfl)) fun w1 hw1 => ?_)))
   refine ⟨_, [], rfl, ⟨congrArg Value.bool ?_, rfl⟩, hw1.sub (by simp) (by simp)⟩
   rw [RightB_ref]
   simp [*]
  ·
   have hp2 : ¬ (e ≠ (0:UInt64)) := of_decide_eq_false hb2
   refine AF 6 11 true _ rfl rfl hb2 rfl ?_
   refine AF 6 11 true _ rfl rfl hb2 rfl ?_
   refine AA _ (BF _ rfl hb2 rfl) rfl ?_
   refine AA _ (AH rfl) rfl ?_
   refine AL (AC (BH (BI (.bool false) (res1 Tryd.results111 (BU rfl)) fun w1 hw1 => ?_)))
   refine ⟨_, [], rfl, ⟨congrArg Value.bool ?_, rfl⟩, hw1.sub (by simp) (by simp)⟩
   rw [RightB_ref]
   simp [*]
 ·
  have hp1 : ¬ (i ≤ (4294967295:UInt64)) := of_decide_eq_false hb1
  refine AF 2 7 true _ rfl rfl hb1 rfl ?_
  refine AF 2 7 true _ rfl rfl hb1 rfl ?_
  refine AA _ (BF _ rfl hb1 rfl) rfl ?_
  refine AA _ (AE rfl) rfl ?_
  refine AF 6 11 true _ rfl rfl rfl rfl ?_
  refine AF 6 11 true _ rfl rfl rfl rfl ?_
  refine AA _ (BF _ rfl rfl rfl) rfl ?_
  refine AA _ (AH rfl) rfl ?_
  refine AL (AC (BH (BI (.bool false) (res1 Tryd.results111 (BU rfl)) fun w1 hw1 => ?_)))
  refine ⟨_, [], rfl, ⟨congrArg Value.bool ?_, rfl⟩, hw1.sub (by simp) (by simp)⟩
  rw [RightB_ref]
  simp [*]
theorem odd_c (ob : Nat) (kd : Int) (ai : Option Addr) (ni ci : Nat) (l : List UInt64) (sa : Option Addr) (ns sc : Nat) (ls : List SealR) (bl : UInt64) (e : UInt64) (d t : List UInt8)  (w : World) (hd : d.length = 32) (ht : t.length = 16) (hpos : 0 < ns) (hls : ls.length = ns) (hnn : ns ≤ 2000000) (hnd : ns ≤ sc) (hcn : sc ≤ maxLen) (hs : RdV w sa (ls.flatMap sealC)) (hO : RdA w ob 0 [I64 (kd), .slice ai ni ci, .slice sa ns sc, U64 bl])  : Calls Tryd.prog 132 #[.agg ([U64 e] ++ cu8 d ++ cu8 t).toArray, Ptr ob 0] w (Post w [] (fun v L => v = .bool (oddB (headE ls) e) ∧ L = [])) := by
 have hmx : maxLen = 9223372036854775807 := rfl
 refine enter (P := Tryd.prog) (f := 132) (fn := Tryd.f132) w [] 18 [] [.agg ([U64 e] ++ cu8 d ++ cu8 t).toArray, Ptr ob 0] Tryd.func132 rfl rfl (by simp) (BY (by simp) (by simp) (by simp)) ?_
 show JC _ _ _ [(0, .agg ([U64 e] ++ cu8 d ++ cu8 t).toArray), (1, Ptr ob 0)] _
 refine AG (AB (A2 (DN (.agg ([U64 e] ++ cu8 d ++ cu8 t).toArray) ([U64 e] ++ cu8 d ++ cu8 t) rfl (by first | rfl | simp)) rfl ?_))
 rintro v1 L1 ⟨nb1, hnb1, rfl, rfl⟩
 show JL _ _ _ _ ((2, Ptr nb1 0) :: _) [⟨nb1, [U64 e] ++ cu8 d ++ cu8 t, 161, (0, 0)⟩]
 refine AA _ (AH rfl) rfl ?_
 refine AL (AC (AG ?_))
 rcases Bool.eq_false_or_eq_true (RightB (0:UInt64) e) with hb1 | hb1
 ·
  refine CH 18 2 [(0, Ptr nb1 0), (1, U64 e)] BP rfl (by decide +kernel) ?_
  refine C5 ⟨[], [0, 1], [], [0, 1], [2]⟩ 2 _ rfl rfl (by decide +kernel) rfl ⟨⟨_, rfl, AI rfl (AD 0 22 1 CX rfl A1 rfl rfl)⟩, ⟨_, rfl, AI rfl (AM rfl (A6 BD (AT 0 rfl (A8 (A8 (Seg.head))))))⟩, trivial⟩ rfl (A7 rfl (AX 133 [U64 0, U64 e] (.bool (RightB (0:UInt64) e)) (AZ _ Tryd.call133 rfl) (fun w1 hw1 => right_c (0:UInt64) e w1 ))) ?_
  rintro v1 L1 ⟨rfl, rfl⟩
  obtain ⟨x1, hx1⟩ : ∃ x, ls[0]? = some x := ⟨_, List.getElem?_eq_getElem (by rw [hls]; omega)⟩
  obtain ⟨bz1, oz1, hz1, hm1⟩ := rows_at FH (by decide) hs hx1
  refine ⟨[(3, .bool (!(RightB (0:UInt64) e))), (4, .bool (!(RightB (0:UInt64) e))), (5, Ptr nb1 0), (6, U64 e), (7, Ptr ob 2), (8, .slice sa ns sc), (9, Ptr bz1 oz1), (10, Ptr bz1 oz1), (11, U64 x1.e), (12, .bool (decide (e ≠ x1.e))), (13, .bool (decide (e ≠ x1.e))), (14, .bool (decide (e ≠ x1.e)))], ?_⟩
  show DP _ _ _ _ _ _ _ _ [_]
  refine C2 ⟨[2], [0, 1, 3, 4, 5, 6, 7, 8, 9, 10, 11, 12, 13, 14], [0, 1], [3, 4, 5, 6, 7, 8, 9, 10, 11, 12, 13, 14], []⟩ rfl rfl (by decide +kernel) rfl ⟨⟨_, rfl, AI rfl (FD rfl)⟩, BQ rfl rfl rfl, ⟨_, rfl, B1 4 8 false _ rfl rfl rfl (by rw [show (RightB (0:UInt64) e) = true from hb1] <;> rfl) (AD 0 22 1 CX rfl A1 rfl rfl)⟩, ⟨_, rfl, B1 4 8 false _ rfl rfl rfl (by rw [show (RightB (0:UInt64) e) = true from hb1] <;> rfl) (AM rfl (A6 BD (AT 0 rfl (A8 (A8 (Seg.head))))))⟩, ⟨_, rfl, B1 4 8 false _ rfl rfl rfl (by rw [show (RightB (0:UInt64) e) = true from hb1] <;> rfl) (AD 2 24 1 AV rfl C8 rfl rfl)⟩, ⟨_, rfl, B1 4 8 false _ rfl rfl rfl (by rw [show (RightB (0:UInt64) e) = true from hb1] <;> rfl) (AM rfl (A6 DQ (CW (hO.mem (by simp)) (AO (AO (Seg.head))) (by omega))))⟩, ⟨_, rfl, B1 4 8 false _ rfl rfl rfl (by rw [show (RightB (0:UInt64) e) = true from hb1] <;> rfl) (C9 161 49 oz1 CO CD rfl hz1 rfl (by omega) (by omega) (by omega))⟩, ⟨_, rfl, B1 4 8 false _ rfl rfl rfl (by rw [show (RightB (0:UInt64) e) = true from hb1] <;> rfl) (AD 0 22 1 CX rfl A1 rfl rfl)⟩, ⟨_, rfl, B1 4 8 false _ rfl rfl rfl (by rw [show (RightB (0:UInt64) e) = true from hb1] <;> rfl) (AM rfl (A6 BD (CW (hm1.mem (by simp)) (A8 (A8 (Seg.head))) (by omega))))⟩, ⟨_, rfl, B1 4 8 false _ rfl rfl rfl (by rw [show (RightB (0:UInt64) e) = true from hb1] <;> rfl) (AP rfl rfl fun _ => EO e x1.e)⟩, ⟨_, rfl, AI rfl (BF _ rfl (by rw [show (RightB (0:UInt64) e) = true from hb1] <;> rfl) rfl)⟩, ⟨_, rfl, AI rfl (AH rfl)⟩, trivial⟩ ?_
  refine CB (F' := [(3, .bool (decide (e ≠ x1.e)))]) (by kernel_rfl) ?_
  refine AC (BH (BI (.bool (decide (e ≠ x1.e))) (res1 Tryd.results132 (BU rfl)) fun w1 hw1 => ?_))
  refine ⟨_, [], rfl, ⟨congrArg Value.bool ?_, rfl⟩, hw1.sub (by simp) (by simp)⟩
  first | (simp [oddB, *]; done) | (rw [F5 hx1]; simp [oddB, *]; done)
 ·
  refine CH 18 2 [(0, Ptr nb1 0), (1, U64 e)] BP rfl (by decide +kernel) ?_
  refine C5 ⟨[], [0, 1], [], [0, 1], [2]⟩ 2 _ rfl rfl (by decide +kernel) rfl ⟨⟨_, rfl, AI rfl (AD 0 22 1 CX rfl A1 rfl rfl)⟩, ⟨_, rfl, AI rfl (AM rfl (A6 BD (AT 0 rfl (A8 (A8 (Seg.head))))))⟩, trivial⟩ rfl (A7 rfl (AX 133 [U64 0, U64 e] (.bool (RightB (0:UInt64) e)) (AZ _ Tryd.call133 rfl) (fun w1 hw1 => right_c (0:UInt64) e w1 ))) ?_
  rintro v1 L1 ⟨rfl, rfl⟩
  refine ⟨[(3, .bool (!(RightB (0:UInt64) e))), (4, .bool (!(RightB (0:UInt64) e))), (5, undef), (6, undef), (7, undef), (8, undef), (9, undef), (10, undef), (11, undef), (12, undef), (13, .bool true), (14, .bool true)], ?_⟩
  show DP _ _ _ _ _ _ _ _ [_]
  refine C2 ⟨[2], [0, 1, 3, 4, 5, 6, 7, 8, 9, 10, 11, 12, 13, 14], [0, 1], [3, 4, 5, 6, 7, 8, 9, 10, 11, 12, 13, 14], []⟩ rfl rfl (by decide +kernel) rfl ⟨⟨_, rfl, AI rfl (FD rfl)⟩, BQ rfl rfl rfl, ⟨_, rfl, CV 4 8 false _ rfl rfl rfl (by rw [show (RightB (0:UInt64) e) = false from hb1] <;> rfl)⟩, ⟨_, rfl, CV 4 8 false _ rfl rfl rfl (by rw [show (RightB (0:UInt64) e) = false from hb1] <;> rfl)⟩, ⟨_, rfl, CV 4 8 false _ rfl rfl rfl (by rw [show (RightB (0:UInt64) e) = false from hb1] <;> rfl)⟩, ⟨_, rfl, CV 4 8 false _ rfl rfl rfl (by rw [show (RightB (0:UInt64) e) = false from hb1] <;> rfl)⟩, ⟨_, rfl, CV 4 8 false _ rfl rfl rfl (by rw [show (RightB (0:UInt64) e) = false from hb1] <;> rfl)⟩, ⟨_, rfl, CV 4 8 false _ rfl rfl rfl (by rw [show (RightB (0:UInt64) e) = false from hb1] <;> rfl)⟩, ⟨_, rfl, CV 4 8 false _ rfl rfl rfl (by rw [show (RightB (0:UInt64) e) = false from hb1] <;> rfl)⟩, ⟨_, rfl, CV 4 8 false _ rfl rfl rfl (by rw [show (RightB (0:UInt64) e) = false from hb1] <;> rfl)⟩, ⟨_, rfl, AI rfl (BO _ rfl (by rw [show (RightB (0:UInt64) e) = false from hb1] <;> rfl) rfl)⟩, ⟨_, rfl, AI rfl (AH rfl)⟩, trivial⟩ ?_
  refine CB (F' := [(3, .bool true)]) (by kernel_rfl) ?_
  refine AC (BH (BI (.bool true) (res1 Tryd.results132 (BU rfl)) fun w1 hw1 => ?_))
  refine ⟨_, [], rfl, ⟨congrArg Value.bool ?_, rfl⟩, hw1.sub (by simp) (by simp)⟩
  first | (simp [oddB, *]; done) | (rw [F5 hx1]; simp [oddB, *]; done)
theorem ixOdd_c (ob : Nat) (kd : Int) (ai : Option Addr) (ni ci : Nat) (l : List UInt64) (sa : Option Addr) (ns sc : Nat) (ls : List SealR) (bl : UInt64)  (w : World) (hls : ls.length = ns) (hnn : ns ≤ 2000000) (hnd : ns ≤ sc) (hcn : sc ≤ maxLen) (hs : RdV w sa (ls.flatMap sealC)) (hO : RdA w ob 0 [I64 (kd), .slice ai ni ci, .slice sa ns sc, U64 bl])  : Calls Tryd.prog 158 #[.slice sa ns sc, .func (.func 132) #[] #[Ptr ob 0]] w (Post w [] (fun v L => v = I64 (findIx (fun x => oddB (headE ls) (SealR.e x)) ls) ∧ L = [])) := by
 have hmx : maxLen = 9223372036854775807 := rfl
 refine enter w [] 19 [] [.slice sa ns sc, .func (.func 132) #[] #[Ptr ob 0]] Tryd.func158 rfl rfl (by simp) (BY (by simp) (by simp) (by simp)) ?_
 show JC _ _ _ [(0, .slice sa ns sc), (1, .func (.func 132) #[] #[Ptr ob 0])] _
 refine AG (AB (AA _ (AH rfl) rfl ?_))
 refine AL (AC (AG (AG (AB (AA _ (AE rfl) rfl ?_)))))
 refine AA (I64 ns) (DS CO rfl) rfl ?_
 refine AA _ (AE rfl) rfl ?_
 refine AL (AC (B4 (D4 (ι := Nat) (fun i => [(0, .slice sa ns sc), (1, .func (.func 132) #[] #[Ptr ob 0]), (7, I64 ns), (8, I64 i)]) (fun i => []) (fun i => i ≤ ns ∧ ∀ k, k < i → ∀ y, ls[k]? = some y → (fun x => oddB (headE ls) (SealR.e x)) y = false) (fun i => ns - i) 0 ⟨by omega, fun k hk => absurd hk (by omega)⟩ (Sub.all rfl) rfl ?_)))
 rintro i ⟨hi1, hi2⟩
 show JC _ _ _ [(0, .slice sa ns sc), (1, .func (.func 132) #[] #[Ptr ob 0]), (7, I64 ns), (8, I64 i)] []
 refine AG (AB (AA (.bool (decide (((i:Int)) < ((ns:Int))))) (AP rfl rfl fun _ => DC _ _) rfl ?_))
 refine AL (AC (AG (CL (decide (((i:Int)) < ((ns:Int)))) rfl (fun hb1 => ?_) (fun hb1 => ?_))))
 ·
  have hp1 : ((i:Int)) < ((ns:Int)) := of_decide_eq_true hb1
  refine BL (AC (AG (B4 (AG (AB (AA _ (AE rfl) rfl ?_))))))
  refine AA _ (AH rfl) rfl ?_
  refine AL (AC (AG (AB (AA _ (AE rfl) rfl ?_))))
  refine AA _ (AE rfl) rfl ?_
  refine AA _ (AE rfl) rfl ?_
  obtain ⟨x1, hx1⟩ : ∃ x, ls[i]? = some x := ⟨_, List.getElem?_eq_getElem (by rw [hls]; omega)⟩
  obtain ⟨bz1, oz1, hz1, hm1⟩ := rows_at FH (by decide) hs hx1
  refine AA (Ptr bz1 (49*i + oz1)) (C9 161 49 (49*i + oz1) CO CD rfl hz1 rfl (by omega) (by omega) (by omega)) rfl ?_
  refine AA (.agg ([U64 x1.e] ++ cu8 x1.d ++ cu8 x1.t).toArray) (AM rfl (A5 D1 CD (by simp [x1.hd, x1.ht]) (CW (hm1.mem (by simp)) (AJ _) (by omega)))) rfl ?_
  refine AY (AX 132 [.agg ([U64 x1.e] ++ cu8 x1.d ++ cu8 x1.t).toArray, Ptr ob 0] (.bool (oddB (headE ls) x1.e)) (Cl_clo [.agg ([U64 x1.e] ++ cu8 x1.d ++ cu8 x1.t).toArray] [Ptr ob 0] Tryd.call132 rfl rfl) (fun w1 hw1 => odd_c ob kd ai ni ci l sa ns sc ls bl x1.e x1.d x1.t w1 x1.hd x1.ht (by omega) hls hnn hnd hcn (FM hw1 rfl hs) (RdA_at hw1 hO (by simp) (by simp)))) rfl ?_
  show JL _ _ _ _ ((16, .bool (oddB (headE ls) x1.e)) :: _) []
  refine AL (AC (CL (oddB (headE ls) x1.e) rfl (fun hb2 => ?_) (fun hb2 => ?_)))
  ·
   refine AG (AB (AA _ (AE rfl) rfl ?_))
   refine AA _ (AH rfl) rfl ?_
   refine AL (AC (BH (DD (A4 (A4 (DD (A4 (BI (I64 i) (res1 Tryd.results158 (BU rfl)) fun w1 hw1 => ?_))))))))
   have e1 : findIx (fun x => oddB (headE ls) (SealR.e x)) ls = i := findIx_at hx1 (by assumption) hi2
   exact ⟨_, [], rfl, ⟨by rw [e1], rfl⟩, hw1.sub (by simp) (by simp)⟩
  ·
   refine BL (B0 (AC (AB (AA (I64 ((i:Int) + 1)) (AP rfl rfl fun _ => DL _ _ ((i:Int) + 1) (by omega) (by omega)) rfl ?_))))
   refine AA _ (AE rfl) rfl ?_
   refine AL (DO (ER (i + 1) ⟨by omega, find_step hx1 (by assumption) hi2⟩ (by first | (simp; omega) | simp | (dsimp only; omega) | omega) (Sub.all rfl) rfl))
 ·
  have hp1 : ¬ (((i:Int)) < ((ns:Int))) := of_decide_eq_false hb1
  refine DU (A9 (A9 (CR (AC (AG (AB (AA _ (AH rfl) rfl ?_)))))))
  refine AL (AC (BH (BI (I64 (-1:Int)) (res1 Tryd.results158 (BU rfl)) fun w1 hw1 => ?_)))
  have e1 : findIx (fun x => oddB (headE ls) (SealR.e x)) ls = -1 := findIx_no (by rw [hls]; intro k hk; exact hi2 k (by omega))
  exact ⟨_, [], rfl, ⟨by rw [e1], rfl⟩, hw1.sub (by simp) (by simp)⟩
theorem cfOdd_c (ob : Nat) (kd : Int) (ai : Option Addr) (ni ci : Nat) (l : List UInt64) (sa : Option Addr) (ns sc : Nat) (ls : List SealR) (bl : UInt64)  (w : World) (hls : ls.length = ns) (hnn : ns ≤ 2000000) (hnd : ns ≤ sc) (hcn : sc ≤ maxLen) (hs : RdV w sa (ls.flatMap sealC)) (hO : RdA w ob 0 [I64 (kd), .slice ai ni ci, .slice sa ns sc, U64 bl])  : Calls Tryd.prog 134 #[.slice sa ns sc, .func (.func 132) #[] #[Ptr ob 0]] w (Post w [] (fun v L => v = .bool (ls.any (fun x => oddB (headE ls) (SealR.e x))) ∧ L = [])) := by
 refine enter w [] 9 [] [.slice sa ns sc, .func (.func 132) #[] #[Ptr ob 0]] Tryd.func134 rfl rfl (by simp) (BY (by simp) (by simp) (by simp)) ?_
 show JC _ _ _ [(0, .slice sa ns sc), (1, .func (.func 132) #[] #[Ptr ob 0])] _
 refine AG (AB (AA _ (AH rfl) rfl ?_))
 refine AL (AC (AG (AB (AA _ (AE rfl) rfl ?_))))
 refine AA _ (AE rfl) rfl ?_
 refine AY (AX 158 [.slice sa ns sc, .func (.func 132) #[] #[Ptr ob 0]] (I64 ((findIx (fun x => oddB (headE ls) (SealR.e x)) ls))) (AZ _ Tryd.call158 rfl) (fun w1 hw1 => ixOdd_c ob kd ai ni ci l sa ns sc ls bl w1 hls hnn hnd hcn (FM hw1 rfl hs) (RdA_at hw1 hO (by simp) (by simp)))) rfl ?_
 show JL _ _ _ _ ((7, I64 ((findIx (fun x => oddB (headE ls) (SealR.e x)) ls))) :: _) []
 refine AA (.bool (decide ((0:Int) ≤ ((findIx (fun x => oddB (headE ls) (SealR.e x)) ls))))) (AP rfl rfl fun _ => GH _ _) rfl ?_
 refine AA _ (AH rfl) rfl ?_
 refine AL (AC (BH (BI (.bool (decide ((0:Int) ≤ ((findIx (fun x => oddB (headE ls) (SealR.e x)) ls))))) (res1 Tryd.results134 (BU rfl)) fun w1 hw1 => ?_)))
 exact ⟨_, [], rfl, ⟨congrArg Value.bool (findIx_ge _ _), rfl⟩, hw1.sub (by simp) (by simp)⟩
attribute [local irreducible] oddB
theorem right13_c (kd : Int) (ai : Option Addr) (ni ci : Nat) (l : List UInt64) (sa : Option Addr) (ns sc : Nat) (ls : List SealR) (bl : UInt64)  (w : World) (hl : l.length = ni) (hnm : ni ≤ 2000000) (hnc : ni ≤ ci) (hcm : ci ≤ maxLen) (hv : RdV w ai (cu64 l)) (hls : ls.length = ns) (hnn : ns ≤ 2000000) (hnd : ns ≤ sc) (hcn : sc ≤ maxLen) (hs : RdV w sa (ls.flatMap sealC))  : Calls Tryd.prog 69 #[.agg #[I64 (kd), .slice ai ni ci, .slice sa ns sc, U64 bl]] w (Post w [] (fun v L => v = .bool (RightO kd l ls bl) ∧ L = [])) := by
 have hmx : maxLen = 9223372036854775807 := rfl
 refine enter (P := Tryd.prog) (f := 69) (fn := Tryd.f69) w [] 69 [] [.agg #[I64 (kd), .slice ai ni ci, .slice sa ns sc, U64 bl]] Tryd.func69 rfl rfl (by simp) (BY (by simp) (by simp) (by simp)) ?_
 show JC _ _ _ [(0, .agg #[I64 (kd), .slice ai ni ci, .slice sa ns sc, U64 bl])] _
 refine AG (AB (A2 (DN (.agg #[I64 (kd), .slice ai ni ci, .slice sa ns sc, U64 bl]) ([I64 (kd), .slice ai ni ci, .slice sa ns sc, U64 bl]) rfl (by first | rfl | simp)) rfl ?_))
 rintro v1 L1 ⟨nb1, hnb1, rfl, rfl⟩
 show JL _ _ _ _ ((1, Ptr nb1 0) :: _) [⟨nb1, [I64 (kd), .slice ai ni ci, .slice sa ns sc, U64 bl], 26, (0, 0)⟩]
 refine AA _ (AH rfl) rfl ?_
 refine AL (AC (AG (AB (AA (.func (.func 132) #[] #[Ptr nb1 0]) (Ev_makeFunc (vs := [Ptr nb1 0]) rfl (fun _ _ => rfl)) rfl ?_))))
 refine AA _ (AH rfl) rfl ?_
 refine AL (AC (AG (AG (AB (AA (Ptr nb1 0) (AD 0 3 1 AV rfl BA rfl rfl) rfl ?_)))))
 refine AA (I64 (kd)) (AM rfl (A6 BS (AT 0 rfl (Seg.head)))) rfl ?_
 refine AL (AC (B4 (AG (AB (AA (.bool (decide ((kd) = (1:Int)))) (AP rfl rfl fun _ => CA _ _) rfl ?_)))))
 refine AA _ (AH rfl) rfl ?_
 refine AL (AC (CL (decide ((kd) = (1:Int))) rfl (fun hb1 => ?_) (fun hb1 => ?_)))
 ·
  have hp1 : (kd) = (1:Int) := of_decide_eq_true hb1
  refine AG (AB (AA (Ptr nb1 3) (AD 3 22 1 AV rfl A1 rfl rfl) rfl ?_))
  refine AA (U64 bl) (AM rfl (A6 BD (AT 0 rfl (AO (AO (AO (Seg.head))))))) rfl ?_
  refine AA (.bool (decide (bl = (0:UInt64)))) (AP rfl rfl fun _ => E6 bl (0:UInt64)) rfl ?_
  refine AA _ (AE rfl) rfl ?_
  rcases Bool.eq_false_or_eq_true (decide (bl = (0:UInt64))) with hb2 | hb2
  ·
   have hp2 : bl = (0:UInt64) := of_decide_eq_true hb2
   refine AS 3 12 true _ (Ptr nb1 1) rfl rfl hb2 (AD 1 23 1 AV rfl B9 rfl rfl) rfl ?_
   refine AS 3 12 true _ (.slice ai ni ci) rfl rfl hb2 (AM rfl (A6 C1 (AT 0 rfl (AO (Seg.head))))) rfl ?_
   refine DZ 3 12 true _ rfl rfl hb2 (AX 85 [I64 32, .slice ai ni ci] (.bool (decide (RightI l))) (AZ _ Tryd.call85 rfl) (fun w1 hw1 => pright_c ai ni ci l w1 hl (by omega) (by omega) (by omega) (FM hw1 rfl hv))) rfl ?_
   rintro v1 L1 ⟨rfl, rfl⟩
   show JL _ _ _ _ ((15, .bool (decide (RightI l))) :: _) [_]
   refine AA _ (BO _ rfl hb2 rfl) rfl ?_
   refine AA _ (AE rfl) rfl ?_
   rcases Bool.eq_false_or_eq_true (decide (RightI l)) with hb3 | hb3
   ·
    have hp3 : RightI l := of_decide_eq_true hb3
    refine AS 8 17 true _ (Ptr nb1 2) rfl rfl hb3 (AD 2 24 1 AV rfl C8 rfl rfl) rfl ?_
    refine AS 8 17 true _ (.slice sa ns sc) rfl rfl hb3 (AM rfl (A6 DQ (AT 0 rfl (AO (AO (Seg.head)))))) rfl ?_
    refine AS 8 17 true _ (I64 ns) rfl rfl hb3 (DS CO rfl) rfl ?_
    refine AS 8 17 true _ (Ptr nb1 1) rfl rfl hb3 (AD 1 23 1 AV rfl B9 rfl rfl) rfl ?_
    refine AS 8 17 true _ (.slice ai ni ci) rfl rfl hb3 (AM rfl (A6 C1 (AT 0 rfl (AO (Seg.head))))) rfl ?_
    refine AS 8 17 true _ (I64 ni) rfl rfl hb3 (DS BR rfl) rfl ?_
    refine AS 8 17 true _ (.bool (decide (((ns:Int)) = ((ni:Int))))) rfl rfl hb3 (AP rfl rfl fun _ => CA _ _) rfl ?_
    refine AA _ (BO _ rfl hb3 rfl) rfl ?_
    refine AA _ (AE rfl) rfl ?_
    rcases Bool.eq_false_or_eq_true (decide (((ns:Int)) = ((ni:Int)))) with hb4 | hb4
    ·
     have hp4 : ((ns:Int)) = ((ni:Int)) := of_decide_eq_true hb4
     refine AS 17 26 true _ (Ptr nb1 2) rfl rfl hb4 (AD 2 24 1 AV rfl C8 rfl rfl) rfl ?_
     refine AS 17 26 true _ (.slice sa ns sc) rfl rfl hb4 (AM rfl (A6 DQ (AT 0 rfl (AO (AO (Seg.head)))))) rfl ?_
     refine AS 17 26 true _ _ rfl rfl hb4 (AE rfl) rfl ?_
     refine DZ 17 26 true _ rfl rfl hb4 (AX 134 [.slice sa ns sc, .func (.func 132) #[] #[Ptr nb1 0]] (.bool (ls.any (fun x => oddB (headE ls) (SealR.e x)))) (AZ _ Tryd.call134 rfl) (fun w1 hw1 => cfOdd_c nb1 (kd) ai ni ci l sa ns sc ls bl w1 hls (by omega) (by omega) (by omega) (FM hw1 rfl hs) (RdA.of hw1 (AT 0 rfl (AJ _)) (by simp)))) rfl ?_
     rintro v1 L1 ⟨rfl, rfl⟩
     show JL _ _ _ _ ((30, .bool (ls.any (fun x => oddB (headE ls) (SealR.e x)))) :: _) [_]
     refine AS 17 26 true _ (.bool (!(ls.any (fun x => oddB (headE ls) (SealR.e x))))) rfl rfl hb4 (FD rfl) rfl ?_
     refine AA _ (BO _ rfl hb4 rfl) rfl ?_
     refine AA _ (AH rfl) rfl ?_
     refine AL (AC (BH (DD (A4 (B5 [false] ?_)))))
     show JQ _ _ _ _ []
     refine BI (.bool (!(ls.any (fun x => oddB (headE ls) (SealR.e x))))) (res1 E4 (BU rfl)) fun w1 hw1 => ?_
     refine ⟨_, [], rfl, ⟨congrArg Value.bool ?_, rfl⟩, hw1.sub (by simp) (by simp)⟩
     unfold RightO
     rw [hl, hls]
     first | (simp [*]; done) | (simp [*]; omega)
    ·
     have hp4 : ¬ (((ns:Int)) = ((ni:Int))) := of_decide_eq_false hb4
     refine AF 17 26 true _ rfl rfl hb4 rfl ?_
     refine AF 17 26 true _ rfl rfl hb4 rfl ?_
     refine AF 17 26 true _ rfl rfl hb4 rfl ?_
     refine AF 17 26 true _ rfl rfl hb4 rfl ?_
     refine AF 17 26 true _ rfl rfl hb4 rfl ?_
     refine AA _ (BF _ rfl hb4 rfl) rfl ?_
     refine AA _ (AH rfl) rfl ?_
     refine AL (AC (BH (DD (A4 (B5 [false] ?_)))))
     show JQ _ _ _ _ []
     refine BI (.bool false) (res1 E4 (BU rfl)) fun w1 hw1 => ?_
     refine ⟨_, [], rfl, ⟨congrArg Value.bool ?_, rfl⟩, hw1.sub (by simp) (by simp)⟩
     unfold RightO
     rw [hl, hls]
     first | (simp [*]; done) | (simp [*]; omega)
   ·
    have hp3 : ¬ (RightI l) := of_decide_eq_false hb3
    refine AF 8 17 true _ rfl rfl hb3 rfl ?_
    refine AF 8 17 true _ rfl rfl hb3 rfl ?_
    refine AF 8 17 true _ rfl rfl hb3 rfl ?_
    refine AF 8 17 true _ rfl rfl hb3 rfl ?_
    refine AF 8 17 true _ rfl rfl hb3 rfl ?_
    refine AF 8 17 true _ rfl rfl hb3 rfl ?_
    refine AF 8 17 true _ rfl rfl hb3 rfl ?_
    refine AA _ (BF _ rfl hb3 rfl) rfl ?_
    refine AA _ (AE rfl) rfl ?_
    refine AF 17 26 true _ rfl rfl rfl rfl ?_
    refine AF 17 26 true _ rfl rfl rfl rfl ?_
    refine AF 17 26 true _ rfl rfl rfl rfl ?_
    refine AF 17 26 true _ rfl rfl rfl rfl ?_
    refine AF 17 26 true _ rfl rfl rfl rfl ?_
    refine AA _ (BF _ rfl rfl rfl) rfl ?_
    refine AA _ (AH rfl) rfl ?_
    refine AL (AC (BH (DD (A4 (B5 [false] ?_)))))
    show JQ _ _ _ _ []
    refine BI (.bool false) (res1 E4 (BU rfl)) fun w1 hw1 => ?_
    refine ⟨_, [], rfl, ⟨congrArg Value.bool ?_, rfl⟩, hw1.sub (by simp) (by simp)⟩
    unfold RightO
    rw [hl, hls]
    first | (simp [*]; done) | (simp [*]; omega)
  ·
   have hp2 : ¬ (bl = (0:UInt64)) := of_decide_eq_false hb2
   refine AF 3 12 true _ rfl rfl hb2 rfl ?_
   refine AF 3 12 true _ rfl rfl hb2 rfl ?_
   refine AF 3 12 true _ rfl rfl hb2 rfl ?_
   refine AA _ (BF _ rfl hb2 rfl) rfl ?_
   refine AA _ (AE rfl) rfl ?_
   refine AF 8 17 true _ rfl rfl rfl rfl ?_
   refine AF 8 17 true _ rfl rfl rfl rfl ?_
   refine AF 8 17 true _ rfl rfl rfl rfl ?_
   refine AF 8 17 true _ rfl rfl rfl rfl ?_
   refine AF 8 17 true _ rfl rfl rfl rfl ?_
   refine AF 8 17 true _ rfl rfl rfl rfl ?_
   refine AF 8 17 true _ rfl rfl rfl rfl ?_
   refine AA _ (BF _ rfl rfl rfl) rfl ?_
   refine AA _ (AE rfl) rfl ?_
   refine AF 17 26 true _ rfl rfl rfl rfl ?_
   refine AF 17 26 true _ rfl rfl rfl rfl ?_
   refine AF 17 26 true _ rfl rfl rfl rfl ?_
   refine AF 17 26 true _ rfl rfl rfl rfl ?_
   refine AF 17 26 true _ rfl rfl rfl rfl ?_
   refine AA _ (BF _ rfl rfl rfl) rfl ?_
   refine AA _ (AH rfl) rfl ?_
   refine AL (AC (BH (DD (A4 (B5 [false] ?_)))))
   show JQ _ _ _ _ []
   refine BI (.bool false) (res1 E4 (BU rfl)) fun w1 hw1 => ?_
   refine ⟨_, [], rfl, ⟨congrArg Value.bool ?_, rfl⟩, hw1.sub (by simp) (by simp)⟩
   unfold RightO
   rw [hl, hls]
   first | (simp [*]; done) | (simp [*]; omega)
 ·
  have hp1 : ¬ ((kd) = (1:Int)) := of_decide_eq_false hb1
  refine AG (AB (AA (.bool (decide ((kd) = (2:Int)))) (AP rfl rfl fun _ => CA _ _) rfl ?_))
  refine AA _ (AH rfl) rfl ?_
  refine AL (AC (CL (decide ((kd) = (2:Int))) rfl (fun hb5 => ?_) (fun hb5 => ?_)))
  ·
   have hp5 : (kd) = (2:Int) := of_decide_eq_true hb5
   refine AG (AB (AA (Ptr nb1 3) (AD 3 22 1 AV rfl A1 rfl rfl) rfl ?_))
   refine AA (U64 bl) (AM rfl (A6 BD (AT 0 rfl (AO (AO (AO (Seg.head))))))) rfl ?_
   refine AA (.bool (decide (bl = (0:UInt64)))) (AP rfl rfl fun _ => E6 bl (0:UInt64)) rfl ?_
   refine AA _ (AE rfl) rfl ?_
   rcases Bool.eq_false_or_eq_true (decide (bl = (0:UInt64))) with hb6 | hb6
   ·
    have hp6 : bl = (0:UInt64) := of_decide_eq_true hb6
    refine AS 3 38 true _ (Ptr nb1 1) rfl rfl hb6 (AD 1 23 1 AV rfl B9 rfl rfl) rfl ?_
    refine AS 3 38 true _ (.slice ai ni ci) rfl rfl hb6 (AM rfl (A6 C1 (AT 0 rfl (AO (Seg.head))))) rfl ?_
    refine DZ 3 38 true _ rfl rfl hb6 (AX 85 [I64 32, .slice ai ni ci] (.bool (decide (RightI l))) (AZ _ Tryd.call85 rfl) (fun w1 hw1 => pright_c ai ni ci l w1 hl (by omega) (by omega) (by omega) (FM hw1 rfl hv))) rfl ?_
    rintro v1 L1 ⟨rfl, rfl⟩
    show JL _ _ _ _ ((41, .bool (decide (RightI l))) :: _) [_]
    refine AA _ (BO _ rfl hb6 rfl) rfl ?_
    refine AA _ (AE rfl) rfl ?_
    rcases Bool.eq_false_or_eq_true (decide (RightI l)) with hb7 | hb7
    ·
     have hp7 : RightI l := of_decide_eq_true hb7
     refine AS 8 43 true _ (Ptr nb1 2) rfl rfl hb7 (AD 2 24 1 AV rfl C8 rfl rfl) rfl ?_
     refine AS 8 43 true _ (.slice sa ns sc) rfl rfl hb7 (AM rfl (A6 DQ (AT 0 rfl (AO (AO (Seg.head)))))) rfl ?_
     refine AS 8 43 true _ (I64 ns) rfl rfl hb7 (DS CO rfl) rfl ?_
     refine AS 8 43 true _ (.bool (decide (((ns:Int)) = (0:Int)))) rfl rfl hb7 (AP rfl rfl fun _ => CA _ _) rfl ?_
     refine AA _ (BO _ rfl hb7 rfl) rfl ?_
     refine AA _ (AH rfl) rfl ?_
     refine AL (AC (BH (DD (A4 (B5 [false] ?_)))))
     show JQ _ _ _ _ []
     refine BI (.bool (decide (((ns:Int)) = (0:Int)))) (res1 E4 (BU rfl)) fun w1 hw1 => ?_
     refine ⟨_, [], rfl, ⟨congrArg Value.bool ?_, rfl⟩, hw1.sub (by simp) (by simp)⟩
     unfold RightO
     rw [hl, hls]
     first | (simp [*]; done) | (simp [*]; omega)
    ·
     have hp7 : ¬ (RightI l) := of_decide_eq_false hb7
     refine AF 8 43 true _ rfl rfl hb7 rfl ?_
     refine AF 8 43 true _ rfl rfl hb7 rfl ?_
     refine AF 8 43 true _ rfl rfl hb7 rfl ?_
     refine AF 8 43 true _ rfl rfl hb7 rfl ?_
     refine AA _ (BF _ rfl hb7 rfl) rfl ?_
     refine AA _ (AH rfl) rfl ?_
     refine AL (AC (BH (DD (A4 (B5 [false] ?_)))))
     show JQ _ _ _ _ []
     refine BI (.bool false) (res1 E4 (BU rfl)) fun w1 hw1 => ?_
     refine ⟨_, [], rfl, ⟨congrArg Value.bool ?_, rfl⟩, hw1.sub (by simp) (by simp)⟩
     unfold RightO
     rw [hl, hls]
     first | (simp [*]; done) | (simp [*]; omega)
   ·
    have hp6 : ¬ (bl = (0:UInt64)) := of_decide_eq_false hb6
    refine AF 3 38 true _ rfl rfl hb6 rfl ?_
    refine AF 3 38 true _ rfl rfl hb6 rfl ?_
    refine AF 3 38 true _ rfl rfl hb6 rfl ?_
    refine AA _ (BF _ rfl hb6 rfl) rfl ?_
    refine AA _ (AE rfl) rfl ?_
    refine AF 8 43 true _ rfl rfl rfl rfl ?_
    refine AF 8 43 true _ rfl rfl rfl rfl ?_
    refine AF 8 43 true _ rfl rfl rfl rfl ?_
    refine AF 8 43 true _ rfl rfl rfl rfl ?_
    refine AA _ (BF _ rfl rfl rfl) rfl ?_
    refine AA _ (AH rfl) rfl ?_
    refine AL (AC (BH (DD (A4 (B5 [false] ?_)))))
    show JQ _ _ _ _ []
    refine BI (.bool false) (res1 E4 (BU rfl)) fun w1 hw1 => ?_
    refine ⟨_, [], rfl, ⟨congrArg Value.bool ?_, rfl⟩, hw1.sub (by simp) (by simp)⟩
    unfold RightO
    rw [hl, hls]
    first | (simp [*]; done) | (simp [*]; omega)
  ·
   have hp5 : ¬ ((kd) = (2:Int)) := of_decide_eq_false hb5
   refine AG (AB (AA (.bool (decide ((kd) = (3:Int)))) (AP rfl rfl fun _ => CA _ _) rfl ?_))
   refine AA _ (AH rfl) rfl ?_
   refine AL (AC (CL (decide ((kd) = (3:Int))) rfl (fun hb8 => ?_) (fun hb8 => ?_)))
   ·
    have hp8 : (kd) = (3:Int) := of_decide_eq_true hb8
    refine AG (AB (AA (Ptr nb1 1) (AD 1 23 1 AV rfl B9 rfl rfl) rfl ?_))
    refine AA (.slice ai ni ci) (AM rfl (A6 C1 (AT 0 rfl (AO (Seg.head))))) rfl ?_
    refine AA (I64 ni) (DS BR rfl) rfl ?_
    refine AA (Ptr nb1 2) (AD 2 24 1 AV rfl C8 rfl rfl) rfl ?_
    refine AA (.slice sa ns sc) (AM rfl (A6 DQ (AT 0 rfl (AO (AO (Seg.head)))))) rfl ?_
    refine AA (I64 ns) (DS CO rfl) rfl ?_
    refine AA (I64 ((ni:Int) + (ns:Int))) (AP rfl rfl fun _ => DL _ _ ((ni:Int) + (ns:Int)) (by omega) (by omega)) rfl ?_
    refine AA (.bool (decide (((ni:Int) + (ns:Int)) = (0:Int)))) (AP rfl rfl fun _ => CA _ _) rfl ?_
    refine AA _ (AE rfl) rfl ?_
    rcases Bool.eq_false_or_eq_true (decide (((ni:Int) + (ns:Int)) = (0:Int))) with hb9 | hb9
    ·
     have hp9 : ((ni:Int) + (ns:Int)) = (0:Int) := of_decide_eq_true hb9
     refine AS 8 59 true _ (Ptr nb1 3) rfl rfl hb9 (AD 3 22 1 AV rfl A1 rfl rfl) rfl ?_
     refine AS 8 59 true _ (U64 bl) rfl rfl hb9 (AM rfl (A6 BD (AT 0 rfl (AO (AO (AO (Seg.head))))))) rfl ?_
     refine AS 8 59 true _ (.bool (decide ((1:UInt64) ≤ bl))) rfl rfl hb9 (AP rfl rfl fun _ => FR bl (1:UInt64)) rfl ?_
     refine AA _ (BO _ rfl hb9 rfl) rfl ?_
     refine AA _ (AE rfl) rfl ?_
     rcases Bool.eq_false_or_eq_true (decide ((1:UInt64) ≤ bl)) with hb10 | hb10
     ·
      have hp10 : (1:UInt64) ≤ bl := of_decide_eq_true hb10
      refine AS 13 64 true _ (Ptr nb1 3) rfl rfl hb10 (AD 3 22 1 AV rfl A1 rfl rfl) rfl ?_
      refine AS 13 64 true _ (U64 bl) rfl rfl hb10 (AM rfl (A6 BD (AT 0 rfl (AO (AO (AO (Seg.head))))))) rfl ?_
      refine AS 13 64 true _ (.bool (decide (bl ≤ (4294967296:UInt64)))) rfl rfl hb10 (AP rfl rfl fun _ => bin_leq_u64 bl (4294967296:UInt64)) rfl ?_
      refine AA _ (BO _ rfl hb10 rfl) rfl ?_
      refine AA _ (AH rfl) rfl ?_
      refine AL (AC (BH (DD (A4 (B5 [false] ?_)))))
      show JQ _ _ _ _ []
      refine BI (.bool (decide (bl ≤ (4294967296:UInt64)))) (res1 E4 (BU rfl)) fun w1 hw1 => ?_
      refine ⟨_, [], rfl, ⟨congrArg Value.bool ?_, rfl⟩, hw1.sub (by simp) (by simp)⟩
      unfold RightO
      rw [hl, hls]
      first | (simp [*]; done) | (simp [*]; omega)
     ·
      have hp10 : ¬ ((1:UInt64) ≤ bl) := of_decide_eq_false hb10
      refine AF 13 64 true _ rfl rfl hb10 rfl ?_
      refine AF 13 64 true _ rfl rfl hb10 rfl ?_
      refine AF 13 64 true _ rfl rfl hb10 rfl ?_
      refine AA _ (BF _ rfl hb10 rfl) rfl ?_
      refine AA _ (AH rfl) rfl ?_
      refine AL (AC (BH (DD (A4 (B5 [false] ?_)))))
      show JQ _ _ _ _ []
      refine BI (.bool false) (res1 E4 (BU rfl)) fun w1 hw1 => ?_
      refine ⟨_, [], rfl, ⟨congrArg Value.bool ?_, rfl⟩, hw1.sub (by simp) (by simp)⟩
      unfold RightO
      rw [hl, hls]
      first | (simp [*]; done) | (simp [*]; omega)
    ·
     have hp9 : ¬ (((ni:Int) + (ns:Int)) = (0:Int)) := of_decide_eq_false hb9
     refine AF 8 59 true _ rfl rfl hb9 rfl ?_
     refine AF 8 59 true _ rfl rfl hb9 rfl ?_
     refine AF 8 59 true _ rfl rfl hb9 rfl ?_
     refine AA _ (BF _ rfl hb9 rfl) rfl ?_
     refine AA _ (AE rfl) rfl ?_
     refine AF 13 64 true _ rfl rfl rfl rfl ?_
     refine AF 13 64 true _ rfl rfl rfl rfl ?_
     refine AF 13 64 true _ rfl rfl rfl rfl ?_
     refine AA _ (BF _ rfl rfl rfl) rfl ?_
     refine AA _ (AH rfl) rfl ?_
     refine AL (AC (BH (DD (A4 (B5 [false] ?_)))))
     show JQ _ _ _ _ []
     refine BI (.bool false) (res1 E4 (BU rfl)) fun w1 hw1 => ?_
     refine ⟨_, [], rfl, ⟨congrArg Value.bool ?_, rfl⟩, hw1.sub (by simp) (by simp)⟩
     unfold RightO
     rw [hl, hls]
     first | (simp [*]; done) | (simp [*]; omega)
   ·
    have hp8 : ¬ ((kd) = (3:Int)) := of_decide_eq_false hb8
    refine BL (B0 (AC (AG (AB (AA _ (AH rfl) rfl ?_)))))
    refine AL (AC (BH (B5 [false] ?_)))
    show JQ _ _ _ _ []
    refine BI (.bool false) (res1 E4 (BU rfl)) fun w1 hw1 => ?_
    refine ⟨_, [], rfl, ⟨congrArg Value.bool ?_, rfl⟩, hw1.sub (by simp) (by simp)⟩
    unfold RightO
    rw [hl, hls]
    first | (simp [*]; done) | (simp [*]; omega)
theorem doc7_c (e : UInt64) (d t : List UInt8)  (w : World) (hd : d.length = 32) (ht : t.length = 16)  : Calls Tryd.prog 93 #[.agg ([U64 e] ++ cu8 d ++ cu8 t).toArray] w (Post w [] (fun v L => v = .agg ([U64 e] ++ cu8 d ++ cu8 t).toArray ∧ L = [])) := by
 refine enter (P := Tryd.prog) (f := 93) (fn := Tryd.f93) w [] 4 [] [.agg ([U64 e] ++ cu8 d ++ cu8 t).toArray] Tryd.func93 rfl rfl (by simp) (BY (by simp) (by simp) (by simp)) ?_
 show JC _ _ _ [(0, .agg ([U64 e] ++ cu8 d ++ cu8 t).toArray)] _
 refine AG (AB (A2 (DN (.agg ([U64 e] ++ cu8 d ++ cu8 t).toArray) ([U64 e] ++ cu8 d ++ cu8 t) rfl (by first | rfl | simp)) rfl ?_))
 rintro v1 L1 ⟨nb1, hnb1, rfl, rfl⟩
 show JL _ _ _ _ ((1, Ptr nb1 0) :: _) [⟨nb1, [U64 e] ++ cu8 d ++ cu8 t, 161, (0, 0)⟩]
 refine A2 (BN _ ([U64 0] ++ cu8 (zr8 32) ++ cu8 (zr8 16)) E1 (by kernel_rfl)) rfl ?_
 rintro v1 L1 ⟨nb2, hnb2, rfl, rfl⟩
 show JL _ _ _ _ ((2, Ptr nb2 0) :: _) [_, ⟨nb2, [U64 0] ++ cu8 (zr8 32) ++ cu8 (zr8 16), 164, (0, 0)⟩]
 refine AL (AC (AG (AB (AA (.agg ([U64 e] ++ cu8 d ++ cu8 t).toArray) (AM rfl (A5 D1 CD (by simp [hd, ht]) (AT 0 rfl (AJ _)))) rfl ?_))))
 refine AY (AU 1 nb2 49 ([U64 0] ++ cu8 (zr8 32) ++ cu8 (zr8 16)) 164 ([U64 e] ++ cu8 d ++ cu8 t) rfl rfl rfl CS (by simp [hd, ht]) (CK (CK (by simp [Value.oneCell']) CF) CF) (by simp [(AN 32), (AN 16)]) (A0 (by simp [(AN 32), (AN 16), hd, ht]))) rfl ?_
 show JL _ _ _ _ _ [_, ⟨nb2, [U64 e] ++ cu8 d ++ cu8 t, 164, (0, 0)⟩]
 refine AL (AC (BH (BI (.agg ([U64 e] ++ cu8 d ++ cu8 t).toArray) (res1 Tryd.results93 (CQ rfl (A5 EW CS (by simp [hd, ht]) (AT 1 rfl (AJ _))))) fun w1 hw1 => ?_)))
 exact ⟨_, [], rfl, ⟨rfl, rfl⟩, hw1.sub (by simp) (by simp)⟩
theorem bld36_013 {w : World} {v0 : Value} {v1 : Value} {v3 : Value} (h0 : v0.cells = [v0].toArray) (h1 : v1.cells = [v1].toArray) (h3 : v3.cells = [v3].toArray) : (Instr.build 36 ([(0, v0), (1, v1), (3, v3)] : List (Nat × Value)).toArray).run Tryd.prog w = .ok (.agg (((([v0] : List Value) ++ ([v1] : List Value)) ++ ([.slice none 0 0] : List Value)) ++ ([v3] : List Value)).toArray) w :=
 EZ (places := #[(0, 1), (1, 1), (2, 1), (3, 1)]) (Z := (([I64 0] : List Value) ++ (([.slice none 0 0] : List Value) ++ (([.slice none 0 0] : List Value) ++ (([U64 0] : List Value) ++ []))))) (fun _ => by kernel_rfl) BE (fun _ => by kernel_rfl) ((F6 ([I64 0] : List Value) (([.slice none 0 0] : List Value) ++ (([.slice none 0 0] : List Value) ++ (([U64 0] : List Value) ++ []))) ([v0] : List Value) h0 (by simp [AN]) rfl).trans ((FU ([v0] : List Value) ([.slice none 0 0] : List Value) (([.slice none 0 0] : List Value) ++ (([U64 0] : List Value) ++ [])) ([v1] : List Value) h1 (by simp [AN]) rfl).trans ((GG (([v0] : List Value) ++ ([v1] : List Value)) ([.slice none 0 0] : List Value) (([U64 0] : List Value) ++ [])).trans ((FU ((([v0] : List Value) ++ ([v1] : List Value)) ++ ([.slice none 0 0] : List Value)) ([U64 0] : List Value) [] ([v3] : List Value) h3 (by simp [AN]) rfl).trans (by simp [Instr.fill])))))
theorem order0_c (kd : Int) (ai : Option Addr) (ni ci : Nat) (l : List UInt64) (sa : Option Addr) (ns sc : Nat) (ls : List SealR) (bl : UInt64)  (w : World) (hl : l.length = ni) (hnm : ni ≤ 2000000) (hnc : ni ≤ ci) (hcm : ci ≤ maxLen) (hv : RdV w ai (cu64 l)) (hls : ls.length = ns) (hnn : ns ≤ 2000000) (hnd : ns ≤ sc) (hcn : sc ≤ maxLen) (hs : RdV w sa (ls.flatMap sealC)) (h0 : ns = 0) : Calls Tryd.prog 66 #[.agg #[I64 (kd), .slice ai ni ci, .slice sa ns sc, U64 bl]] w (Post w [] (fun v L => v = .agg #[I64 kd, .slice ai ni ci, .slice none 0 0, U64 bl] ∧ L = [])) := by
 have hmx : maxLen = 9223372036854775807 := rfl
 refine enter (P := Tryd.prog) (f := 66) (fn := Tryd.f66) w [] 29 [] [.agg #[I64 (kd), .slice ai ni ci, .slice sa ns sc, U64 bl]] Tryd.func66 rfl rfl (by simp) (BY (by simp) (by simp) (by simp)) ?_
 show JC _ _ _ [(0, .agg #[I64 (kd), .slice ai ni ci, .slice sa ns sc, U64 bl])] _
 refine AG (AB (A2 (DN (.agg #[I64 (kd), .slice ai ni ci, .slice sa ns sc, U64 bl]) ([I64 (kd), .slice ai ni ci, .slice sa ns sc, U64 bl]) rfl (by first | rfl | simp)) rfl ?_))
 rintro v1 L1 ⟨nb1, hnb1, rfl, rfl⟩
 show JL _ _ _ _ ((1, Ptr nb1 0) :: _) [⟨nb1, [I64 (kd), .slice ai ni ci, .slice sa ns sc, U64 bl], 26, (0, 0)⟩]
 refine A2 (BN _ ([I64 0, .slice none 0 0, .slice none 0 0, U64 0]) Tryd.zeroValue36 (by kernel_rfl)) rfl ?_
 rintro v1 L1 ⟨nb2, hnb2, rfl, rfl⟩
 show JL _ _ _ _ ((2, Ptr nb2 0) :: _) [_, ⟨nb2, [I64 0, .slice none 0 0, .slice none 0 0, U64 0], 36, (0, 0)⟩]
 refine AL (AC (AG (AB (AA (Ptr nb1 0) (AD 0 3 1 AV rfl BA rfl rfl) rfl ?_))))
 refine AA (I64 (kd)) (AM rfl (A6 BS (AT 0 rfl (Seg.head)))) rfl ?_
 refine AA (Ptr nb1 1) (AD 1 23 1 AV rfl B9 rfl rfl) rfl ?_
 refine AA (.slice ai ni ci) (AM rfl (A6 C1 (AT 0 rfl (AO (Seg.head))))) rfl ?_
 refine AA (Ptr nb1 3) (AD 3 22 1 AV rfl A1 rfl rfl) rfl ?_
 refine AA (U64 bl) (AM rfl (A6 BD (AT 0 rfl (AO (AO (AO (Seg.head))))))) rfl ?_
 refine AA (.agg #[I64 (kd), .slice ai ni ci, .slice none 0 0, U64 bl]) (DG [(0, I64 (kd)), (1, .slice ai ni ci), (3, U64 bl)] _ rfl (fun _ => bld36_013 rfl rfl rfl)) rfl ?_
 refine A2 (BN _ ([I64 0, .slice none 0 0, .slice none 0 0, U64 0]) Tryd.zeroValue36 (by kernel_rfl)) rfl ?_
 rintro v1 L1 ⟨nb3, hnb3, rfl, rfl⟩
 show JL _ _ _ _ ((3, Ptr nb3 0) :: _) [_, _, ⟨nb3, [I64 0, .slice none 0 0, .slice none 0 0, U64 0], 36, (0, 0)⟩]
 refine AY (AU 2 nb3 4 ([I64 0, .slice none 0 0, .slice none 0 0, U64 0]) 36 ([I64 (kd), .slice ai ni ci, .slice none 0 0, U64 bl]) rfl rfl rfl CJ rfl (by simp [Value.oneCell']) (Nat.le_of_ble_eq_true rfl) (A0 (by simp []))) rfl ?_
 show JL _ _ _ _ _ [_, _, ⟨nb3, [I64 (kd), .slice ai ni ci, .slice none 0 0, U64 bl], 36, (0, 0)⟩]
 refine AL (AC (AG (AG (AB (AA (Ptr nb1 2) (AD 2 24 1 AV rfl C8 rfl rfl) rfl ?_)))))
 refine AA (.slice sa ns sc) (AM rfl (A6 DQ (AT 0 rfl (AO (AO (Seg.head)))))) rfl ?_
 refine AA (I64 ns) (DS CO rfl) rfl ?_
 refine AA _ (AE rfl) rfl ?_
 refine AL (AC (B4 (B5 [false, true, true] ?_)))
 show JC _ _ _ _ [_, _]
 refine D4 (ι := Unit) (fun _ => [(2, Ptr nb2 0), (3, Ptr nb3 0), (14, .slice sa ns sc), (15, I64 ns), (16, I64 0)]) (fun _ => [⟨nb2, [I64 0, .slice none 0 0, .slice none 0 0, U64 0], 36, (0, 0)⟩, ⟨nb3, [I64 (kd), .slice ai ni ci, .slice none 0 0, U64 bl], 36, (0, 0)⟩]) (fun _ => True) (fun _ => 1) () trivial (Sub.all rfl) rfl ?_
 rintro _ _
 show JC _ _ _ [(2, Ptr nb2 0), (3, Ptr nb3 0), (14, .slice sa ns sc), (15, I64 ns), (16, I64 0)] [⟨nb2, [I64 0, .slice none 0 0, .slice none 0 0, U64 0], 36, (0, 0)⟩, ⟨nb3, [I64 (kd), .slice ai ni ci, .slice none 0 0, U64 bl], 36, (0, 0)⟩]
 refine AG (AB (AA (.bool (decide ((0:Int) < ((ns:Int))))) (AP rfl rfl fun _ => DC _ _) rfl ?_))
 refine AL (AC (AG (BZ _ rfl (decide_eq_false (by omega)) ?_)))
 refine DU (A9 (A9 (CR (AC (AG (AB (AA (.agg #[I64 (kd), .slice ai ni ci, .slice none 0 0, U64 bl]) (AM rfl (A5 Tryd.isAgg36 CJ rfl (AT 1 rfl (AJ _)))) rfl ?_)))))))
 refine AY (AU 0 nb2 4 ([I64 0, .slice none 0 0, .slice none 0 0, U64 0]) 36 ([I64 (kd), .slice ai ni ci, .slice none 0 0, U64 bl]) rfl rfl rfl CJ rfl (by simp [Value.oneCell']) (Nat.le_of_ble_eq_true rfl) (A0 (by simp []))) rfl ?_
 show JL _ _ _ _ _ [⟨nb2, [I64 (kd), .slice ai ni ci, .slice none 0 0, U64 bl], 36, (0, 0)⟩, _]
 refine AL (AC (BH (BI (.agg #[I64 (kd), .slice ai ni ci, .slice none 0 0, U64 bl]) (res1 Tryd.results66 (CQ rfl (A5 Tryd.isAgg36 CJ rfl (AT 0 rfl (AJ _))))) fun w1 hw1 => ?_)))
 exact ⟨_, [], rfl, ⟨rfl, rfl⟩, hw1.sub (by simp) (by simp)⟩
theorem orderP_c (kd : Int) (ai : Option Addr) (ni ci : Nat) (l : List UInt64) (sa : Option Addr) (ns sc : Nat) (ls : List SealR) (bl : UInt64)  (w : World) (hl : l.length = ni) (hnm : ni ≤ 2000000) (hnc : ni ≤ ci) (hcm : ci ≤ maxLen) (hv : RdV w ai (cu64 l)) (hls : ls.length = ns) (hnn : ns ≤ 2000000) (hnd : ns ≤ sc) (hcn : sc ≤ maxLen) (hs : RdV w sa (ls.flatMap sealC)) (h0 : 0 < ns) : Calls Tryd.prog 66 #[.agg #[I64 (kd), .slice ai ni ci, .slice sa ns sc, U64 bl]] w (Post w [] (fun v L => ∃ g sp cap, v = .agg #[I64 kd, .slice ai ni ci, Slc g 0 ns cap, U64 bl] ∧ L = [⟨g, ls.flatMap sealC ++ sp, 164, (0, 0)⟩] ∧ sp.length = cap * 49 - ns * 49 ∧ ns ≤ cap ∧ cap ≤ maxLen)) := by
 have hmx : maxLen = 9223372036854775807 := rfl
 refine enter (P := Tryd.prog) (f := 66) (fn := Tryd.f66) w [] 29 [] [.agg #[I64 (kd), .slice ai ni ci, .slice sa ns sc, U64 bl]] Tryd.func66 rfl rfl (by simp) (BY (by simp) (by simp) (by simp)) ?_
 show JC _ _ _ [(0, .agg #[I64 (kd), .slice ai ni ci, .slice sa ns sc, U64 bl])] _
 refine AG (AB (A2 (DN (.agg #[I64 (kd), .slice ai ni ci, .slice sa ns sc, U64 bl]) ([I64 (kd), .slice ai ni ci, .slice sa ns sc, U64 bl]) rfl (by first | rfl | simp)) rfl ?_))
 rintro v1 L1 ⟨nb1, hnb1, rfl, rfl⟩
 show JL _ _ _ _ ((1, Ptr nb1 0) :: _) [⟨nb1, [I64 (kd), .slice ai ni ci, .slice sa ns sc, U64 bl], 26, (0, 0)⟩]
 refine A2 (BN _ ([I64 0, .slice none 0 0, .slice none 0 0, U64 0]) Tryd.zeroValue36 (by kernel_rfl)) rfl ?_
 rintro v1 L1 ⟨nb2, hnb2, rfl, rfl⟩
 show JL _ _ _ _ ((2, Ptr nb2 0) :: _) [_, ⟨nb2, [I64 0, .slice none 0 0, .slice none 0 0, U64 0], 36, (0, 0)⟩]
 refine AL (AC (AG (AB (AA (Ptr nb1 0) (AD 0 3 1 AV rfl BA rfl rfl) rfl ?_))))
 refine AA (I64 (kd)) (AM rfl (A6 BS (AT 0 rfl (Seg.head)))) rfl ?_
 refine AA (Ptr nb1 1) (AD 1 23 1 AV rfl B9 rfl rfl) rfl ?_
 refine AA (.slice ai ni ci) (AM rfl (A6 C1 (AT 0 rfl (AO (Seg.head))))) rfl ?_
 refine AA (Ptr nb1 3) (AD 3 22 1 AV rfl A1 rfl rfl) rfl ?_
 refine AA (U64 bl) (AM rfl (A6 BD (AT 0 rfl (AO (AO (AO (Seg.head))))))) rfl ?_
 refine AA (.agg #[I64 (kd), .slice ai ni ci, .slice none 0 0, U64 bl]) (DG [(0, I64 (kd)), (1, .slice ai ni ci), (3, U64 bl)] _ rfl (fun _ => bld36_013 rfl rfl rfl)) rfl ?_
 refine A2 (BN _ ([I64 0, .slice none 0 0, .slice none 0 0, U64 0]) Tryd.zeroValue36 (by kernel_rfl)) rfl ?_
 rintro v1 L1 ⟨nb3, hnb3, rfl, rfl⟩
 show JL _ _ _ _ ((3, Ptr nb3 0) :: _) [_, _, ⟨nb3, [I64 0, .slice none 0 0, .slice none 0 0, U64 0], 36, (0, 0)⟩]
 refine AY (AU 2 nb3 4 ([I64 0, .slice none 0 0, .slice none 0 0, U64 0]) 36 ([I64 (kd), .slice ai ni ci, .slice none 0 0, U64 bl]) rfl rfl rfl CJ rfl (by simp [Value.oneCell']) (Nat.le_of_ble_eq_true rfl) (A0 (by simp []))) rfl ?_
 show JL _ _ _ _ _ [_, _, ⟨nb3, [I64 (kd), .slice ai ni ci, .slice none 0 0, U64 bl], 36, (0, 0)⟩]
 refine AL (AC (AG (AG (AB (AA (Ptr nb1 2) (AD 2 24 1 AV rfl C8 rfl rfl) rfl ?_)))))
 refine AA (.slice sa ns sc) (AM rfl (A6 DQ (AT 0 rfl (AO (AO (Seg.head)))))) rfl ?_
 refine AA (I64 ns) (DS CO rfl) rfl ?_
 refine AA _ (AE rfl) rfl ?_
 refine AL (AC (B4 (B5 [false, true, true] ?_)))
 show JC _ _ _ _ [_, _]
 refine D4 (ι := (Unit) ⊕ (Nat × List SealR × Nat × List Value × Nat)) (fun x => match x with | .inl _ => [(2, Ptr nb2 0), (3, Ptr nb3 0), (14, .slice sa ns sc), (15, I64 ns), (16, I64 0)] | .inr ⟨i, rr, gb, sp, cp⟩ => [(2, Ptr nb2 0), (3, Ptr nb3 0), (14, .slice sa ns sc), (15, I64 ns), (16, I64 i)]) (fun x => match x with | .inl _ => [⟨nb2, [I64 0, .slice none 0 0, .slice none 0 0, U64 0], 36, (0, 0)⟩, ⟨nb3, [I64 (kd), .slice ai ni ci, .slice none 0 0, U64 bl], 36, (0, 0)⟩] | .inr ⟨i, rr, gb, sp, cp⟩ => [⟨nb2, [I64 0, .slice none 0 0, .slice none 0 0, U64 0], 36, (0, 0)⟩, ⟨nb3, [I64 (kd), .slice ai ni ci, Slc gb 0 i cp, U64 bl], 36, (0, 0)⟩, ⟨gb, (rr).flatMap sealC ++ sp, 164, (0, 0)⟩]) (fun x => match x with | .inl _ => True | .inr ⟨i, rr, gb, sp, cp⟩ => 0 < i ∧ i ≤ ns ∧ rr = ls.take i ∧ rr.length = i ∧ sp.length = cp * 49 - i * 49 ∧ i ≤ cp ∧ cp ≤ maxLen) (fun x => match x with | .inl _ => ns + 2 | .inr ⟨i, rr, gb, sp, cp⟩ => ns + 1 - i) (.inl ()) trivial (Sub.all rfl) rfl ?_
 rintro (_ | ⟨i, rr, gb, sp, cp⟩) hx
 ·
  obtain _ := hx
  show JC _ _ _ [(2, Ptr nb2 0), (3, Ptr nb3 0), (14, .slice sa ns sc), (15, I64 ns), (16, I64 0)] [⟨nb2, [I64 0, .slice none 0 0, .slice none 0 0, U64 0], 36, (0, 0)⟩, ⟨nb3, [I64 (kd), .slice ai ni ci, .slice none 0 0, U64 bl], 36, (0, 0)⟩]
  refine AG (AB (AA (.bool (decide ((0:Int) < ((ns:Int))))) (AP rfl rfl fun _ => DC _ _) rfl ?_))
  refine AL (AC (AG (CM _ rfl (decide_eq_true (by omega)) ?_)))
  refine BL (AC (AG (B4 (AG (AB ?_)))))
  obtain ⟨x1, hx1⟩ : ∃ x, ls[0]? = some x := ⟨_, List.getElem?_eq_getElem (by rw [hls]; omega)⟩
  obtain ⟨bz1, oz1, hz1, hm1⟩ := rows_at FH (by decide) hs hx1
  refine AA (Ptr bz1 oz1) (C9 161 49 oz1 CO CD rfl hz1 rfl (by omega) (by omega) (by omega)) rfl ?_
  refine AA (.agg ([U64 x1.e] ++ cu8 x1.d ++ cu8 x1.t).toArray) (AM rfl (A5 D1 CD (by simp [x1.hd, x1.ht]) (CW (hm1.mem (by simp)) (AJ _) (by omega)))) rfl ?_
  refine A2 (BN _ ([U64 0] ++ cu8 (zr8 32) ++ cu8 (zr8 16)) Tryd.zeroValue161 (by kernel_rfl)) rfl ?_
  rintro v1 L1 ⟨nb4, hnb4, rfl, rfl⟩
  show JL _ _ _ _ ((5, Ptr nb4 0) :: _) [_, _, ⟨nb4, [U64 0] ++ cu8 (zr8 32) ++ cu8 (zr8 16), 161, (0, 0)⟩]
  refine AY (AU 2 nb4 49 ([U64 0] ++ cu8 (zr8 32) ++ cu8 (zr8 16)) 161 ([U64 x1.e] ++ cu8 x1.d ++ cu8 x1.t) rfl rfl rfl CD (by simp [x1.hd, x1.ht]) (CK (CK (by simp [Value.oneCell']) CF) CF) (by simp [(AN 32), (AN 16)]) (A0 (by simp [(AN 32), (AN 16), x1.hd, x1.ht]))) rfl ?_
  show JL _ _ _ _ _ [_, _, ⟨nb4, [U64 x1.e] ++ cu8 x1.d ++ cu8 x1.t, 161, (0, 0)⟩]
  refine AL (AC (CH 29 5 [(0, Ptr nb3 2), (1, .slice none 0 0), (2, .agg ([U64 x1.e] ++ cu8 x1.d ++ cu8 x1.t).toArray)] BP rfl (by decide +kernel) ?_))
  refine B6 ⟨[], [0, 1, 2], [], [0, 1, 2], [3]⟩ 3 rfl rfl (by decide +kernel) rfl ⟨⟨_, rfl, AI rfl (AD 2 34 1 BE rfl CY rfl rfl)⟩, ⟨_, rfl, AI rfl (AM rfl (A6 DR (AT 1 rfl (AO (AO (Seg.head))))))⟩, ⟨_, rfl, AI rfl (AM rfl (A5 D1 CD (by simp [x1.hd, x1.ht]) (AT 2 rfl (AJ _))))⟩, trivial⟩ rfl (A7 rfl (AX 93 [.agg ([U64 x1.e] ++ cu8 x1.d ++ cu8 x1.t).toArray] (.agg ([U64 x1.e] ++ cu8 x1.d ++ cu8 x1.t).toArray) (AZ _ Tryd.call93 rfl) (fun w1 hw1 => doc7_c x1.e x1.d x1.t w1 x1.hd x1.ht))) ?_
  show DP _ _ _ _ _ _ _ _ [_, _, _]
  refine C5 ⟨[3], [0, 1, 2], [2], [0, 1], [4]⟩ 4 _ rfl rfl (by decide +kernel) rfl ⟨⟨_, rfl, AI rfl (AD 2 34 1 BE rfl CY rfl rfl)⟩, ⟨_, rfl, AI rfl (AM rfl (A6 DR (AT 1 rfl (AO (AO (Seg.head))))))⟩, trivial⟩ rfl (A7 rfl (CP 164 49 _ [(0, .agg ([U64 x1.e] ++ cu8 x1.d ++ cu8 x1.t).toArray)] ([U64 x1.e] ++ cu8 x1.d ++ cu8 x1.t) CU CS E1 rfl rfl rfl (fill_one (Z := [U64 0] ++ cu8 (zr8 32) ++ cu8 (zr8 16)) (by simp [x1.hd, x1.ht]) (by kernel_rfl) (by simp [zr8])))) ?_
  rintro v1 L1 ⟨nb5, hnb5, rfl, rfl⟩
  refine ⟨[], ?_⟩
  show DP _ _ _ _ _ _ _ _ [_, _, _, ⟨nb5, [U64 x1.e] ++ cu8 x1.d ++ cu8 x1.t, 164, (0, 0)⟩]
  refine C5 ⟨[3, 4], [0, 1, 2], [2], [0, 1], [5]⟩ 5 _ rfl rfl (by decide +kernel) rfl ⟨⟨_, rfl, AI rfl (AD 2 34 1 BE rfl CY rfl rfl)⟩, ⟨_, rfl, AI rfl (AM rfl (A6 DR (AT 1 rfl (AO (AO (Seg.head))))))⟩, trivial⟩ rfl (A7 rfl (Step_appS 34 164 56 (.agg ([U64 0] ++ cu8 (zr8 32) ++ cu8 (zr8 16)).toArray) [false, false, false, false] (.slice none 0 0) 0 ([] : List SealR) x1 (some ⟨nb5, 0, none⟩) 1 1 CU (by kernel_rfl) (by kernel_rfl) rfl (.inl ⟨rfl, rfl, rfl, rfl⟩) rfl (SrcAt.mem (AT 3 rfl (AJ _))) (by omega) (by unfold maxLen; omega) (by omega))) ?_
  rintro v1 L1 ⟨nb6, sp1, cp1, hg1, rfl, rfl, ha1, ha2, ha3, ha4⟩
  refine ⟨[(6, Ptr nb3 2)], ?_⟩
  show DP _ _ _ _ _ _ _ _ [_, _, _, _, ⟨nb6, (([] : List SealR) ++ [x1]).flatMap sealC ++ sp1, 164, (0, 0)⟩]
  refine B6 ⟨[3, 4, 5], [0, 1, 2, 6], [0, 1, 2], [6], [7]⟩ 7 rfl rfl (by decide +kernel) rfl ⟨⟨_, rfl, AI rfl (AD 2 34 1 BE rfl CY rfl rfl)⟩, trivial⟩ rfl (A7 rfl (C0 1 nb3 2 1 ([I64 (kd), .slice ai ni ci, .slice none 0 0, U64 bl]) 36 (Slc nb6 0 1 cp1) ([Slc nb6 0 1 cp1]) ([I64 (kd), .slice ai ni ci, Slc nb6 0 1 cp1, U64 bl]) rfl rfl rfl rfl CY rfl (by simp [Value.oneCell']) (Nat.le_of_ble_eq_true rfl) (rfl))) ?_
  show DP _ _ _ _ _ _ _ _ [_, ⟨nb3, [I64 (kd), .slice ai ni ci, Slc nb6 0 1 cp1, U64 bl], 36, (0, 0)⟩, _, _, _]
  refine C2 ⟨[3, 4, 5, 7], [0, 1, 2, 6], [0, 1, 2, 6], [], []⟩ rfl rfl (by decide +kernel) rfl trivial ?_
  refine CB (F' := [(20, Ptr nb3 2), (21, .slice none 0 0), (22, .agg ([U64 x1.e] ++ cu8 x1.d ++ cu8 x1.t).toArray), (23, .agg ([U64 x1.e] ++ cu8 x1.d ++ cu8 x1.t).toArray), (24, Slc nb5 0 1 1), (25, Slc nb6 0 1 cp1), (26, Ptr nb3 2), (2, Ptr nb2 0), (3, Ptr nb3 0), (14, .slice sa ns sc), (15, I64 ns), (16, I64 0), (17, .bool (decide ((0:Int) < ((ns:Int))))), (18, Ptr bz1 oz1), (19, .agg ([U64 x1.e] ++ cu8 x1.d ++ cu8 x1.t).toArray), (5, Ptr nb4 0)]) (by kernel_rfl) ?_
  refine B0 (AC (AB (AA (I64 1) (AP rfl rfl fun _ => DL _ _ (1:Int) (by omega) (by omega)) rfl ?_)))
  refine AA _ (AE rfl) rfl ?_
  refine AL (DO (B5 [true, true, false, false, true] ?_))
  show K _ _ [_, _, _] _
  refine ER (.inr (1, ([] : List SealR) ++ [x1], nb6, sp1, cp1)) ⟨by omega, by omega, take_step (i := 0) hx1, (ha1).trans (by first | rfl | simp +arith), (ha2).trans (by first | rfl | simp +arith), by omega, by omega⟩ (by first | (simp; omega) | simp | (dsimp only; omega) | omega) (Sub.all rfl) rfl
 ·
  obtain ⟨hi1, hi2, hi3, hi4, hi5, hi6, hi7⟩ := hx
  show JC _ _ _ [(2, Ptr nb2 0), (3, Ptr nb3 0), (14, .slice sa ns sc), (15, I64 ns), (16, I64 i)] [⟨nb2, [I64 0, .slice none 0 0, .slice none 0 0, U64 0], 36, (0, 0)⟩, ⟨nb3, [I64 (kd), .slice ai ni ci, Slc gb 0 i cp, U64 bl], 36, (0, 0)⟩, ⟨gb, (rr).flatMap sealC ++ sp, 164, (0, 0)⟩]
  refine AG (AB (AA (.bool (decide (((i:Int)) < ((ns:Int))))) (AP rfl rfl fun _ => DC _ _) rfl ?_))
  refine AL (AC (AG (CL (decide (((i:Int)) < ((ns:Int)))) rfl (fun hb1 => ?_) (fun hb1 => ?_))))
  ·
   have hp1 : ((i:Int)) < ((ns:Int)) := of_decide_eq_true hb1
   refine BL (AC (AG (B4 (AG (AB ?_)))))
   obtain ⟨x2, hx2⟩ : ∃ x, ls[i]? = some x := ⟨_, List.getElem?_eq_getElem (by rw [hls]; omega)⟩
   obtain ⟨bz2, oz2, hz2, hm2⟩ := rows_at FH (by decide) hs hx2
   refine AA (Ptr bz2 (49*i + oz2)) (C9 161 49 (49*i + oz2) CO CD rfl hz2 rfl (by omega) (by omega) (by omega)) rfl ?_
   refine AA (.agg ([U64 x2.e] ++ cu8 x2.d ++ cu8 x2.t).toArray) (AM rfl (A5 D1 CD (by simp [x2.hd, x2.ht]) (CW (hm2.mem (by simp)) (AJ _) (by omega)))) rfl ?_
   refine A2 (BN _ ([U64 0] ++ cu8 (zr8 32) ++ cu8 (zr8 16)) Tryd.zeroValue161 (by kernel_rfl)) rfl ?_
   rintro v1 L1 ⟨nb7, hnb7, rfl, rfl⟩
   show JL _ _ _ _ ((5, Ptr nb7 0) :: _) [_, _, _, ⟨nb7, [U64 0] ++ cu8 (zr8 32) ++ cu8 (zr8 16), 161, (0, 0)⟩]
   refine AY (AU 3 nb7 49 ([U64 0] ++ cu8 (zr8 32) ++ cu8 (zr8 16)) 161 ([U64 x2.e] ++ cu8 x2.d ++ cu8 x2.t) rfl rfl rfl CD (by simp [x2.hd, x2.ht]) (CK (CK (by simp [Value.oneCell']) CF) CF) (by simp [(AN 32), (AN 16)]) (A0 (by simp [(AN 32), (AN 16), x2.hd, x2.ht]))) rfl ?_
   show JL _ _ _ _ _ [_, _, _, ⟨nb7, [U64 x2.e] ++ cu8 x2.d ++ cu8 x2.t, 161, (0, 0)⟩]
   refine AL (AC (CH 29 5 [(0, Ptr nb3 2), (1, Slc gb 0 i cp), (2, .agg ([U64 x2.e] ++ cu8 x2.d ++ cu8 x2.t).toArray)] BP rfl (by decide +kernel) ?_))
   refine B6 ⟨[], [0, 1, 2], [], [0, 1, 2], [3]⟩ 3 rfl rfl (by decide +kernel) rfl ⟨⟨_, rfl, AI rfl (AD 2 34 1 BE rfl CY rfl rfl)⟩, ⟨_, rfl, AI rfl (AM rfl (A6 DR (AT 1 rfl (AO (AO (Seg.head))))))⟩, ⟨_, rfl, AI rfl (AM rfl (A5 D1 CD (by simp [x2.hd, x2.ht]) (AT 3 rfl (AJ _))))⟩, trivial⟩ rfl (A7 rfl (AX 93 [.agg ([U64 x2.e] ++ cu8 x2.d ++ cu8 x2.t).toArray] (.agg ([U64 x2.e] ++ cu8 x2.d ++ cu8 x2.t).toArray) (AZ _ Tryd.call93 rfl) (fun w1 hw1 => doc7_c x2.e x2.d x2.t w1 x2.hd x2.ht))) ?_
   show DP _ _ _ _ _ _ _ _ [_, _, _, _]
   refine C5 ⟨[3], [0, 1, 2], [2], [0, 1], [4]⟩ 4 _ rfl rfl (by decide +kernel) rfl ⟨⟨_, rfl, AI rfl (AD 2 34 1 BE rfl CY rfl rfl)⟩, ⟨_, rfl, AI rfl (AM rfl (A6 DR (AT 1 rfl (AO (AO (Seg.head))))))⟩, trivial⟩ rfl (A7 rfl (CP 164 49 _ [(0, .agg ([U64 x2.e] ++ cu8 x2.d ++ cu8 x2.t).toArray)] ([U64 x2.e] ++ cu8 x2.d ++ cu8 x2.t) CU CS E1 rfl rfl rfl (fill_one (Z := [U64 0] ++ cu8 (zr8 32) ++ cu8 (zr8 16)) (by simp [x2.hd, x2.ht]) (by kernel_rfl) (by simp [zr8])))) ?_
   rintro v1 L1 ⟨nb8, hnb8, rfl, rfl⟩
   refine ⟨[], ?_⟩
   show DP _ _ _ _ _ _ _ _ [_, _, _, _, ⟨nb8, [U64 x2.e] ++ cu8 x2.d ++ cu8 x2.t, 164, (0, 0)⟩]
   refine C5 ⟨[3, 4], [0, 1, 2], [2], [0, 1], [5]⟩ 5 _ rfl rfl (by decide +kernel) rfl ⟨⟨_, rfl, AI rfl (AD 2 34 1 BE rfl CY rfl rfl)⟩, ⟨_, rfl, AI rfl (AM rfl (A6 DR (AT 1 rfl (AO (AO (Seg.head))))))⟩, trivial⟩ rfl (A7 rfl (Step_appS 34 164 56 (.agg ([U64 0] ++ cu8 (zr8 32) ++ cu8 (zr8 16)).toArray) [false, false, true, false, false] (Slc gb 0 i cp) i rr x2 (some ⟨nb8, 0, none⟩) 1 (i + 1) CU (by kernel_rfl) (by kernel_rfl) rfl (.inr ⟨gb, sp, cp, rfl, rfl, (by have h : (rr).length = i := hi4; omega), (by first | exact hi5 | omega), (by omega), (by omega)⟩) rfl (SrcAt.mem (AT 4 rfl (AJ _))) (by omega) (by unfold maxLen; omega) (by omega))) ?_
   rintro v1 L1 ⟨nb9, sp2, cp2, hg2, rfl, rfl, ha5, ha6, ha7, ha8⟩
   refine ⟨[(6, Ptr nb3 2)], ?_⟩
   show DP _ _ _ _ _ _ _ _ [_, _, _, _, ⟨nb9, (rr ++ [x2]).flatMap sealC ++ sp2, 164, (0, 0)⟩]
   refine B6 ⟨[3, 4, 5], [0, 1, 2, 6], [0, 1, 2], [6], [7]⟩ 7 rfl rfl (by decide +kernel) rfl ⟨⟨_, rfl, AI rfl (AD 2 34 1 BE rfl CY rfl rfl)⟩, trivial⟩ rfl (A7 rfl (C0 1 nb3 2 1 ([I64 (kd), .slice ai ni ci, Slc gb 0 i cp, U64 bl]) 36 (Slc nb9 0 (i + 1) cp2) ([Slc nb9 0 (i + 1) cp2]) ([I64 (kd), .slice ai ni ci, Slc nb9 0 (i + 1) cp2, U64 bl]) rfl rfl rfl rfl CY rfl (by simp [Value.oneCell']) (Nat.le_of_ble_eq_true rfl) (rfl))) ?_
   show DP _ _ _ _ _ _ _ _ [_, ⟨nb3, [I64 (kd), .slice ai ni ci, Slc nb9 0 (i + 1) cp2, U64 bl], 36, (0, 0)⟩, _, _, _]
   refine C2 ⟨[3, 4, 5, 7], [0, 1, 2, 6], [0, 1, 2, 6], [], []⟩ rfl rfl (by decide +kernel) rfl trivial ?_
   refine CB (F' := [(20, Ptr nb3 2), (21, Slc gb 0 i cp), (22, .agg ([U64 x2.e] ++ cu8 x2.d ++ cu8 x2.t).toArray), (23, .agg ([U64 x2.e] ++ cu8 x2.d ++ cu8 x2.t).toArray), (24, Slc nb8 0 1 1), (25, Slc nb9 0 (i + 1) cp2), (26, Ptr nb3 2), (2, Ptr nb2 0), (3, Ptr nb3 0), (14, .slice sa ns sc), (15, I64 ns), (16, I64 i), (17, .bool (decide (((i:Int)) < ((ns:Int))))), (18, Ptr bz2 (49*i + oz2)), (19, .agg ([U64 x2.e] ++ cu8 x2.d ++ cu8 x2.t).toArray), (5, Ptr nb7 0)]) (by kernel_rfl) ?_
   refine B0 (AC (AB (AA (I64 ((i:Int) + 1)) (AP rfl rfl fun _ => DL _ _ ((i:Int) + 1) (by omega) (by omega)) rfl ?_)))
   refine AA _ (AE rfl) rfl ?_
   refine AL (DO (B5 [true, true, false, false, true] ?_))
   show K _ _ [_, _, _] _
   refine ER (.inr (i + 1, rr ++ [x2], nb9, sp2, cp2)) ⟨by omega, by omega, (by rw [hi3]; exact take_step hx2), (ha5).trans (by first | rfl | simp +arith), (ha6).trans (by first | rfl | simp +arith), by omega, by omega⟩ (by first | (simp; omega) | simp | (dsimp only; omega) | omega) (Sub.all rfl) rfl
  ·
   have hp1 : ¬ (((i:Int)) < ((ns:Int))) := of_decide_eq_false hb1
   refine DU (A9 (A9 (CR (AC (AG (AB (AA (.agg #[I64 (kd), .slice ai ni ci, Slc gb 0 i cp, U64 bl]) (AM rfl (A5 Tryd.isAgg36 CJ rfl (AT 1 rfl (AJ _)))) rfl ?_)))))))
   refine AY (AU 0 nb2 4 ([I64 0, .slice none 0 0, .slice none 0 0, U64 0]) 36 ([I64 (kd), .slice ai ni ci, Slc gb 0 i cp, U64 bl]) rfl rfl rfl CJ rfl (by simp [Value.oneCell']) (Nat.le_of_ble_eq_true rfl) (A0 (by simp []))) rfl ?_
   show JL _ _ _ _ _ [⟨nb2, [I64 (kd), .slice ai ni ci, Slc gb 0 i cp, U64 bl], 36, (0, 0)⟩, _, _]
   refine AL (AC (BH (B5 [true, false, true] ?_)))
   show JQ _ _ _ _ [_, _]
   refine BI (.agg #[I64 (kd), .slice ai ni ci, Slc gb 0 i cp, U64 bl]) (res1 Tryd.results66 (CQ rfl (A5 Tryd.isAgg36 CJ rfl (AT 0 rfl (AJ _))))) fun w1 hw1 => ?_
   obtain rfl : i = ns := by omega
   have hr : rr = ls := by rw [hi3]; exact List.take_of_length_le (by omega)
   rw [hr] at hw1
   exact ⟨_, _, rfl, ⟨gb, sp, cp, rfl, rfl, by omega, by omega, hi7⟩, hw1.sub (by simp) (by simp)⟩
end Go.Proofs.YtkdpdgpphpngeaaDoor
namespace Go.Proofs.YtkdpdgpphpngeaaDoor
open Go Go.Sx
attribute [local irreducible] mid zr8 zr32 numK valK rvalK rotr wordL spreadL comprL cpN adN spN constL initL padL stN outN sumG putL RightB
theorem rright13_c (kd : Int) (ai : Option Addr) (ni ci : Nat) (l : List UInt64) (sa : Option Addr) (ns sc : Nat) (ls : List SealR) (bl : UInt64)  (w : World) (hl : l.length = ni) (hnm : ni ≤ 2000000) (hnc : ni ≤ ci) (hcm : ci ≤ maxLen) (hv : RdV w ai (cu64 l)) (hls : ls.length = ns) (hnn : ns ≤ 2000000) (hnd : ns ≤ sc) (hcn : sc ≤ maxLen) (hs : RdV w sa (ls.flatMap sealC))  : Calls Tryd.prog 67 #[.agg #[I64 (kd), .slice ai ni ci, .slice sa ns sc, U64 bl]] w (Post w [] (fun v L => v = .bool (RightO kd l ls bl) ∧ L = [])) := by
 have hmx : maxLen = 9223372036854775807 := rfl
 refine enter (P := Tryd.prog) (f := 67) (fn := Tryd.f67) w [] 89 [] [.agg #[I64 (kd), .slice ai ni ci, .slice sa ns sc, U64 bl]] Tryd.func67 rfl rfl (by simp) (BY (by simp) (by simp) (by simp)) ?_
 show JC _ _ _ [(0, .agg #[I64 (kd), .slice ai ni ci, .slice sa ns sc, U64 bl])] _
 refine AG (AB (A2 (DN (.agg #[I64 (kd), .slice ai ni ci, .slice sa ns sc, U64 bl]) ([I64 (kd), .slice ai ni ci, .slice sa ns sc, U64 bl]) rfl (by first | rfl | simp)) rfl ?_))
 rintro v1 L1 ⟨nb1, hnb1, rfl, rfl⟩
 show JL _ _ _ _ ((1, Ptr nb1 0) :: _) [⟨nb1, [I64 (kd), .slice ai ni ci, .slice sa ns sc, U64 bl], 36, (0, 0)⟩]
 refine AA _ (AH rfl) rfl ?_
 refine AL (AC (AG (AG (AB (AA (Ptr nb1 0) (AD 0 3 1 BE rfl BA rfl rfl) rfl ?_)))))
 refine AA (I64 (kd)) (AM rfl (A6 BS (AT 0 rfl (Seg.head)))) rfl ?_
 refine AA (.bool (decide ((kd) = (3:Int)))) (AP rfl rfl fun _ => CA _ _) rfl ?_
 refine AL (AC (CL (decide ((kd) = (3:Int))) rfl (fun hb1 => ?_) (fun hb1 => ?_)))
 ·
  have hp1 : (kd) = (3:Int) := of_decide_eq_true hb1
  refine AG (AB (AA (Ptr nb1 1) (AD 1 23 1 BE rfl B9 rfl rfl) rfl ?_))
  refine AA (.slice ai ni ci) (AM rfl (A6 C1 (AT 0 rfl (AO (Seg.head))))) rfl ?_
  refine AA (I64 ni) (DS BR rfl) rfl ?_
  refine AA (.bool (decide (((ni:Int)) = (0:Int)))) (AP rfl rfl fun _ => CA _ _) rfl ?_
  refine AA _ (AE rfl) rfl ?_
  rcases Bool.eq_false_or_eq_true (decide (((ni:Int)) = (0:Int))) with hb2 | hb2
  ·
   have hp2 : ((ni:Int)) = (0:Int) := of_decide_eq_true hb2
   refine AS 4 11 true _ (Ptr nb1 2) rfl rfl hb2 (AD 2 34 1 BE rfl CY rfl rfl) rfl ?_
   refine AS 4 11 true _ (.slice sa ns sc) rfl rfl hb2 (AM rfl (A6 DR (AT 0 rfl (AO (AO (Seg.head)))))) rfl ?_
   refine AS 4 11 true _ (I64 ns) rfl rfl hb2 (DS CU rfl) rfl ?_
   refine AS 4 11 true _ (.bool (decide (((ns:Int)) = (0:Int)))) rfl rfl hb2 (AP rfl rfl fun _ => CA _ _) rfl ?_
   refine AA _ (BO _ rfl hb2 rfl) rfl ?_
   refine AA _ (AE rfl) rfl ?_
   rcases Bool.eq_false_or_eq_true (decide (((ns:Int)) = (0:Int))) with hb3 | hb3
   ·
    have hp3 : ((ns:Int)) = (0:Int) := of_decide_eq_true hb3
    refine AS 10 17 true _ (Ptr nb1 3) rfl rfl hb3 (AD 3 22 1 BE rfl A1 rfl rfl) rfl ?_
    refine AS 10 17 true _ (U64 bl) rfl rfl hb3 (AM rfl (A6 BD (AT 0 rfl (AO (AO (AO (Seg.head))))))) rfl ?_
    refine AS 10 17 true _ (.bool (decide ((0:UInt64) < bl))) rfl rfl hb3 (AP rfl rfl fun _ => bin_gtr_u64 bl (0:UInt64)) rfl ?_
    refine AA _ (BO _ rfl hb3 rfl) rfl ?_
    refine AA _ (AE rfl) rfl ?_
    rcases Bool.eq_false_or_eq_true (decide ((0:UInt64) < bl)) with hb4 | hb4
    ·
     have hp4 : (0:UInt64) < bl := of_decide_eq_true hb4
     refine AS 15 22 true _ (Ptr nb1 3) rfl rfl hb4 (AD 3 22 1 BE rfl A1 rfl rfl) rfl ?_
     refine AS 15 22 true _ (U64 bl) rfl rfl hb4 (AM rfl (A6 BD (AT 0 rfl (AO (AO (AO (Seg.head))))))) rfl ?_
     refine AS 15 22 true _ (.bool (decide (bl ≤ (4294967296:UInt64)))) rfl rfl hb4 (AP rfl rfl fun _ => bin_leq_u64 bl (4294967296:UInt64)) rfl ?_
     refine AA _ (BO _ rfl hb4 rfl) rfl ?_
     refine AA _ (AH rfl) rfl ?_
     refine AL (AC (BH (A4 (B5 [false] ?_))))
     show JQ _ _ _ _ []
     refine BI (.bool (decide (bl ≤ (4294967296:UInt64)))) (res1 EB (BU rfl)) fun w1 hw1 => ?_
     refine ⟨_, [], rfl, ⟨congrArg Value.bool ?_, rfl⟩, hw1.sub (by simp) (by simp)⟩
     unfold RightO
     rw [hl, hls]
     first | rw [if_pos (show kd = 1 by omega)] | rw [if_neg (show ¬ kd = 1 by omega), if_pos (show kd = 2 by omega)] | rw [if_neg (show ¬ kd = 1 by omega), if_neg (show ¬ kd = 2 by omega), if_pos (show kd = 3 by omega)] | rw [if_neg (show ¬ kd = 1 by omega), if_neg (show ¬ kd = 2 by omega), if_neg (show ¬ kd = 3 by omega)]
     rw [show decide ((1:UInt64) ≤ bl) = decide ((0:UInt64) < bl) from decide_eq_decide.2 (bl_pos bl).symm]
     first | rw [decide_eq_true (show ni + ns = 0 by omega), Bool.true_and] | rw [decide_eq_false (show ¬ ni + ns = 0 by omega), Bool.false_and]
     all_goals (first | rfl | (simp only [*, Bool.true_and, Bool.false_and, Bool.and_true, Bool.and_false, Bool.not_true, Bool.not_false]; done) | (simp [*]; done))
    ·
     have hp4 : ¬ ((0:UInt64) < bl) := of_decide_eq_false hb4
     refine AF 15 22 true _ rfl rfl hb4 rfl ?_
     refine AF 15 22 true _ rfl rfl hb4 rfl ?_
     refine AF 15 22 true _ rfl rfl hb4 rfl ?_
     refine AA _ (BF _ rfl hb4 rfl) rfl ?_
     refine AA _ (AH rfl) rfl ?_
     refine AL (AC (BH (A4 (B5 [false] ?_))))
     show JQ _ _ _ _ []
     refine BI (.bool false) (res1 EB (BU rfl)) fun w1 hw1 => ?_
     refine ⟨_, [], rfl, ⟨congrArg Value.bool ?_, rfl⟩, hw1.sub (by simp) (by simp)⟩
     unfold RightO
     rw [hl, hls]
     first | rw [if_pos (show kd = 1 by omega)] | rw [if_neg (show ¬ kd = 1 by omega), if_pos (show kd = 2 by omega)] | rw [if_neg (show ¬ kd = 1 by omega), if_neg (show ¬ kd = 2 by omega), if_pos (show kd = 3 by omega)] | rw [if_neg (show ¬ kd = 1 by omega), if_neg (show ¬ kd = 2 by omega), if_neg (show ¬ kd = 3 by omega)]
     rw [show decide ((1:UInt64) ≤ bl) = decide ((0:UInt64) < bl) from decide_eq_decide.2 (bl_pos bl).symm]
     first | rw [decide_eq_true (show ni + ns = 0 by omega), Bool.true_and] | rw [decide_eq_false (show ¬ ni + ns = 0 by omega), Bool.false_and]
     all_goals (first | rfl | (simp only [*, Bool.true_and, Bool.false_and, Bool.and_true, Bool.and_false, Bool.not_true, Bool.not_false]; done) | (simp [*]; done))
   ·
    have hp3 : ¬ (((ns:Int)) = (0:Int)) := of_decide_eq_false hb3
    refine AF 10 17 true _ rfl rfl hb3 rfl ?_
    refine AF 10 17 true _ rfl rfl hb3 rfl ?_
    refine AF 10 17 true _ rfl rfl hb3 rfl ?_
    refine AA _ (BF _ rfl hb3 rfl) rfl ?_
    refine AA _ (AE rfl) rfl ?_
    refine AF 15 22 true _ rfl rfl rfl rfl ?_
    refine AF 15 22 true _ rfl rfl rfl rfl ?_
    refine AF 15 22 true _ rfl rfl rfl rfl ?_
    refine AA _ (BF _ rfl rfl rfl) rfl ?_
    refine AA _ (AH rfl) rfl ?_
    refine AL (AC (BH (A4 (B5 [false] ?_))))
    show JQ _ _ _ _ []
    refine BI (.bool false) (res1 EB (BU rfl)) fun w1 hw1 => ?_
    refine ⟨_, [], rfl, ⟨congrArg Value.bool ?_, rfl⟩, hw1.sub (by simp) (by simp)⟩
    unfold RightO
    rw [hl, hls]
    first | rw [if_pos (show kd = 1 by omega)] | rw [if_neg (show ¬ kd = 1 by omega), if_pos (show kd = 2 by omega)] | rw [if_neg (show ¬ kd = 1 by omega), if_neg (show ¬ kd = 2 by omega), if_pos (show kd = 3 by omega)] | rw [if_neg (show ¬ kd = 1 by omega), if_neg (show ¬ kd = 2 by omega), if_neg (show ¬ kd = 3 by omega)]
    rw [show decide ((1:UInt64) ≤ bl) = decide ((0:UInt64) < bl) from decide_eq_decide.2 (bl_pos bl).symm]
    first | rw [decide_eq_true (show ni + ns = 0 by omega), Bool.true_and] | rw [decide_eq_false (show ¬ ni + ns = 0 by omega), Bool.false_and]
    all_goals (first | rfl | (simp only [*, Bool.true_and, Bool.false_and, Bool.and_true, Bool.and_false, Bool.not_true, Bool.not_false]; done) | (simp [*]; done))
  ·
   have hp2 : ¬ (((ni:Int)) = (0:Int)) := of_decide_eq_false hb2
   refine AF 4 11 true _ rfl rfl hb2 rfl ?_
   refine AF 4 11 true _ rfl rfl hb2 rfl ?_
   refine AF 4 11 true _ rfl rfl hb2 rfl ?_
   refine AF 4 11 true _ rfl rfl hb2 rfl ?_
   refine AA _ (BF _ rfl hb2 rfl) rfl ?_
   refine AA _ (AE rfl) rfl ?_
   refine AF 10 17 true _ rfl rfl rfl rfl ?_
   refine AF 10 17 true _ rfl rfl rfl rfl ?_
   refine AF 10 17 true _ rfl rfl rfl rfl ?_
   refine AA _ (BF _ rfl rfl rfl) rfl ?_
   refine AA _ (AE rfl) rfl ?_
   refine AF 15 22 true _ rfl rfl rfl rfl ?_
   refine AF 15 22 true _ rfl rfl rfl rfl ?_
   refine AF 15 22 true _ rfl rfl rfl rfl ?_
   refine AA _ (BF _ rfl rfl rfl) rfl ?_
   refine AA _ (AH rfl) rfl ?_
   refine AL (AC (BH (A4 (B5 [false] ?_))))
   show JQ _ _ _ _ []
   refine BI (.bool false) (res1 EB (BU rfl)) fun w1 hw1 => ?_
   refine ⟨_, [], rfl, ⟨congrArg Value.bool ?_, rfl⟩, hw1.sub (by simp) (by simp)⟩
   unfold RightO
   rw [hl, hls]
   first | rw [if_pos (show kd = 1 by omega)] | rw [if_neg (show ¬ kd = 1 by omega), if_pos (show kd = 2 by omega)] | rw [if_neg (show ¬ kd = 1 by omega), if_neg (show ¬ kd = 2 by omega), if_pos (show kd = 3 by omega)] | rw [if_neg (show ¬ kd = 1 by omega), if_neg (show ¬ kd = 2 by omega), if_neg (show ¬ kd = 3 by omega)]
   rw [show decide ((1:UInt64) ≤ bl) = decide ((0:UInt64) < bl) from decide_eq_decide.2 (bl_pos bl).symm]
   first | rw [decide_eq_true (show ni + ns = 0 by omega), Bool.true_and] | rw [decide_eq_false (show ¬ ni + ns = 0 by omega), Bool.false_and]
   all_goals (first | rfl | (simp only [*, Bool.true_and, Bool.false_and, Bool.and_true, Bool.and_false, Bool.not_true, Bool.not_false]; done) | (simp [*]; done))
 ·
  have hp1 : ¬ ((kd) = (3:Int)) := of_decide_eq_false hb1
  refine BL (AC (AG (AG (AB (AA (Ptr nb1 0) (AD 0 3 1 BE rfl BA rfl rfl) rfl ?_)))))
  refine AA (I64 (kd)) (AM rfl (A6 BS (AT 0 rfl (Seg.head)))) rfl ?_
  refine AA (.bool (decide ((kd) ≠ (1:Int)))) (AP rfl rfl fun _ => CE _ _) rfl ?_
  refine AA _ (AE rfl) rfl ?_
  rcases Bool.eq_false_or_eq_true (decide ((kd) ≠ (1:Int))) with hb5 | hb5
  ·
   have hp5 : (kd) ≠ (1:Int) := of_decide_eq_true hb5
   refine AS 3 30 true _ (Ptr nb1 0) rfl rfl hb5 (AD 0 3 1 BE rfl BA rfl rfl) rfl ?_
   refine AS 3 30 true _ (I64 (kd)) rfl rfl hb5 (AM rfl (A6 BS (AT 0 rfl (Seg.head)))) rfl ?_
   refine AS 3 30 true _ (.bool (decide ((kd) ≠ (2:Int)))) rfl rfl hb5 (AP rfl rfl fun _ => CE _ _) rfl ?_
   refine AA _ (BO _ rfl hb5 rfl) rfl ?_
   refine AA _ (AE rfl) rfl ?_
   rcases Bool.eq_false_or_eq_true (decide ((kd) ≠ (2:Int))) with hb6 | hb6
   ·
    have hp6 : (kd) ≠ (2:Int) := of_decide_eq_true hb6
    refine AF 8 35 false _ rfl rfl hb6 rfl ?_
    refine AF 8 35 false _ rfl rfl hb6 rfl ?_
    refine AF 8 35 false _ rfl rfl hb6 rfl ?_
    refine AA _ (BO _ rfl hb6 rfl) rfl ?_
    refine AA _ (AE rfl) rfl ?_
    refine AF 13 40 false _ rfl rfl rfl rfl ?_
    refine AF 13 40 false _ rfl rfl rfl rfl ?_
    refine AF 13 40 false _ rfl rfl rfl rfl ?_
    refine AF 13 40 false _ rfl rfl rfl rfl ?_
    refine AA _ (BO _ rfl rfl rfl) rfl ?_
    refine AL (AC (CM _ rfl rfl ?_))
    refine AG (AB (AA _ (AH rfl) rfl ?_))
    refine AL (AC (BH (A4 (B5 [false] ?_))))
    show JQ _ _ _ _ []
    refine BI (.bool false) (res1 EB (BU rfl)) fun w1 hw1 => ?_
    refine ⟨_, [], rfl, ⟨congrArg Value.bool ?_, rfl⟩, hw1.sub (by simp) (by simp)⟩
    unfold RightO
    rw [hl, hls]
    first | rw [if_pos (show kd = 1 by omega)] | rw [if_neg (show ¬ kd = 1 by omega), if_pos (show kd = 2 by omega)] | rw [if_neg (show ¬ kd = 1 by omega), if_neg (show ¬ kd = 2 by omega), if_pos (show kd = 3 by omega)] | rw [if_neg (show ¬ kd = 1 by omega), if_neg (show ¬ kd = 2 by omega), if_neg (show ¬ kd = 3 by omega)]
    all_goals (first | rfl | (simp [*]; done) | (simp_all; done) | (simp_all; omega))
   ·
    have hp6 : ¬ ((kd) ≠ (2:Int)) := of_decide_eq_false hb6
    refine AS 8 35 false _ (Ptr nb1 3) rfl rfl hb6 (AD 3 22 1 BE rfl A1 rfl rfl) rfl ?_
    refine AS 8 35 false _ (U64 bl) rfl rfl hb6 (AM rfl (A6 BD (AT 0 rfl (AO (AO (AO (Seg.head))))))) rfl ?_
    refine AS 8 35 false _ (.bool (decide (bl ≠ (0:UInt64)))) rfl rfl hb6 (AP rfl rfl fun _ => EO bl (0:UInt64)) rfl ?_
    refine AA _ (BF _ rfl hb6 rfl) rfl ?_
    refine AA _ (AE rfl) rfl ?_
    rcases Bool.eq_false_or_eq_true (decide (bl ≠ (0:UInt64))) with hb7 | hb7
    ·
     have hp7 : bl ≠ (0:UInt64) := of_decide_eq_true hb7
     refine AF 13 40 false _ rfl rfl hb7 rfl ?_
     refine AF 13 40 false _ rfl rfl hb7 rfl ?_
     refine AF 13 40 false _ rfl rfl hb7 rfl ?_
     refine AF 13 40 false _ rfl rfl hb7 rfl ?_
     refine AA _ (BO _ rfl hb7 rfl) rfl ?_
     refine AL (AC (CM _ rfl rfl ?_))
     refine AG (AB (AA _ (AH rfl) rfl ?_))
     refine AL (AC (BH (A4 (B5 [false] ?_))))
     show JQ _ _ _ _ []
     refine BI (.bool false) (res1 EB (BU rfl)) fun w1 hw1 => ?_
     refine ⟨_, [], rfl, ⟨congrArg Value.bool ?_, rfl⟩, hw1.sub (by simp) (by simp)⟩
     unfold RightO
     rw [hl, hls]
     first | rw [if_pos (show kd = 1 by omega)] | rw [if_neg (show ¬ kd = 1 by omega), if_pos (show kd = 2 by omega)] | rw [if_neg (show ¬ kd = 1 by omega), if_neg (show ¬ kd = 2 by omega), if_pos (show kd = 3 by omega)] | rw [if_neg (show ¬ kd = 1 by omega), if_neg (show ¬ kd = 2 by omega), if_neg (show ¬ kd = 3 by omega)]
     all_goals (first | rfl | (simp [*]; done) | (simp_all; done) | (simp_all; omega))
    ·
     have hp7 : ¬ (bl ≠ (0:UInt64)) := of_decide_eq_false hb7
     refine AS 13 40 false _ (Ptr nb1 1) rfl rfl hb7 (AD 1 23 1 BE rfl B9 rfl rfl) rfl ?_
     refine AS 13 40 false _ (.slice ai ni ci) rfl rfl hb7 (AM rfl (A6 C1 (AT 0 rfl (AO (Seg.head))))) rfl ?_
     refine DZ 13 40 false _ rfl rfl hb7 (AX 79 [I64 32, .slice ai ni ci] (.bool (decide (RightI l))) (AZ _ Tryd.call79 rfl) (fun w1 hw1 => rpright_c ai ni ci l w1 hl (by omega) (by omega) (by omega) (FM hw1 rfl hv))) rfl ?_
     rintro v1 L1 ⟨rfl, rfl⟩
     show JL _ _ _ _ ((43, .bool (decide (RightI l))) :: _) [_]
     refine AS 13 40 false _ (.bool (!(decide (RightI l)))) rfl rfl hb7 (FD rfl) rfl ?_
     refine AA _ (BF _ rfl hb7 rfl) rfl ?_
     refine AL (AC (CL (!(decide (RightI l))) rfl (fun hb8 => ?_) (fun hb8 => ?_)))
     ·
      have hb9 : (decide (RightI l)) = false := by simpa using hb8
      have hp9 : ¬ (RightI l) := of_decide_eq_false hb9
      refine AG (AB (AA _ (AH rfl) rfl ?_))
      refine AL (AC (BH (A4 (B5 [false] ?_))))
      show JQ _ _ _ _ []
      refine BI (.bool false) (res1 EB (BU rfl)) fun w1 hw1 => ?_
      refine ⟨_, [], rfl, ⟨congrArg Value.bool ?_, rfl⟩, hw1.sub (by simp) (by simp)⟩
      unfold RightO
      rw [hl, hls]
      first | rw [if_pos (show kd = 1 by omega)] | rw [if_neg (show ¬ kd = 1 by omega), if_pos (show kd = 2 by omega)] | rw [if_neg (show ¬ kd = 1 by omega), if_neg (show ¬ kd = 2 by omega), if_pos (show kd = 3 by omega)] | rw [if_neg (show ¬ kd = 1 by omega), if_neg (show ¬ kd = 2 by omega), if_neg (show ¬ kd = 3 by omega)]
      all_goals (first | rfl | (simp [*]; done) | (simp_all; done) | (simp_all; omega))
     ·
      have hb10 : (decide (RightI l)) = true := by simpa using hb8
      have hp10 : RightI l := of_decide_eq_true hb10
      refine BL (AC (AG (AG (AB (AA (Ptr nb1 0) (AD 0 3 1 BE rfl BA rfl rfl) rfl ?_)))))
      refine AA (I64 (kd)) (AM rfl (A6 BS (AT 0 rfl (Seg.head)))) rfl ?_
      refine AA (.bool (decide ((kd) = (2:Int)))) (AP rfl rfl fun _ => CA _ _) rfl ?_
      refine AL (AC (CM _ rfl (decide_eq_true (by have := of_decide_eq_false hb6; omega)) ?_))
      refine AG (AB (AA (Ptr nb1 2) (AD 2 34 1 BE rfl CY rfl rfl) rfl ?_))
      refine AA (.slice sa ns sc) (AM rfl (A6 DR (AT 0 rfl (AO (AO (Seg.head)))))) rfl ?_
      refine AA (I64 ns) (DS CU rfl) rfl ?_
      refine AA (.bool (decide (((ns:Int)) = (0:Int)))) (AP rfl rfl fun _ => CA _ _) rfl ?_
      refine AA _ (AH rfl) rfl ?_
      refine AL (AC (BH (A4 (B5 [false] ?_))))
      show JQ _ _ _ _ []
      refine BI (.bool (decide (((ns:Int)) = (0:Int)))) (res1 EB (BU rfl)) fun w1 hw1 => ?_
      refine ⟨_, [], rfl, ⟨congrArg Value.bool ?_, rfl⟩, hw1.sub (by simp) (by simp)⟩
      unfold RightO
      rw [hl, hls]
      first | rw [if_pos (show kd = 1 by omega)] | rw [if_neg (show ¬ kd = 1 by omega), if_pos (show kd = 2 by omega)] | rw [if_neg (show ¬ kd = 1 by omega), if_neg (show ¬ kd = 2 by omega), if_pos (show kd = 3 by omega)] | rw [if_neg (show ¬ kd = 1 by omega), if_neg (show ¬ kd = 2 by omega), if_neg (show ¬ kd = 3 by omega)]
      all_goals (first | rfl | (simp [*]; done) | (simp_all; done) | (simp_all; omega))
  ·
   have hp5 : ¬ ((kd) ≠ (1:Int)) := of_decide_eq_false hb5
   refine AF 3 30 true _ rfl rfl hb5 rfl ?_
   refine AF 3 30 true _ rfl rfl hb5 rfl ?_
   refine AF 3 30 true _ rfl rfl hb5 rfl ?_
   refine AA _ (BF _ rfl hb5 rfl) rfl ?_
   refine AA _ (AE rfl) rfl ?_
   refine AS 8 35 false _ (Ptr nb1 3) rfl rfl rfl (AD 3 22 1 BE rfl A1 rfl rfl) rfl ?_
   refine AS 8 35 false _ (U64 bl) rfl rfl rfl (AM rfl (A6 BD (AT 0 rfl (AO (AO (AO (Seg.head))))))) rfl ?_
   refine AS 8 35 false _ (.bool (decide (bl ≠ (0:UInt64)))) rfl rfl rfl (AP rfl rfl fun _ => EO bl (0:UInt64)) rfl ?_
   refine AA _ (BF _ rfl rfl rfl) rfl ?_
   refine AA _ (AE rfl) rfl ?_
   rcases Bool.eq_false_or_eq_true (decide (bl ≠ (0:UInt64))) with hb11 | hb11
   ·
    have hp11 : bl ≠ (0:UInt64) := of_decide_eq_true hb11
    refine AF 13 40 false _ rfl rfl hb11 rfl ?_
    refine AF 13 40 false _ rfl rfl hb11 rfl ?_
    refine AF 13 40 false _ rfl rfl hb11 rfl ?_
    refine AF 13 40 false _ rfl rfl hb11 rfl ?_
    refine AA _ (BO _ rfl hb11 rfl) rfl ?_
    refine AL (AC (CM _ rfl rfl ?_))
    refine AG (AB (AA _ (AH rfl) rfl ?_))
    refine AL (AC (BH (A4 (B5 [false] ?_))))
    show JQ _ _ _ _ []
    refine BI (.bool false) (res1 EB (BU rfl)) fun w1 hw1 => ?_
    refine ⟨_, [], rfl, ⟨congrArg Value.bool ?_, rfl⟩, hw1.sub (by simp) (by simp)⟩
    unfold RightO
    rw [hl, hls]
    first | rw [if_pos (show kd = 1 by omega)] | rw [if_neg (show ¬ kd = 1 by omega), if_pos (show kd = 2 by omega)] | rw [if_neg (show ¬ kd = 1 by omega), if_neg (show ¬ kd = 2 by omega), if_pos (show kd = 3 by omega)] | rw [if_neg (show ¬ kd = 1 by omega), if_neg (show ¬ kd = 2 by omega), if_neg (show ¬ kd = 3 by omega)]
    all_goals (first | rfl | (simp [*]; done) | (simp_all; done) | (simp_all; omega))
   ·
    have hp11 : ¬ (bl ≠ (0:UInt64)) := of_decide_eq_false hb11
    refine AS 13 40 false _ (Ptr nb1 1) rfl rfl hb11 (AD 1 23 1 BE rfl B9 rfl rfl) rfl ?_
    refine AS 13 40 false _ (.slice ai ni ci) rfl rfl hb11 (AM rfl (A6 C1 (AT 0 rfl (AO (Seg.head))))) rfl ?_
    refine DZ 13 40 false _ rfl rfl hb11 (AX 79 [I64 32, .slice ai ni ci] (.bool (decide (RightI l))) (AZ _ Tryd.call79 rfl) (fun w1 hw1 => rpright_c ai ni ci l w1 hl (by omega) (by omega) (by omega) (FM hw1 rfl hv))) rfl ?_
    rintro v1 L1 ⟨rfl, rfl⟩
    show JL _ _ _ _ ((43, .bool (decide (RightI l))) :: _) [_]
    refine AS 13 40 false _ (.bool (!(decide (RightI l)))) rfl rfl hb11 (FD rfl) rfl ?_
    refine AA _ (BF _ rfl hb11 rfl) rfl ?_
    refine AL (AC (CL (!(decide (RightI l))) rfl (fun hb12 => ?_) (fun hb12 => ?_)))
    ·
     have hb13 : (decide (RightI l)) = false := by simpa using hb12
     have hp13 : ¬ (RightI l) := of_decide_eq_false hb13
     refine AG (AB (AA _ (AH rfl) rfl ?_))
     refine AL (AC (BH (A4 (B5 [false] ?_))))
     show JQ _ _ _ _ []
     refine BI (.bool false) (res1 EB (BU rfl)) fun w1 hw1 => ?_
     refine ⟨_, [], rfl, ⟨congrArg Value.bool ?_, rfl⟩, hw1.sub (by simp) (by simp)⟩
     unfold RightO
     rw [hl, hls]
     first | rw [if_pos (show kd = 1 by omega)] | rw [if_neg (show ¬ kd = 1 by omega), if_pos (show kd = 2 by omega)] | rw [if_neg (show ¬ kd = 1 by omega), if_neg (show ¬ kd = 2 by omega), if_pos (show kd = 3 by omega)] | rw [if_neg (show ¬ kd = 1 by omega), if_neg (show ¬ kd = 2 by omega), if_neg (show ¬ kd = 3 by omega)]
     all_goals (first | rfl | (simp [*]; done) | (simp_all; done) | (simp_all; omega))
    ·
     have hb14 : (decide (RightI l)) = true := by simpa using hb12
     have hp14 : RightI l := of_decide_eq_true hb14
     refine BL (AC (AG (AG (AB (AA (Ptr nb1 0) (AD 0 3 1 BE rfl BA rfl rfl) rfl ?_)))))
     refine AA (I64 (kd)) (AM rfl (A6 BS (AT 0 rfl (Seg.head)))) rfl ?_
     refine AA (.bool (decide ((kd) = (2:Int)))) (AP rfl rfl fun _ => CA _ _) rfl ?_
     refine AL (AC (CL (decide ((kd) = (2:Int))) rfl (fun hb15 => ?_) (fun hb15 => ?_)))
     ·
      have hp15 : (kd) = (2:Int) := of_decide_eq_true hb15
      refine AG (AB (AA (Ptr nb1 2) (AD 2 34 1 BE rfl CY rfl rfl) rfl ?_))
      refine AA (.slice sa ns sc) (AM rfl (A6 DR (AT 0 rfl (AO (AO (Seg.head)))))) rfl ?_
      refine AA (I64 ns) (DS CU rfl) rfl ?_
      refine AA (.bool (decide (((ns:Int)) = (0:Int)))) (AP rfl rfl fun _ => CA _ _) rfl ?_
      refine AA _ (AH rfl) rfl ?_
      refine AL (AC (BH (A4 (B5 [false] ?_))))
      show JQ _ _ _ _ []
      refine BI (.bool (decide (((ns:Int)) = (0:Int)))) (res1 EB (BU rfl)) fun w1 hw1 => ?_
      refine ⟨_, [], rfl, ⟨congrArg Value.bool ?_, rfl⟩, hw1.sub (by simp) (by simp)⟩
      unfold RightO
      rw [hl, hls]
      first | rw [if_pos (show kd = 1 by omega)] | rw [if_neg (show ¬ kd = 1 by omega), if_pos (show kd = 2 by omega)] | rw [if_neg (show ¬ kd = 1 by omega), if_neg (show ¬ kd = 2 by omega), if_pos (show kd = 3 by omega)] | rw [if_neg (show ¬ kd = 1 by omega), if_neg (show ¬ kd = 2 by omega), if_neg (show ¬ kd = 3 by omega)]
      all_goals (first | rfl | (simp [*]; done) | (simp_all; done) | (simp_all; omega))
     ·
      have hp15 : ¬ ((kd) = (2:Int)) := of_decide_eq_false hb15
      refine BL (AC (AG (AG (AB (AA _ (AH rfl) rfl ?_)))))
      refine AL (AC (B4 (D4 (ι := Nat) (fun i => [(1, Ptr nb1 0), (3, I64 i)]) (fun i => [⟨nb1, [I64 (kd), .slice ai ni ci, .slice sa ns sc, U64 bl], 36, (0, 0)⟩]) (fun i => i ≤ ns ∧ ∀ k, k < i → ∀ y, ls[k]? = some y → (fun x => oddB (headE ls) (SealR.e x)) y = false) (fun i => ns - i) 0 ⟨by omega, fun k hk => absurd hk (by omega)⟩ (Sub.all rfl) rfl ?_)))
      rintro i ⟨hi1, hi2⟩
      show JC _ _ _ [(1, Ptr nb1 0), (3, I64 i)] [⟨nb1, [I64 (kd), .slice ai ni ci, .slice sa ns sc, U64 bl], 36, (0, 0)⟩]
      refine AG (AG (AB (AA _ (AE rfl) rfl ?_)))
      refine AA (Ptr nb1 2) (AD 2 34 1 BE rfl CY rfl rfl) rfl ?_
      refine AA (.slice sa ns sc) (AM rfl (A6 DR (AT 0 rfl (AO (AO (Seg.head)))))) rfl ?_
      refine AA (I64 ns) (DS CU rfl) rfl ?_
      refine AA (.bool (decide (((i:Int)) < ((ns:Int))))) (AP rfl rfl fun _ => DC _ _) rfl ?_
      refine AL (AC (CL (decide (((i:Int)) < ((ns:Int)))) rfl (fun hb16 => ?_) (fun hb16 => ?_)))
      ·
       have hp16 : ((i:Int)) < ((ns:Int)) := of_decide_eq_true hb16
       refine BL (AC (AG (B4 (AG ?_))))
       obtain ⟨x1, hx1⟩ : ∃ x, ls[i]? = some x := ⟨_, List.getElem?_eq_getElem (by rw [hls]; omega)⟩
       obtain ⟨bz1, oz1, hz1, hm1⟩ := rows_at FH (by decide) hs hx1
       obtain ⟨x2, hx2⟩ : ∃ x, ls[0]? = some x := ⟨_, List.getElem?_eq_getElem (by rw [hls]; omega)⟩
       obtain ⟨bz2, oz2, hz2, hm2⟩ := rows_at FH (by decide) hs hx2
       rcases Bool.eq_false_or_eq_true (RightB (0:UInt64) x1.e) with hb17 | hb17
       ·
        refine CH 89 2 [(0, Ptr nb1 2), (1, .slice sa ns sc), (2, I64 i), (3, Ptr bz1 (49*i + oz1)), (4, Ptr bz1 (49*i + oz1)), (5, U64 x1.e)] BP rfl (by decide +kernel) ?_
        refine C5 ⟨[], [0, 1, 2, 3, 4, 5], [], [0, 1, 2, 3, 4, 5], [6]⟩ 6 _ rfl rfl (by decide +kernel) rfl ⟨⟨_, rfl, AI rfl (AD 2 34 1 BE rfl CY rfl rfl)⟩, ⟨_, rfl, AI rfl (AM rfl (A6 DR (AT 0 rfl (AO (AO (Seg.head))))))⟩, BQ rfl rfl rfl, ⟨_, rfl, AI rfl (C9 164 49 (49*i + oz1) CU CS rfl hz1 rfl (by omega) (by omega) (by omega))⟩, ⟨_, rfl, AI rfl (AD 0 22 1 DH rfl A1 rfl rfl)⟩, ⟨_, rfl, AI rfl (AM rfl (A6 BD (CW (hm1.mem (by simp)) (A8 (A8 (Seg.head))) (by omega))))⟩, trivial⟩ rfl (A7 rfl (AX 111 [U64 0, U64 x1.e] (.bool (RightB (0:UInt64) x1.e)) (AZ _ Tryd.call111 rfl) (fun w1 hw1 => rright_c (0:UInt64) x1.e w1 ))) ?_
        rintro v1 L1 ⟨rfl, rfl⟩
        refine ⟨[(7, .bool (!(RightB (0:UInt64) x1.e))), (8, .bool (!(RightB (0:UInt64) x1.e))), (9, Ptr nb1 2), (10, .slice sa ns sc), (11, I64 i), (12, Ptr bz1 (49*i + oz1)), (13, Ptr bz1 (49*i + oz1)), (14, U64 x1.e), (15, Ptr nb1 2), (16, .slice sa ns sc), (17, Ptr bz2 oz2), (18, Ptr bz2 oz2), (19, U64 x2.e), (20, .bool (decide (x1.e ≠ x2.e))), (21, .bool (decide (x1.e ≠ x2.e)))], ?_⟩
        show DP _ _ _ _ _ _ _ _ [_]
        refine C2 ⟨[6], [0, 1, 2, 3, 4, 5, 7, 8, 9, 10, 11, 12, 13, 14, 15, 16, 17, 18, 19, 20, 21], [0, 1, 2, 3, 4, 5], [7, 8, 9, 10, 11, 12, 13, 14, 15, 16, 17, 18, 19, 20, 21], []⟩ rfl rfl (by decide +kernel) rfl ⟨⟨_, rfl, AI rfl (FD rfl)⟩, BQ rfl rfl rfl, ⟨_, rfl, B1 8 68 false _ rfl rfl rfl (by rw [show (RightB (0:UInt64) x1.e) = true from hb17] <;> rfl) (AD 2 34 1 BE rfl CY rfl rfl)⟩, ⟨_, rfl, B1 8 68 false _ rfl rfl rfl (by rw [show (RightB (0:UInt64) x1.e) = true from hb17] <;> rfl) (AM rfl (A6 DR (AT 0 rfl (AO (AO (Seg.head))))))⟩, ⟨_, rfl, B1 8 68 false _ rfl rfl rfl (by rw [show (RightB (0:UInt64) x1.e) = true from hb17] <;> rfl) (AE rfl)⟩, ⟨_, rfl, B1 8 68 false _ rfl rfl rfl (by rw [show (RightB (0:UInt64) x1.e) = true from hb17] <;> rfl) (C9 164 49 (49*i + oz1) CU CS rfl hz1 rfl (by omega) (by omega) (by omega))⟩, ⟨_, rfl, B1 8 68 false _ rfl rfl rfl (by rw [show (RightB (0:UInt64) x1.e) = true from hb17] <;> rfl) (AD 0 22 1 DH rfl A1 rfl rfl)⟩, ⟨_, rfl, B1 8 68 false _ rfl rfl rfl (by rw [show (RightB (0:UInt64) x1.e) = true from hb17] <;> rfl) (AM rfl (A6 BD (CW (hm1.mem (by simp)) (A8 (A8 (Seg.head))) (by omega))))⟩, ⟨_, rfl, B1 8 68 false _ rfl rfl rfl (by rw [show (RightB (0:UInt64) x1.e) = true from hb17] <;> rfl) (AD 2 34 1 BE rfl CY rfl rfl)⟩, ⟨_, rfl, B1 8 68 false _ rfl rfl rfl (by rw [show (RightB (0:UInt64) x1.e) = true from hb17] <;> rfl) (AM rfl (A6 DR (AT 0 rfl (AO (AO (Seg.head))))))⟩, ⟨_, rfl, B1 8 68 false _ rfl rfl rfl (by rw [show (RightB (0:UInt64) x1.e) = true from hb17] <;> rfl) (C9 164 49 oz2 CU CS rfl hz2 rfl (by omega) (by omega) (by omega))⟩, ⟨_, rfl, B1 8 68 false _ rfl rfl rfl (by rw [show (RightB (0:UInt64) x1.e) = true from hb17] <;> rfl) (AD 0 22 1 DH rfl A1 rfl rfl)⟩, ⟨_, rfl, B1 8 68 false _ rfl rfl rfl (by rw [show (RightB (0:UInt64) x1.e) = true from hb17] <;> rfl) (AM rfl (A6 BD (CW (hm2.mem (by simp)) (A8 (A8 (Seg.head))) (by omega))))⟩, ⟨_, rfl, B1 8 68 false _ rfl rfl rfl (by rw [show (RightB (0:UInt64) x1.e) = true from hb17] <;> rfl) (AP rfl rfl fun _ => EO x1.e x2.e)⟩, ⟨_, rfl, AI rfl (BF _ rfl (by rw [show (RightB (0:UInt64) x1.e) = true from hb17] <;> rfl) rfl)⟩, trivial⟩ ?_
        refine CB (F' := [(60, Ptr nb1 2), (61, .slice sa ns sc), (62, I64 i), (63, Ptr bz1 (49*i + oz1)), (64, Ptr bz1 (49*i + oz1)), (65, U64 x1.e), (66, .bool (RightB (0:UInt64) x1.e)), (67, .bool (!(RightB (0:UInt64) x1.e))), (68, .bool (!(RightB (0:UInt64) x1.e))), (69, Ptr nb1 2), (70, .slice sa ns sc), (71, I64 i), (72, Ptr bz1 (49*i + oz1)), (73, Ptr bz1 (49*i + oz1)), (74, U64 x1.e), (75, Ptr nb1 2), (76, .slice sa ns sc), (77, Ptr bz2 oz2), (78, Ptr bz2 oz2), (79, U64 x2.e), (80, .bool (decide (x1.e ≠ x2.e))), (81, .bool (decide (x1.e ≠ x2.e))), (1, Ptr nb1 0), (3, I64 i), (53, I64 i), (54, Ptr nb1 2), (55, .slice sa ns sc), (56, I64 ns), (57, .bool (decide (((i:Int)) < ((ns:Int)))))]) (by kernel_rfl) ?_
        refine AC (CL (decide (x1.e ≠ x2.e)) rfl (fun hb18 => ?_) (fun hb18 => ?_))
        ·
         have hp18 : x1.e ≠ x2.e := of_decide_eq_true hb18
         refine AG (AB (AA _ (AH rfl) rfl ?_))
         refine AL (AC (BH (DD (A4 (A4 (DD (A4 (B5 [false] ?_))))))))
         show JQ _ _ _ _ []
         refine BI (.bool false) (res1 EB (BU rfl)) fun w1 hw1 => ?_
         refine ⟨_, [], rfl, ⟨congrArg Value.bool ?_, rfl⟩, hw1.sub (by simp) (by simp)⟩
         unfold RightO
         rw [hl, hls]
         first | rw [if_pos (show kd = 1 by omega)] | rw [if_neg (show ¬ kd = 1 by omega), if_pos (show kd = 2 by omega)] | rw [if_neg (show ¬ kd = 1 by omega), if_neg (show ¬ kd = 2 by omega), if_pos (show kd = 3 by omega)] | rw [if_neg (show ¬ kd = 1 by omega), if_neg (show ¬ kd = 2 by omega), if_neg (show ¬ kd = 3 by omega)]
         have ha : ls.any (fun x => oddB (headE ls) (SealR.e x)) = true := any_odd hx1 (by first | (simp [oddB, *]; done) | (rw [F5 hx2]; simp [oddB, *]; done))
         simp [*]
        ·
         have hp18 : ¬ (x1.e ≠ x2.e) := of_decide_eq_false hb18
         refine BL (B0 (AC (AB (AA _ (AE rfl) rfl ?_))))
         refine AA (I64 ((i:Int) + 1)) (AP rfl rfl fun _ => DL _ _ ((i:Int) + 1) (by omega) (by omega)) rfl ?_
         refine AA _ (AH rfl) rfl ?_
         refine AL (DO (ER (i + 1) ⟨by omega, find_step hx1 (by show oddB (headE ls) x1.e = false; rw [F5 hx2]; simp [oddB, *]) hi2⟩ (by first | (simp; omega) | simp | (dsimp only; omega) | omega) (Sub.all rfl) rfl))
       ·
        refine CH 89 2 [(0, Ptr nb1 2), (1, .slice sa ns sc), (2, I64 i), (3, Ptr bz1 (49*i + oz1)), (4, Ptr bz1 (49*i + oz1)), (5, U64 x1.e)] BP rfl (by decide +kernel) ?_
        refine C5 ⟨[], [0, 1, 2, 3, 4, 5], [], [0, 1, 2, 3, 4, 5], [6]⟩ 6 _ rfl rfl (by decide +kernel) rfl ⟨⟨_, rfl, AI rfl (AD 2 34 1 BE rfl CY rfl rfl)⟩, ⟨_, rfl, AI rfl (AM rfl (A6 DR (AT 0 rfl (AO (AO (Seg.head))))))⟩, BQ rfl rfl rfl, ⟨_, rfl, AI rfl (C9 164 49 (49*i + oz1) CU CS rfl hz1 rfl (by omega) (by omega) (by omega))⟩, ⟨_, rfl, AI rfl (AD 0 22 1 DH rfl A1 rfl rfl)⟩, ⟨_, rfl, AI rfl (AM rfl (A6 BD (CW (hm1.mem (by simp)) (A8 (A8 (Seg.head))) (by omega))))⟩, trivial⟩ rfl (A7 rfl (AX 111 [U64 0, U64 x1.e] (.bool (RightB (0:UInt64) x1.e)) (AZ _ Tryd.call111 rfl) (fun w1 hw1 => rright_c (0:UInt64) x1.e w1 ))) ?_
        rintro v1 L1 ⟨rfl, rfl⟩
        refine ⟨[(7, .bool (!(RightB (0:UInt64) x1.e))), (8, .bool (!(RightB (0:UInt64) x1.e))), (9, undef), (10, undef), (11, undef), (12, undef), (13, undef), (14, undef), (15, undef), (16, undef), (17, undef), (18, undef), (19, undef), (20, undef), (21, .bool true)], ?_⟩
        show DP _ _ _ _ _ _ _ _ [_]
        refine C2 ⟨[6], [0, 1, 2, 3, 4, 5, 7, 8, 9, 10, 11, 12, 13, 14, 15, 16, 17, 18, 19, 20, 21], [0, 1, 2, 3, 4, 5], [7, 8, 9, 10, 11, 12, 13, 14, 15, 16, 17, 18, 19, 20, 21], []⟩ rfl rfl (by decide +kernel) rfl ⟨⟨_, rfl, AI rfl (FD rfl)⟩, BQ rfl rfl rfl, ⟨_, rfl, CV 8 68 false _ rfl rfl rfl (by rw [show (RightB (0:UInt64) x1.e) = false from hb17] <;> rfl)⟩, ⟨_, rfl, CV 8 68 false _ rfl rfl rfl (by rw [show (RightB (0:UInt64) x1.e) = false from hb17] <;> rfl)⟩, ⟨_, rfl, CV 8 68 false _ rfl rfl rfl (by rw [show (RightB (0:UInt64) x1.e) = false from hb17] <;> rfl)⟩, ⟨_, rfl, CV 8 68 false _ rfl rfl rfl (by rw [show (RightB (0:UInt64) x1.e) = false from hb17] <;> rfl)⟩, ⟨_, rfl, CV 8 68 false _ rfl rfl rfl (by rw [show (RightB (0:UInt64) x1.e) = false from hb17] <;> rfl)⟩, ⟨_, rfl, CV 8 68 false _ rfl rfl rfl (by rw [show (RightB (0:UInt64) x1.e) = false from hb17] <;> rfl)⟩, ⟨_, rfl, CV 8 68 false _ rfl rfl rfl (by rw [show (RightB (0:UInt64) x1.e) = false from hb17] <;> rfl)⟩, ⟨_, rfl, CV 8 68 false _ rfl rfl rfl (by rw [show (RightB (0:UInt64) x1.e) = false from hb17] <;> rfl)⟩, ⟨_, rfl, CV 8 68 false _ rfl rfl rfl (by rw [show (RightB (0:UInt64) x1.e) = false from hb17] <;> rfl)⟩, ⟨_, rfl, CV 8 68 false _ rfl rfl rfl (by rw [show (RightB (0:UInt64) x1.e) = false from hb17] <;> rfl)⟩, ⟨_, rfl, CV 8 68 false _ rfl rfl rfl (by rw [show (RightB (0:UInt64) x1.e) = false from hb17] <;> rfl)⟩, ⟨_, rfl, CV 8 68 false _ rfl rfl rfl (by rw [show (RightB (0:UInt64) x1.e) = false from hb17] <;> rfl)⟩, ⟨_, rfl, AI rfl (BO _ rfl (by rw [show (RightB (0:UInt64) x1.e) = false from hb17] <;> rfl) rfl)⟩, trivial⟩ ?_
        refine CB (F' := [(60, Ptr nb1 2), (61, .slice sa ns sc), (62, I64 i), (63, Ptr bz1 (49*i + oz1)), (64, Ptr bz1 (49*i + oz1)), (65, U64 x1.e), (66, .bool (RightB (0:UInt64) x1.e)), (67, .bool (!(RightB (0:UInt64) x1.e))), (68, .bool (!(RightB (0:UInt64) x1.e))), (69, undef), (70, undef), (71, undef), (72, undef), (73, undef), (74, undef), (75, undef), (76, undef), (77, undef), (78, undef), (79, undef), (80, undef), (81, .bool true), (1, Ptr nb1 0), (3, I64 i), (53, I64 i), (54, Ptr nb1 2), (55, .slice sa ns sc), (56, I64 ns), (57, .bool (decide (((i:Int)) < ((ns:Int)))))]) (by kernel_rfl) ?_
        refine AC (CM _ rfl rfl ?_)
        refine AG (AB (AA _ (AH rfl) rfl ?_))
        refine AL (AC (BH (DD (A4 (A4 (DD (A4 (B5 [false] ?_))))))))
        show JQ _ _ _ _ []
        refine BI (.bool false) (res1 EB (BU rfl)) fun w1 hw1 => ?_
        refine ⟨_, [], rfl, ⟨congrArg Value.bool ?_, rfl⟩, hw1.sub (by simp) (by simp)⟩
        unfold RightO
        rw [hl, hls]
        first | rw [if_pos (show kd = 1 by omega)] | rw [if_neg (show ¬ kd = 1 by omega), if_pos (show kd = 2 by omega)] | rw [if_neg (show ¬ kd = 1 by omega), if_neg (show ¬ kd = 2 by omega), if_pos (show kd = 3 by omega)] | rw [if_neg (show ¬ kd = 1 by omega), if_neg (show ¬ kd = 2 by omega), if_neg (show ¬ kd = 3 by omega)]
        have ha : ls.any (fun x => oddB (headE ls) (SealR.e x)) = true := any_odd hx1 (by first | (simp [oddB, *]; done) | (rw [F5 hx2]; simp [oddB, *]; done))
        simp [*]
      ·
       have hp16 : ¬ (((i:Int)) < ((ns:Int))) := of_decide_eq_false hb16
       refine DU (A9 (A9 (CR (AC (AG (AB (AA (Ptr nb1 2) (AD 2 34 1 BE rfl CY rfl rfl) rfl ?_)))))))
       refine AA (.slice sa ns sc) (AM rfl (A6 DR (AT 0 rfl (AO (AO (Seg.head)))))) rfl ?_
       refine AA (I64 ns) (DS CU rfl) rfl ?_
       refine AA (Ptr nb1 1) (AD 1 23 1 BE rfl B9 rfl rfl) rfl ?_
       refine AA (.slice ai ni ci) (AM rfl (A6 C1 (AT 0 rfl (AO (Seg.head))))) rfl ?_
       refine AA (I64 ni) (DS BR rfl) rfl ?_
       refine AA (.bool (decide (((ns:Int)) = ((ni:Int))))) (AP rfl rfl fun _ => CA _ _) rfl ?_
       refine AA _ (AH rfl) rfl ?_
       refine AL (AC (BH (B5 [false] ?_)))
       show JQ _ _ _ _ []
       refine BI (.bool (decide (((ns:Int)) = ((ni:Int))))) (res1 EB (BU rfl)) fun w1 hw1 => ?_
       refine ⟨_, [], rfl, ⟨congrArg Value.bool ?_, rfl⟩, hw1.sub (by simp) (by simp)⟩
       unfold RightO
       rw [hl, hls]
       first | rw [if_pos (show kd = 1 by omega)] | rw [if_neg (show ¬ kd = 1 by omega), if_pos (show kd = 2 by omega)] | rw [if_neg (show ¬ kd = 1 by omega), if_neg (show ¬ kd = 2 by omega), if_pos (show kd = 3 by omega)] | rw [if_neg (show ¬ kd = 1 by omega), if_neg (show ¬ kd = 2 by omega), if_neg (show ¬ kd = 3 by omega)]
       have ha : ls.any (fun x => oddB (headE ls) (SealR.e x)) = false := any_no (by rw [hls]; intro k hk; exact hi2 k (by omega))
       rw [ha, decide_eq_true (Classical.not_not.1 ‹¬ bl ≠ 0›), decide_eq_true ‹RightI l›]
       simp only [Bool.true_and, Bool.not_false, Bool.and_true]
       exact decide_eq_decide.2 (by omega)
theorem eq64_c (ai : Option Addr) (ni ci : Nat) (l : List UInt64) (ai2 : Option Addr) (ni2 ci2 : Nat) (l2 : List UInt64)  (w : World) (hl : l.length = ni) (hnm : ni ≤ 2000000) (hnc : ni ≤ ci) (hcm : ci ≤ maxLen) (hv : RdV w ai (cu64 l)) (hl2 : l2.length = ni2) (hnm2 : ni2 ≤ 2000000) (hnc2 : ni2 ≤ ci2) (hcm2 : ci2 ≤ maxLen) (hv2 : RdV w ai2 (cu64 l2))  : Calls Tryd.prog 115 #[.slice ai ni ci, .slice ai2 ni2 ci2] w (Post w [] (fun v L => v = .bool (decide (l = l2)) ∧ L = [])) := by
 have hmx : maxLen = 9223372036854775807 := rfl
 refine enter w [] 26 [] [.slice ai ni ci, .slice ai2 ni2 ci2] Tryd.func115 rfl rfl (by simp) (BY (by simp) (by simp) (by simp)) ?_
 show JC _ _ _ [(0, .slice ai ni ci), (1, .slice ai2 ni2 ci2)] _
 refine AG (AB (AA _ (AH rfl) rfl ?_))
 refine AL (AC (AG (AG (AB (AA _ (AE rfl) rfl ?_)))))
 refine AA (I64 ni) (DS BR rfl) rfl ?_
 refine AA _ (AE rfl) rfl ?_
 refine AA (I64 ni2) (DS BR rfl) rfl ?_
 refine AA (.bool (decide (((ni:Int)) ≠ ((ni2:Int))))) (AP rfl rfl fun _ => CE _ _) rfl ?_
 refine AL (AC (CL (decide (((ni:Int)) ≠ ((ni2:Int)))) rfl (fun hb1 => ?_) (fun hb1 => ?_)))
 ·
  have hp1 : ((ni:Int)) ≠ ((ni2:Int)) := of_decide_eq_true hb1
  refine AG (AB (AA _ (AH rfl) rfl ?_))
  refine AL (AC (BH (A4 (BI (.bool false) (res1 Tryd.results115 (BU rfl)) fun w1 hw1 => ?_))))
  refine ⟨_, [], rfl, ⟨congrArg Value.bool ?_, rfl⟩, hw1.sub (by simp) (by simp)⟩
  refine (decide_eq_false (fun h => ?_)).symm
  first | (have := congrArg List.length h; omega) | exact list_ne (FZ (i := i) (by omega)) (FZ (i := i) (by omega)) (by assumption) h
 ·
  have hp1 : ¬ (((ni:Int)) ≠ ((ni2:Int))) := of_decide_eq_false hb1
  refine BL (AC (AG (AG (AB (AA _ (AE rfl) rfl ?_)))))
  refine AA (I64 ni) (DS BR rfl) rfl ?_
  refine AA _ (AE rfl) rfl ?_
  refine AL (AC (B4 (D4 (ι := Nat) (fun i => [(0, .slice ai ni ci), (1, .slice ai2 ni2 ci2), (12, I64 ni), (13, I64 i)]) (fun i => []) (fun i => i ≤ ni ∧ ∀ k, k < i → ∀ x y, l[k]? = some x → l2[k]? = some y → x = y) (fun i => ni - i) 0 ⟨by omega, fun k hk => absurd hk (by omega)⟩ (Sub.all rfl) rfl ?_)))
  rintro i ⟨hi1, hi2⟩
  show JC _ _ _ [(0, .slice ai ni ci), (1, .slice ai2 ni2 ci2), (12, I64 ni), (13, I64 i)] []
  refine AG (AB (AA (.bool (decide (((i:Int)) < ((ni:Int))))) (AP rfl rfl fun _ => DC _ _) rfl ?_))
  refine AL (AC (AG (CL (decide (((i:Int)) < ((ni:Int)))) rfl (fun hb2 => ?_) (fun hb2 => ?_))))
  ·
   have hp2 : ((i:Int)) < ((ni:Int)) := of_decide_eq_true hb2
   refine BL (AC (AG (B4 (AG (AB (AA _ (AE rfl) rfl ?_))))))
   refine AA _ (AH rfl) rfl ?_
   refine AL (AC (AG ?_))
   obtain ⟨bz1, oz1, hz1, hm1⟩ := RdV.pos hv (by rw [FX, hl]; omega)
   obtain ⟨bz2, oz2, hz2, hm2⟩ := RdV.pos hv2 (by rw [FX, hl2]; omega)
   refine CH 26 1 [(0, .slice ai ni ci), (1, I64 i), (2, Ptr bz1 (i + oz1)), (3, U64 (g64 l i)), (4, .slice ai2 ni2 ci2), (5, I64 i), (6, Ptr bz2 (i + oz2)), (7, U64 (g64 l2 i)), (8, .bool (decide ((g64 l i) ≠ (g64 l2 i))))] BP rfl (by decide +kernel) ?_
   refine C2 ⟨[], [0, 1, 2, 3, 4, 5, 6, 7, 8], [], [0, 1, 2, 3, 4, 5, 6, 7, 8], []⟩ rfl rfl (by decide +kernel) rfl ⟨BQ rfl rfl rfl, BQ rfl rfl rfl, ⟨_, rfl, AI rfl (C9 22 1 (i + oz1) BR A1 rfl hz1 rfl (by omega) (by omega) (by omega))⟩, ⟨_, rfl, AI rfl (AM rfl (A6 BD (CW (hm1.mem (by simp)) (Seg.get (g64_get (i := i) (by rw [hl]; omega))) (by omega))))⟩, BQ rfl rfl rfl, BQ rfl rfl rfl, ⟨_, rfl, AI rfl (C9 22 1 (i + oz2) BR A1 rfl hz2 rfl (by omega) (by omega) (by omega))⟩, ⟨_, rfl, AI rfl (AM rfl (A6 BD (CW (hm2.mem (by simp)) (Seg.get (g64_get (i := i) (by rw [hl2]; omega))) (by omega))))⟩, ⟨_, rfl, AI rfl (AP rfl rfl fun _ => EO (g64 l i) (g64 l2 i))⟩, trivial⟩ ?_
   refine CB (F' := [(16, .slice ai ni ci), (17, I64 i), (18, Ptr bz1 (i + oz1)), (19, U64 (g64 l i)), (20, .slice ai2 ni2 ci2), (21, I64 i), (22, Ptr bz2 (i + oz2)), (23, U64 (g64 l2 i)), (24, .bool (decide ((g64 l i) ≠ (g64 l2 i)))), (0, .slice ai ni ci), (1, .slice ai2 ni2 ci2), (12, I64 ni), (13, I64 i), (14, .bool (decide (((i:Int)) < ((ni:Int))))), (15, I64 i), (5, I64 i)]) (by kernel_rfl) ?_
   refine AC (CL (decide ((g64 l i) ≠ (g64 l2 i))) rfl (fun hb3 => ?_) (fun hb3 => ?_))
   ·
    have hp3 : (g64 l i) ≠ (g64 l2 i) := of_decide_eq_true hb3
    refine AG (AB (AA _ (AH rfl) rfl ?_))
    refine AL (AC (BH (DD (A4 (A4 (DD (A4 (BI (.bool false) (res1 Tryd.results115 (BU rfl)) fun w1 hw1 => ?_))))))))
    refine ⟨_, [], rfl, ⟨congrArg Value.bool ?_, rfl⟩, hw1.sub (by simp) (by simp)⟩
    refine (decide_eq_false (fun h => ?_)).symm
    first | (have := congrArg List.length h; omega) | exact list_ne (FZ (i := i) (by omega)) (FZ (i := i) (by omega)) (by assumption) h
   ·
    have hp3 : ¬ ((g64 l i) ≠ (g64 l2 i)) := of_decide_eq_false hb3
    refine BL (B0 (AC (AB (AA (I64 ((i:Int) + 1)) (AP rfl rfl fun _ => DL _ _ ((i:Int) + 1) (by omega) (by omega)) rfl ?_))))
    refine AA _ (AE rfl) rfl ?_
    refine AL (DO (ER (i + 1) ⟨by omega, eq_step (FZ (i := i) (by omega)) (FZ (i := i) (by omega)) (Classical.not_not.1 (by assumption)) hi2⟩ (by first | (simp; omega) | simp | (dsimp only; omega) | omega) (Sub.all rfl) rfl))
  ·
   have hp2 : ¬ (((i:Int)) < ((ni:Int))) := of_decide_eq_false hb2
   refine DU (A9 (A9 (CR (AC (AG (AB (AA _ (AH rfl) rfl ?_)))))))
   refine AL (AC (BH (BI (.bool true) (res1 Tryd.results115 (BU rfl)) fun w1 hw1 => ?_)))
   refine ⟨_, [], rfl, ⟨congrArg Value.bool ?_, rfl⟩, hw1.sub (by simp) (by simp)⟩
   exact (decide_eq_true (list_eq (by omega) (by rw [hl]; intro k hk; exact hi2 k (by omega)))).symm
theorem eqS_c (sa : Option Addr) (ns sc : Nat) (ls : List SealR) (sa2 : Option Addr) (ns2 sc2 : Nat) (ls2 : List SealR)  (w : World) (hls : ls.length = ns) (hnn : ns ≤ 2000000) (hnd : ns ≤ sc) (hcn : sc ≤ maxLen) (hs : RdV w sa (ls.flatMap sealC)) (hls2 : ls2.length = ns2) (hnn2 : ns2 ≤ 2000000) (hnd2 : ns2 ≤ sc2) (hcn2 : sc2 ≤ maxLen) (hs2 : RdV w sa2 (ls2.flatMap sealC))  : Calls Tryd.prog 116 #[.slice sa ns sc, .slice sa2 ns2 sc2] w (Post w [] (fun v L => v = .bool (decide (ls = ls2)) ∧ L = [])) := by
 have hmx : maxLen = 9223372036854775807 := rfl
 refine enter w [] 26 [] [.slice sa ns sc, .slice sa2 ns2 sc2] Tryd.func116 rfl rfl (by simp) (BY (by simp) (by simp) (by simp)) ?_
 show JC _ _ _ [(0, .slice sa ns sc), (1, .slice sa2 ns2 sc2)] _
 refine AG (AB (AA _ (AH rfl) rfl ?_))
 refine AL (AC (AG (AG (AB (AA _ (AE rfl) rfl ?_)))))
 refine AA (I64 ns) (DS CO rfl) rfl ?_
 refine AA _ (AE rfl) rfl ?_
 refine AA (I64 ns2) (DS CO rfl) rfl ?_
 refine AA (.bool (decide (((ns:Int)) ≠ ((ns2:Int))))) (AP rfl rfl fun _ => CE _ _) rfl ?_
 refine AL (AC (CL (decide (((ns:Int)) ≠ ((ns2:Int)))) rfl (fun hb1 => ?_) (fun hb1 => ?_)))
 ·
  have hp1 : ((ns:Int)) ≠ ((ns2:Int)) := of_decide_eq_true hb1
  refine AG (AB (AA _ (AH rfl) rfl ?_))
  refine AL (AC (BH (A4 (BI (.bool false) (res1 Tryd.results116 (BU rfl)) fun w1 hw1 => ?_))))
  refine ⟨_, [], rfl, ⟨congrArg Value.bool ?_, rfl⟩, hw1.sub (by simp) (by simp)⟩
  refine (decide_eq_false (fun h => ?_)).symm
  first | (have := congrArg List.length h; omega) | exact absurd h h
 ·
  have hp1 : ¬ (((ns:Int)) ≠ ((ns2:Int))) := of_decide_eq_false hb1
  refine BL (AC (AG (AG (AB (AA _ (AE rfl) rfl ?_)))))
  refine AA (I64 ns) (DS CO rfl) rfl ?_
  refine AA _ (AE rfl) rfl ?_
  refine AL (AC (B4 (D4 (ι := Nat) (fun i => [(0, .slice sa ns sc), (1, .slice sa2 ns2 sc2), (12, I64 ns), (13, I64 i)]) (fun i => []) (fun i => i ≤ ns ∧ ∀ k, k < i → ∀ x y, ls[k]? = some x → ls2[k]? = some y → x = y) (fun i => ns - i) 0 ⟨by omega, fun k hk => absurd hk (by omega)⟩ (Sub.all rfl) rfl ?_)))
  rintro i ⟨hi1, hi2⟩
  show JC _ _ _ [(0, .slice sa ns sc), (1, .slice sa2 ns2 sc2), (12, I64 ns), (13, I64 i)] []
  refine AG (AB (AA (.bool (decide (((i:Int)) < ((ns:Int))))) (AP rfl rfl fun _ => DC _ _) rfl ?_))
  refine AL (AC (AG (CL (decide (((i:Int)) < ((ns:Int)))) rfl (fun hb2 => ?_) (fun hb2 => ?_))))
  ·
   have hp2 : ((i:Int)) < ((ns:Int)) := of_decide_eq_true hb2
   refine BL (AC (AG (B4 (AG (AB (AA _ (AE rfl) rfl ?_))))))
   refine AA _ (AH rfl) rfl ?_
   refine AL (AC (AG ?_))
   obtain ⟨x1, hx1⟩ : ∃ x, ls[i]? = some x := ⟨_, List.getElem?_eq_getElem (by rw [hls]; omega)⟩
   obtain ⟨bz1, oz1, hz1, hm1⟩ := rows_at FH (by decide) hs hx1
   obtain ⟨x2, hx2⟩ : ∃ x, ls2[i]? = some x := ⟨_, List.getElem?_eq_getElem (by rw [hls2]; omega)⟩
   obtain ⟨bz2, oz2, hz2, hm2⟩ := rows_at FH (by decide) hs2 hx2
   refine CH 26 1 [(0, .slice sa ns sc), (1, I64 i), (2, Ptr bz1 (49*i + oz1)), (3, .agg ([U64 x1.e] ++ cu8 x1.d ++ cu8 x1.t).toArray), (4, .slice sa2 ns2 sc2), (5, I64 i), (6, Ptr bz2 (49*i + oz2)), (7, .agg ([U64 x2.e] ++ cu8 x2.d ++ cu8 x2.t).toArray), (8, .bool (!(decide (x1.e = x2.e ∧ x1.d = x2.d ∧ x1.t = x2.t))))] BP rfl (by decide +kernel) ?_
   refine C2 ⟨[], [0, 1, 2, 3, 4, 5, 6, 7, 8], [], [0, 1, 2, 3, 4, 5, 6, 7, 8], []⟩ rfl rfl (by decide +kernel) rfl ⟨BQ rfl rfl rfl, BQ rfl rfl rfl, ⟨_, rfl, AI rfl (C9 161 49 (49*i + oz1) CO CD rfl hz1 rfl (by omega) (by omega) (by omega))⟩, ⟨_, rfl, AI rfl (AM rfl (A5 D1 CD (by simp [x1.hd, x1.ht]) (CW (hm1.mem (by simp)) (AJ _) (by omega))))⟩, BQ rfl rfl rfl, BQ rfl rfl rfl, ⟨_, rfl, AI rfl (C9 161 49 (49*i + oz2) CO CD rfl hz2 rfl (by omega) (by omega) (by omega))⟩, ⟨_, rfl, AI rfl (AM rfl (A5 D1 CD (by simp [x2.hd, x2.ht]) (CW (hm2.mem (by simp)) (AJ _) (by omega))))⟩, ⟨_, rfl, AI rfl (DT _ _ _ rfl rfl (fun _ => eqGuard_agg _ _ _ _ _ _ (by kernel_rfl)) (neq_struct (x1.e = x2.e ∧ x1.d = x2.d ∧ x1.t = x2.t) (EqV.struct (d := 9999) (by kernel_rfl) (by kernel_rfl) (by kernel_rfl) (EqRs.cons 22 0 (U64 x1.e) (U64 x2.e) _ _ _ (PartV.one BD (A8 (A8 (Seg.head)))) (PartV.one BD (A8 (A8 (Seg.head)))) (EqV.u64 (d := 9998) B8 x1.e x2.e) (EqRs.cons 159 1 (.agg (cu8 x1.d).toArray) (.agg (cu8 x2.d).toArray) _ _ _ (PartV.agg Tryd.isAgg159 EN (Seg.cut (A8 (Seg.right 1 0 rfl rfl (AJ _))) (DY x1.hd) (by omega))) (PartV.agg Tryd.isAgg159 EN (Seg.cut (A8 (Seg.right 1 0 rfl rfl (AJ _))) (DY x2.hd) (by omega))) (EqV.arr8 (d := 9997) D5 CN EP GC Tryd.has5 (by simp [x1.hd]) (by simp [x2.hd])) (EqRs.last 27 33 (.agg (cu8 x1.t).toArray) (.agg (cu8 x2.t).toArray) _ (PartV.agg E2 BV (Seg.cut (Seg.right 33 0 (by simp [x1.hd]) rfl (AJ _)) (DY x1.ht) (by omega))) (PartV.agg E2 BV (Seg.cut (Seg.right 33 0 (by simp [x2.hd]) rfl (AJ _)) (DY x2.ht) (by omega))) (EqV.arr8 (d := 9997) BX CN EP GC Tryd.has5 (by simp [x1.ht]) (by simp [x2.ht])))))) (by first | rfl | (simp only [Bool.decide_and, Bool.and_assoc]; done) | (simp [Bool.and_assoc]; done))))⟩, trivial⟩ ?_
   refine CB (F' := [(16, .slice sa ns sc), (17, I64 i), (18, Ptr bz1 (49*i + oz1)), (19, .agg ([U64 x1.e] ++ cu8 x1.d ++ cu8 x1.t).toArray), (20, .slice sa2 ns2 sc2), (21, I64 i), (22, Ptr bz2 (49*i + oz2)), (23, .agg ([U64 x2.e] ++ cu8 x2.d ++ cu8 x2.t).toArray), (24, .bool (!(decide (x1.e = x2.e ∧ x1.d = x2.d ∧ x1.t = x2.t)))), (0, .slice sa ns sc), (1, .slice sa2 ns2 sc2), (12, I64 ns), (13, I64 i), (14, .bool (decide (((i:Int)) < ((ns:Int))))), (15, I64 i), (5, I64 i)]) (by kernel_rfl) ?_
   refine AC (CL (!(decide (x1.e = x2.e ∧ x1.d = x2.d ∧ x1.t = x2.t))) rfl (fun hb3 => ?_) (fun hb3 => ?_))
   ·
    have hb4 : (decide (x1.e = x2.e ∧ x1.d = x2.d ∧ x1.t = x2.t)) = false := by first | simpa using hb3 | exact Eq.mp (Bool.not_eq_true' _) hb3
    have hp4 : ¬ (x1.e = x2.e ∧ x1.d = x2.d ∧ x1.t = x2.t) := of_decide_eq_false hb4
    refine AG (AB (AA _ (AH rfl) rfl ?_))
    refine AL (AC (BH (DD (A4 (A4 (DD (A4 (BI (.bool false) (res1 Tryd.results116 (BU rfl)) fun w1 hw1 => ?_))))))))
    refine ⟨_, [], rfl, ⟨congrArg Value.bool ?_, rfl⟩, hw1.sub (by simp) (by simp)⟩
    refine (decide_eq_false (fun h => ?_)).symm
    first | (have := congrArg List.length h; omega) | exact list_ne hx1 hx2 (fun e => (by assumption : ¬ _) ((SealR.eq_iff _ _).1 e)) h
   ·
    have hb5 : (decide (x1.e = x2.e ∧ x1.d = x2.d ∧ x1.t = x2.t)) = true := by first | simpa using hb3 | exact Eq.mp (Bool.not_eq_false' _) hb3
    have hp5 : x1.e = x2.e ∧ x1.d = x2.d ∧ x1.t = x2.t := of_decide_eq_true hb5
    refine BL (B0 (AC (AB (AA (I64 ((i:Int) + 1)) (AP rfl rfl fun _ => DL _ _ ((i:Int) + 1) (by omega) (by omega)) rfl ?_))))
    refine AA _ (AE rfl) rfl ?_
    refine AL (DO (ER (i + 1) ⟨by omega, eq_step hx1 hx2 ((SealR.eq_iff _ _).2 (by first | assumption | exact Classical.not_not.1 (by assumption))) hi2⟩ (by first | (simp; omega) | simp | (dsimp only; omega) | omega) (Sub.all rfl) rfl))
  ·
   have hp2 : ¬ (((i:Int)) < ((ns:Int))) := of_decide_eq_false hb2
   refine DU (A9 (A9 (CR (AC (AG (AB (AA _ (AH rfl) rfl ?_)))))))
   refine AL (AC (BH (BI (.bool true) (res1 Tryd.results116 (BU rfl)) fun w1 hw1 => ?_)))
   refine ⟨_, [], rfl, ⟨congrArg Value.bool ?_, rfl⟩, hw1.sub (by simp) (by simp)⟩
   exact (decide_eq_true (list_eq (by omega) (by rw [hls]; intro k hk; exact hi2 k (by omega)))).symm
end Go.Proofs.YtkdpdgpphpngeaaDoor
