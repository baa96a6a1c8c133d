import Derived.Test.YtkdpdgpphpngeaaDoorPkW1
set_option linter.unusedVariables false
set_option linter.unusedSimpArgs false
set_option maxRecDepth 100000
namespace Go.Proofs.YtkdpdgpphpngeaaDoor
open Go Go.Sx
open Go.Value renaming slice → SL
def blankB (pv ep : UInt64) (kd : Int) (l : List UInt64) (ls : List SealR) (bl : UInt64) (tg : List UInt8) : Bool :=
 decide (pv = 0 ∧ ep = 0 ∧ tg = zr8 16 ∧ kd = 0 ∧ bl = 0 ∧ l = [] ∧ ls = [])
def spanB (fs : UInt64) (mn : Int) : Bool := decide (1 ≤ mn ∧ mn ≤ 256 ∧ fs.toNat + mn.toNat ≤ 4294967296)
theorem spanB_no {fs : UInt64} {mn : Int} (h : mn < 1 ∨ 256 < mn) : spanB fs mn = false := decide_eq_false (fun e => by omega)
theorem span_ok {fs : UInt64} {mn : Nat} (h1 : 1 ≤ mn) (h2 : mn ≤ 256) : spanB fs (mn:Int) = decide (fs.toNat + mn ≤ 4294967296) := decide_eq_decide.2 ⟨fun e => by have := e.2.2; rwa [Int.toNat_natCast] at this, fun e => ⟨by omega, by omega, by rwa [Int.toNat_natCast]⟩⟩
theorem span_hi {fs : UInt64} {mn : Nat} (h : fs < 4294967296) (h2 : UInt64.ofNat mn ≤ 4294967296 - fs) (hm : mn ≤ 256) : fs.toNat + mn ≤ 4294967296 := by
 have h1 : fs.toNat < 4294967296 := UInt64.lt_iff_toNat_lt.1 h
 have h3 := UInt64.le_iff_toNat_le.1 h2
 rw [UInt64.toNat_sub, UInt64.toNat_ofNat', Nat.mod_eq_of_lt (by omega)] at h3
 have h4 : (4294967296 : UInt64).toNat = 4294967296 := rfl
 rw [h4] at h3
 omega
theorem span_lo {fs : UInt64} {mn : Nat} (h : fs < 4294967296) (h2 : ¬ UInt64.ofNat mn ≤ 4294967296 - fs) (hm : mn ≤ 256) : ¬ fs.toNat + mn ≤ 4294967296 := fun e => h2 (by
 have h1 : fs.toNat < 4294967296 := UInt64.lt_iff_toNat_lt.1 h
 apply UInt64.le_iff_toNat_le.2
 rw [UInt64.toNat_sub, UInt64.toNat_ofNat', Nat.mod_eq_of_lt (by omega)]
 have h4 : (4294967296 : UInt64).toNat = 4294967296 := rfl
 rw [h4]
 omega)
theorem span_no {fs : UInt64} {mn : Nat} (h : ¬ fs < 4294967296) (hm : 1 ≤ mn) : ¬ fs.toNat + mn ≤ 4294967296 := fun e => h (UInt64.lt_iff_toNat_lt.2 (by
 show fs.toNat < 4294967296
 omega))
def reqR (qk : Int) (lq : List UInt64) (fs : UInt64) (mn : Int) (eq : UInt64) (bt my : Bool) : Bool :=
 if qk = 1 then (decide (fs = 0) && decide (mn = 0)) && (bt && decide (RightI lq))
 else if qk = 2 then decide (lq.length = 0) && (bt && spanB fs mn)
 else if qk = 3 then decide (lq.length = 0) && ((decide (fs = 0) && decide (mn = 0)) && (decide (eq = 0) && my))
 else if qk = 4 ∨ qk = 5 then decide (lq.length = 0) && ((decide (fs = 0) && decide (mn = 0)) && bt)
 else false
theorem reqR_one {lq : List UInt64} {fs eq : UInt64} {mn : Int} {bt my : Bool} (h : reqR 1 lq fs mn eq bt my = true) : RightI lq := by
 unfold reqR at h
 rw [if_pos rfl] at h
 simp only [Bool.and_eq_true, decide_eq_true_eq] at h
 exact h.2.2
theorem reqR_two {lq : List UInt64} {fs eq : UInt64} {mn : Int} {bt my : Bool} (h : reqR 2 lq fs mn eq bt my = true) : spanB fs mn = true := by
 unfold reqR at h
 rw [if_neg (by decide), if_pos rfl] at h
 simp only [Bool.and_eq_true] at h
 exact h.2.2
theorem reqR_three {lq : List UInt64} {fs eq : UInt64} {mn : Int} {bt my : Bool} (h : reqR 3 lq fs mn eq bt my = true) : my = true := by
 unfold reqR at h
 rw [if_neg (by decide), if_neg (by decide), if_pos rfl] at h
 simp only [Bool.and_eq_true] at h
 exact h.2.2.2
theorem reqR_blank {qk : Int} {lq : List UInt64} {fs eq : UInt64} {mn : Int} {bt my : Bool} (h : reqR qk lq fs mn eq bt my = true) (h3 : qk ≠ 3) : bt = true ∧ (qk = 1 ∨ qk = 2 ∨ qk = 4 ∨ qk = 5) := by
  unfold reqR at h
  split at h
  · simp only [Bool.and_eq_true] at h
    exact ⟨h.2.1, by omega⟩
  · split at h
    · simp only [Bool.and_eq_true] at h
      exact ⟨h.2.1, by omega⟩
    · try rw [if_neg h3] at h
      split at h
      · simp only [Bool.and_eq_true] at h
        exact ⟨h.2.2, by omega⟩
      · cases h
theorem span_bd {fs : UInt64} {mn : Nat} (h : spanB fs (mn:Int) = true) : 1 ≤ mn ∧ mn ≤ 256 := by
 have := of_decide_eq_true h
 omega
theorem span_nn {fs : UInt64} {mn : Int} (h : spanB fs mn = true) : 1 ≤ mn ∧ mn ≤ 256 := by
 have := of_decide_eq_true h
 exact ⟨this.1, this.2.1⟩
theorem span_fit {fs : UInt64} {mn : Int} (h : spanB fs mn = true) : fs >>> UInt64.ofNat (8 * 4) = 0 := by
 have h1 := of_decide_eq_true h
 have h2 : fs.toNat < 4294967296 := by omega
 apply UInt64.toNat_inj.1
 rw [UInt64.toNat_shiftRight, Nat.shiftRight_eq_div_pow]
 show fs.toNat / 2 ^ 32 = 0
 exact Nat.div_eq_of_lt h2
theorem CJ (x : UInt64) : (0:UInt64) < x ↔ x ≠ 0 := by
  constructor
  · intro h e; subst e; exact absurd h (by decide)
  · intro h
    apply UInt64.lt_iff_toNat_lt.2
    have : x.toNat ≠ 0 := fun e => h (UInt64.toNat_inj.1 e)
    show 0 < x.toNat
    omega
end Go.Proofs.YtkdpdgpphpngeaaDoor
namespace Go.Proofs.YtkdpdgpphpngeaaDoor
open Go Go.Sx Go.RowKit
open Go.Value renaming slice → SL
open Go.ChangeShapes Go.WideShapes
structure ItemR where
 b : Bool
 s : SealR
theorem ItemR.eq_iff (x y : ItemR) : x = y ↔ x.b = y.b ∧ x.s.e = y.s.e ∧ x.s.d = y.s.d ∧ x.s.t = y.s.t := by
 refine ⟨fun h => by rw [h]; exact ⟨rfl, rfl, rfl, rfl⟩, fun h => ?_⟩
 obtain ⟨a, s⟩ := x
 obtain ⟨a', s'⟩ := y
 obtain ⟨h1, h2⟩ := h
 have h3 : s = s' := (SealR.eq_iff s s').2 h2
 have h1 : a = a' := h1
 rw [h1, h3]
instance : DecidableEq ItemR := fun x y => decidable_of_iff _ (ItemR.eq_iff x y).symm
def itemC (x : ItemR) : List Value := [.bool x.b] ++ sealC x.s
theorem itemC_eq (x : ItemR) : itemC x = [.bool x.b, U64 x.s.e] ++ cu8 x.s.d ++ cu8 x.s.t := by simp [itemC, sealC]
theorem itemC_len (x : ItemR) : (itemC x).length = 50 := by unfold itemC; rw [List.length_append, FM]; rfl
def plainV (b : Bool) (e : UInt64) (d t : List UInt8) : Bool := b || decide (e = 0 ∧ d = zr8 32 ∧ t = zr8 16)
def plainB (x : ItemR) : Bool := plainV x.b x.s.e x.s.d x.s.t
section
variable {C : Cx} {F : Frm} {L : List Ent}
theorem res4 {fn : Func} {r s q p : ResultVar} {v u x y : Value} (hr : fn.results = #[r, s, q, p]) (h : RV C F L r v) (h' : RV C F L s u) (h2 : RV C F L q x) (h3 : RV C F L p y) :
  ∀ a w, Fr F C a → Hp C.w0 C.M L w → (results fn a.tmps).run C.P w = .ok (.tuple #[v, u, x, y]) w := fun a w ha hw => by
 have e1 := h a w ha hw
 have e2 := h' a w ha hw
 have e3 := h2 a w ha hw
 have e4 := h3 a w ha hw
 simp [results_eq, hr, e1, e2, e3, e4]
theorem one_item (z : ItemR) : ∀ v ∈ itemC z, v.oneCell' = true := by
  intro v hv
  unfold itemC at hv
  simp only [List.mem_append, List.mem_cons, List.not_mem_nil, or_false] at hv
  rcases hv with rfl | hv
  · rfl
  · exact one_seal _ v hv
theorem itrows_len (l : List ItemR) : (l.flatMap itemC).length = l.length * 50 := by
 induction l with
 | nil => rfl
 | cons a l ih => rw [List.flatMap_cons, List.length_append, itemC_len, ih, List.length_cons]; omega
theorem Step_appI {x y : Operand} {ty : TypeId} (t e bytes : Nat) (zv : Value) (m : List Bool) (v : Value) (n : Nat) (l : List ItemR) (z : ItemR) (ao : Option Addr) (c tot : Nat)
    (hu : C.P.underlying t = some (.slice e)) (hi : (C.P.info? e).map (fun i => (i.zero, i.size, i.bytes)) = some (some zv, 50, bytes)) (hzs : zv.cells.size = 50)
    (hx : ev F x = some v)
    (hv : (v = .slice none 0 0 ∧ n = 0 ∧ l = [] ∧ take? m L = []) ∨ (∃ g sp cap, v = Slc g 0 n cap ∧ take? m L = [⟨g, l.flatMap itemC ++ sp, e, (0, 0)⟩] ∧ l.length = n ∧ sp.length = cap * 50 - n * 50 ∧ n ≤ cap ∧ cap ≤ maxLen))
    (hy : ev F y = some (.slice ao 1 c)) (hm : SrcAt C L ao (itemC z)) (hmax : (n + 1) * bytes ≤ 140737488355328) (hmax' : n + 1 ≤ maxLen) (htot : n + 1 = tot) :
    Step C F L (.call { callee := .builtin .append, args := #[x, y], argTypes := #[t, t] }) ty fun v' L' => ∃ g sp cap, (C.w0.heap.size ≤ g ∨ g ∈ C.M) ∧ v' = Slc g 0 tot cap ∧ L' = rest? m L ++ [⟨g, (l ++ [z]).flatMap itemC ++ sp, e, (0, 0)⟩] ∧ (l ++ [z]).length = tot ∧ sp.length = cap * 50 - tot * 50 ∧ tot ≤ cap ∧ cap ≤ maxLen := by
  subst htot
  have hv' : (v = .slice none 0 0 ∧ n = 0 ∧ l.flatMap itemC = [] ∧ take? m L = [] ∧ 0 < 1) ∨ (∃ g sp cap, v = Slc g 0 n cap ∧ take? m L = [⟨g, l.flatMap itemC ++ sp, e, (0, 0)⟩] ∧ (l.flatMap itemC).length = n * 50 ∧ (l.flatMap itemC ++ sp).length = cap * 50 ∧ n ≤ cap ∧ cap ≤ maxLen) := by
    rcases hv with ⟨h1, h2, h3, h4⟩ | ⟨g, sp, cap, h1, h2, h3, h4, h5, h6⟩
    · exact .inl ⟨h1, h2, by rw [h3]; rfl, h4, by omega⟩
    · refine .inr ⟨g, sp, cap, h1, h2, by rw [itrows_len, h3], ?_, h5, h6⟩
      rw [List.length_append, h4, itrows_len, h3]; omega
  have h := Step_append (C := C) (F := F) (L := L) (x := x) (y := y) (ty := ty) t e 50 bytes zv m v n (l.flatMap itemC) (itemC z) ao 1 c hu hi hzs (by decide) hx hv' hy (by rw [itemC_len]) hm (one_item z) hmax hmax'
  intro a w ha hw d pos aft g Kk Q hq
  refine h a w ha hw d pos aft g Kk Q ?_
  rintro v' L' w' ⟨g, sp, cap, h1, h2, h3, h4, h5, h6, h7⟩ hw'
  have e1 : l.flatMap itemC ++ itemC z = (l ++ [z]).flatMap itemC := by rw [List.flatMap_append]; simp
  rw [e1] at h3 h4 h5
  rw [itrows_len] at h4
  refine hq v' L' w' ⟨g, sp, cap, h1, h2, h3, by omega, ?_, h6, h7⟩ hw'
  rw [List.length_append, itrows_len] at h5
  omega
end
theorem take_mid2 (z : List UInt8) (i : Nat) : z.take (32*i) ++ mid z (32*i) 32 = z.take (32*(i + 1)) := by rw [Nat.mul_succ, List.take_add]; rfl
def itB (er rk : Int) : Bool := decide (er = 0) && (decide (rk = 1) || decide (rk = 2))
def chB (er rk : Int) (th : Bool) : Bool := decide (er = 0) && (decide (rk = 4) && th)
def bB (er rk : Int) (th : Bool) : Bool := decide (er = 0) && ((decide (rk = 1) || decide (rk = 2)) || (decide (rk = 3) || (decide (rk = 4) && th)))
def aB (er rk : Int) (th : Bool) : Bool := bB er rk th && decide (rk ≠ 1)
def c1B (er rk : Int) : Bool := decide (1 ≤ rk ∧ rk ≤ 5 ∧ 0 ≤ er ∧ er ≤ 14)
def c2B (it : Bool) (lj : List ItemR) : Bool := if it then decide (1 ≤ lj.length ∧ lj.length ≤ 256) && !(lj.any (fun x => !plainB x)) else decide (lj.length = 0)
def c3B (ch th bt my : Bool) : Bool := if ch then my else (!th && bt)
def c4B (a b : Bool) (na nb : Nat) : Bool := decide (na ≤ 256 ∧ nb ≤ 8192) && ((a || decide (na = 0)) && (b || decide (nb = 0)))
theorem c1_no {er rk : Int} (h : ¬ (1 ≤ rk ∧ rk ≤ 5 ∧ 0 ≤ er ∧ er ≤ 14)) : true = !(c1B er rk) := by rw [show c1B er rk = false from decide_eq_false h]; rfl
theorem c1_last {er rk : Int} (h : 1 ≤ rk ∧ rk ≤ 5 ∧ 0 ≤ er) : decide (14 < er) = !(c1B er rk) := by
 unfold c1B; rw [← decide_not]; exact decide_eq_decide.2 (by omega)
theorem c2_t {it : Bool} {lj : List ItemR} (h : (it && !(c2B true lj)) = true) : c2B it lj = false := by
  cases it
  · simp at h
  · simpa using h
theorem c2_f {it : Bool} {lj : List ItemR} (h : (it && !(c2B true lj)) = false) (hi : it = true) : c2B it lj = true := by
 subst hi; simpa using h
theorem c2_n {lj : List ItemR} {n : Nat} (hl : lj.length = n) : c2B false lj = decide (n = 0) := by subst hl; rfl
theorem c2_e {lj : List ItemR} {n : Nat} (hl : lj.length = n) (h : 1 ≤ n ∧ n ≤ 256) : lj.any (fun x => !plainB x) = !(c2B true lj) := by
 subst hl
 unfold c2B
 rw [if_pos rfl, decide_eq_true h]
 simp
theorem c2_no {lj : List ItemR} {n : Nat} (hl : lj.length = n) (h : ¬ (1 ≤ n ∧ n ≤ 256)) : true = !(c2B true lj) := by
 subst hl
 unfold c2B
 rw [if_pos rfl, decide_eq_false h]
 rfl
theorem c3_t {ch th bt my : Bool} (h : (ch && !my) = true) : c3B ch th bt my = false := by
 cases ch <;> cases my <;> simp_all [c3B]
theorem c3_f {ch th bt my : Bool} (h : (ch && !my) = false) (hc : ch = true) : c3B ch th bt my = true := by
 subst hc; cases my <;> simp_all [c3B]
theorem c3_n {th bt my : Bool} : c3B false th bt my = (!th && bt) := rfl
def repR (rk er : Int) (th : Bool) (lj : List ItemR) (bt my : Bool) (na nb : Nat) : Bool :=
 c1B er rk && (c2B (itB er rk) lj && (c3B (chB er rk th) th bt my && c4B (aB er rk th) (bB er rk th) na nb))
def itmT (x : ItemR) : List UInt8 := if x.b then numK 1 (bitU x.b) 1 ++ putL x.s.e x.s.d x.s.t else numK 1 (bitU x.b) 1
def itmsT (l : List ItemR) : List UInt8 := l.flatMap itmT
theorem itmsT_nil : itmsT [] = [] := rfl
theorem itm_t {x : ItemR} (h : x.b = true) : itmT x = numK 1 (bitU x.b) 1 ++ putL x.s.e x.s.d x.s.t := by unfold itmT; rw [if_pos h]
theorem itm_f {x : ItemR} (h : x.b = false) : itmT x = numK 1 (bitU x.b) 1 := by unfold itmT; rw [if_neg (by rw [h]; decide)]
theorem itms_step {l : List ItemR} {i : Nat} {x : ItemR} (h : l[i]? = some x) : itmsT (l.take i) ++ itmT x = itmsT (l.take (i + 1)) := by
 unfold itmsT
 rw [← take_step h, List.flatMap_append]; simp
theorem repR_all {rk er : Int} {th bt my : Bool} {lj : List ItemR} {na nb : Nat} (h : repR rk er th lj bt my na nb = true) : c1B er rk = true ∧ c2B (itB er rk) lj = true ∧ c3B (chB er rk th) th bt my = true ∧ c4B (aB er rk th) (bB er rk th) na nb = true := by
 unfold repR at h
 simpa [Bool.and_eq_true] using h
theorem repR_f {rk er : Int} {th bt my : Bool} {lj : List ItemR} {na nb nj : Nat} (hl : lj.length = nj) (h : repR rk er th lj bt my na nb = true) : 1 ≤ rk ∧ rk ≤ 5 ∧ 0 ≤ er ∧ er ≤ 14 := of_decide_eq_true (repR_all h).1
theorem itB_ne {er rk : Int} (h : er ≠ 0) : itB er rk = false := by unfold itB; rw [decide_eq_false h]; rfl
theorem chB_ne {er rk : Int} {th : Bool} (h : er ≠ 0) : chB er rk th = false := by unfold chB; rw [decide_eq_false h]; rfl
theorem bB_ne {er rk : Int} {th : Bool} (h : er ≠ 0) : bB er rk th = false := by unfold bB; rw [decide_eq_false h]; rfl
theorem aB_ne {er rk : Int} {th : Bool} (h : er ≠ 0) : aB er rk th = false := by unfold aB; rw [bB_ne h]; rfl
theorem c2_len1 {lj : List ItemR} {nj : Nat} (hl : lj.length = nj) (h : c2B true lj = true) : 1 ≤ nj ∧ nj ≤ 256 := by
 subst hl
 unfold c2B at h
 rw [if_pos rfl, Bool.and_eq_true] at h
 exact of_decide_eq_true h.1
theorem c2_len0 {lj : List ItemR} {nj : Nat} (hl : lj.length = nj) (h : c2B false lj = true) : nj = 0 := by
 rw [c2_n hl] at h
 exact of_decide_eq_true h
theorem repR_2 {rk er : Int} {th bt my it : Bool} {lj : List ItemR} {na nb : Nat} (h : repR rk er th lj bt my na nb = true) (hi : itB er rk = it) : c2B it lj = true := by rw [← hi]; exact (repR_all h).2.1
theorem repR_E {rk er : Int} {th bt my : Bool} {lj : List ItemR} {na nb nj : Nat} (hl : lj.length = nj) (hE : er ≠ 0) (h : repR rk er th lj bt my na nb = true) : nj = 0 := c2_len0 hl (repR_2 h (itB_ne hE))
section
variable {H : Type} {enc : TypeId × Value → H} {P : Program} {w : World} {base : Nat} {spare : Nat → Bool} {held : Bool} {sz : Bool} {t : TypeId} {cs : List Value}
end
end Go.Proofs.YtkdpdgpphpngeaaDoor
namespace Go.Proofs.YtkdpdgpphpngeaaDoor
open Go Go.Sx Go.RowKit
open Go.Value renaming slice → SL
open Go.ChangeShapes Go.WideShapes
def repT (rq : UInt64) (rk er : Int) (nj : Nat) (lj : List ItemR) (th : Bool) (pv ep : UInt64) (kd : Int) (l : List UInt64) (ls : List SealR) (bl : UInt64) (tg : List UInt8) (nha : Nat) (xha : List UInt8) (nhb : Nat) (xhb : List UInt8) : List UInt8 :=
 if er ≠ 0 then (numK 8 rq 8 ++ numK 1 (UInt64.ofNat rk.toNat) 1) ++ numK 1 (UInt64.ofNat er.toNat) 1
 else if rk = 1 then (((((numK 8 rq 8 ++ numK 1 (1:UInt64) 1) ++ numK 1 (0:UInt64) 1) ++ numK 1 (UInt64.ofNat (nj - 1)) 1) ++ itmsT lj) ++ numK 2 (UInt64.ofNat nhb) 2) ++ xhb
 else if rk = 2 then (((((((numK 8 rq 8 ++ numK 1 (2:UInt64) 1) ++ numK 1 (0:UInt64) 1) ++ numK 1 (UInt64.ofNat (nj - 1)) 1) ++ itmsT lj) ++ numK 2 (UInt64.ofNat nha) 2) ++ xha) ++ numK 2 (UInt64.ofNat nhb) 2) ++ xhb
 else if rk = 3 then (((((numK 8 rq 8 ++ numK 1 (3:UInt64) 1) ++ numK 1 (0:UInt64) 1) ++ numK 2 (UInt64.ofNat nha) 2) ++ xha) ++ numK 2 (UInt64.ofNat nhb) 2) ++ xhb
 else if rk = 4 then (if th then (((((((numK 8 rq 8 ++ numK 1 (4:UInt64) 1) ++ numK 1 (0:UInt64) 1) ++ numK 1 (bitU true) 1) ++ ((tktT pv ep kd.toNat l ls bl) ++ tg)) ++ numK 2 (UInt64.ofNat nha) 2) ++ xha) ++ numK 2 (UInt64.ofNat nhb) 2) ++ xhb else ((numK 8 rq 8 ++ numK 1 (4:UInt64) 1) ++ numK 1 (0:UInt64) 1) ++ numK 1 (bitU false) 1)
 else (numK 8 rq 8 ++ numK 1 (5:UInt64) 1) ++ numK 1 (0:UInt64) 1
def Gh (vs : List Value) (g : Nat) (cs : List Value) (a : Option Addr) : Prop := vs = [] ∨ (a = some ⟨g, 0, none⟩ ∧ ∃ sp, cs = vs ++ sp)
theorem Gh.at {C : Cx} {L : List Ent} {w : World} (hw : Hp C.w0 C.M L w) {vs cs : List Value} {g T : Nat} {fz : Nat × Nat} {a : Option Addr} (i : Nat) (hi : L[i]? = some ⟨g, cs, T, fz⟩) (h : Gh vs g cs a) : RdV w a vs := by
  rcases h with rfl | ⟨rfl, sp, rfl⟩
  · exact RdV.nil
  · exact RdV.of hw (AU i hi (AJ (AQ _)))
theorem Hp.one {w0 w : World} {M : List Nat} {L : List Ent} (h : Hp w0 M L w) (i : Nat) {e : Ent} (hi : L[i]? = some e) : Hp w0 M [e] w := by
  refine h.sub (fun x hx => ?_) (by simp)
  rcases List.mem_cons.1 hx with rfl | hx
  · exact List.mem_of_getElem? hi
  · cases hx
theorem Hp.two {w0 w : World} {M : List Nat} {L : List Ent} (h : Hp w0 M L w) (i j : Nat) {e f : Ent} (hi : L[i]? = some e) (hj : L[j]? = some f) (hij : i ≠ j) : Hp w0 M [e, f] w := by
  refine h.sub (fun x hx => ?_) ?_
  · rcases List.mem_cons.1 hx with rfl | hx
    · exact List.mem_of_getElem? hi
    · rcases List.mem_cons.1 hx with rfl | hx
      · exact List.mem_of_getElem? hj
      · cases hx
  · refine List.nodup_cons.2 ⟨fun hm => hij ?_, List.nodup_cons.2 ⟨by simp, List.nodup_nil⟩⟩
    have e1 : e.b = f.b := by simpa using hm
    obtain ⟨hlt, _⟩ := List.getElem?_eq_some_iff.1 hi
    exact (List.getElem?_inj (by simpa using hlt) h.nd).1 (by rw [List.getElem?_map, List.getElem?_map, hi, hj]; simp [e1])
def LargeQ (nj nha nhb ni ns : Nat) : Prop := 300 < nj ∨ 300 < nha ∨ (300 < nhb ∧ nhb ≤ 8192) ∨ 9000 < nhb ∨ LargeP ni ns
instance (nj nha nhb ni ns : Nat) : Decidable (LargeQ nj nha nhb ni ns) := by unfold LargeQ; infer_instance
theorem repR_4 {rk er : Int} {th bt my : Bool} {lj : List ItemR} {na nb : Nat} (h : repR rk er th lj bt my na nb = true) : na ≤ 256 ∧ nb ≤ 8192 := by
 have h1 := (repR_all h).2.2.2
 unfold c4B at h1
 rw [Bool.and_eq_true] at h1
 exact of_decide_eq_true h1.1
theorem repR_my {bt my : Bool} {lj : List ItemR} {na nb : Nat} (h : repR 4 0 true lj bt my na nb = true) : my = true := by
 have h1 := (repR_all h).2.2.1
 rwa [show chB 0 4 true = true from by decide +kernel] at h1
theorem lay_splice {cs a b c vs r : List Value} {o : Nat} (h : cs = a ++ b ++ c) (ha : a.length = o) (hb : b.length = vs.length) (hr : a ++ vs ++ c = r) : lay cs o vs = r := by
 subst h
 subst hr
 rw [List.append_assoc, List.append_assoc]
 exact ES o 0 ha (by omega) (EF (by omega) (BT hb.symm))
theorem vQ_neg {z0 : List UInt8} {p s : Nat} (h : ¬ p + s ≤ z0.length) : vQ z0 p s = 0 := if_neg h
theorem eQ_drop {z0 : List UInt8} {p t : Nat} (h : p ≤ z0.length) : eQ (z0.drop p) t = eQ z0 (p + t) := by
  unfold eQ; rw [List.length_drop]
  by_cases hc : t ≤ z0.length - p
  · rw [if_pos hc, if_pos (by omega)]
  · rw [if_neg hc, if_neg (by omega)]
theorem Lq.drop {z0 z : List UInt8} {p t : Nat} (hp : p ≤ z0.length) (h : Lq (z0.drop p) z t) : Lq z0 z (p + t) := fun hl => by
 rw [h (by rw [List.length_drop]; omega), List.drop_drop]
def TkR (z : List UInt8) (pv ep : UInt64) (kd : Int) (l : List UInt64) (ls : List SealR) (bl : UInt64) (tg : List UInt8) (tot : Nat) : Prop :=
 (Ok3 z ∧ pv = vQ z 0 8 ∧ ep = vQ z 8 8 ∧ kd = ((vQ z 16 1).toNat:Int) ∧ l = [] ∧ ls = [] ∧ bl = vQ z 17 8 ∧ tg = bQ z 25 16 ∧ tot = 41) ∨
 (Ok2 z ∧ pv = vQ z 0 8 ∧ ep = vQ z 8 8 ∧ kd = ((vQ z 16 1).toNat:Int) ∧ l = ixQ z 18 (mQ z) ∧ ls = [] ∧ bl = 0 ∧ tg = bQ z (4*mQ z + 18) 16 ∧ tot = 4*mQ z + 34) ∨
 (Ok1 z ∧ pv = vQ z 0 8 ∧ ep = vQ z 8 8 ∧ kd = ((vQ z 16 1).toNat:Int) ∧ l = ixQ z 18 (mQ z) ∧ ls = seQ z (4*mQ z + 18) (mQ z) ∧ bl = 0 ∧ tg = bQ z (60*mQ z + 18) 16 ∧ tot = 60*mQ z + 34) ∨
 (BadQ z ∧ pv = 0 ∧ ep = 0 ∧ kd = 0 ∧ l = [] ∧ ls = [] ∧ bl = 0 ∧ tg = zr8 16 ∧ tot = z.length + 1)
theorem TkR.bad (z : List UInt8) (h : BadQ z) : TkR z 0 0 0 [] [] 0 (zr8 16) (z.length + 1) := .inr (.inr (.inr ⟨h, rfl, rfl, rfl, rfl, rfl, rfl, rfl, rfl⟩))
theorem mQ_le (z : List UInt8) : mQ z ≤ 256 := by have := vQ_lt1 z 17; unfold mQ; omega
theorem Ok12 {z : List UInt8} (h : Ok1 z) (h2 : Ok2 z) : False := absurd (h.1.symm.trans h2.1) (by decide)
theorem Ok13 {z : List UInt8} (h : Ok1 z) (h2 : Ok3 z) : False := absurd (h.1.symm.trans h2.1) (by decide)
theorem Ok23 {z : List UInt8} (h : Ok2 z) (h2 : Ok3 z) : False := absurd (h.1.symm.trans h2.1) (by decide)
theorem TkR.one {z : List UInt8} {pv ep : UInt64} {kd : Int} {l : List UInt64} {ls : List SealR} {bl : UInt64} {tg : List UInt8} {tot : Nat} {pv' ep' : UInt64} {kd' : Int} {l' : List UInt64} {ls' : List SealR} {bl' : UInt64} {tg' : List UInt8} {tot' : Nat}
  (h : TkR z pv ep kd l ls bl tg tot) (h' : TkR z pv' ep' kd' l' ls' bl' tg' tot') : pv = pv' ∧ ep = ep' ∧ kd = kd' ∧ l = l' ∧ ls = ls' ∧ bl = bl' ∧ tg = tg' ∧ tot = tot' := by
 rcases h with ⟨h0, rfl, rfl, rfl, rfl, rfl, rfl, rfl, rfl⟩ | ⟨h0, rfl, rfl, rfl, rfl, rfl, rfl, rfl, rfl⟩ | ⟨h0, rfl, rfl, rfl, rfl, rfl, rfl, rfl, rfl⟩ | ⟨h0, rfl, rfl, rfl, rfl, rfl, rfl, rfl, rfl⟩ <;>
 rcases h' with ⟨h1, rfl, rfl, rfl, rfl, rfl, rfl, rfl, rfl⟩ | ⟨h1, rfl, rfl, rfl, rfl, rfl, rfl, rfl, rfl⟩ | ⟨h1, rfl, rfl, rfl, rfl, rfl, rfl, rfl, rfl⟩ | ⟨h1, rfl, rfl, rfl, rfl, rfl, rfl, rfl, rfl⟩ <;>
 first
 | exact ⟨rfl, rfl, rfl, rfl, rfl, rfl, rfl, rfl⟩
 | exact (Ok12 h0 h1).elim
 | exact (Ok13 h0 h1).elim
 | exact (Ok23 h0 h1).elim
 | exact (Ok12 h1 h0).elim
 | exact (Ok13 h1 h0).elim
 | exact (Ok23 h1 h0).elim
 | exact (h0.1 h1).elim
 | exact (h0.2.1 h1).elim
 | exact (h0.2.2 h1).elim
 | exact (h1.1 h0).elim
 | exact (h1.2.1 h0).elim
 | exact (h1.2.2 h0).elim
theorem TkR.good {z : List UInt8} {pv ep : UInt64} {kd : Int} {l : List UInt64} {ls : List SealR} {bl : UInt64} {tg : List UInt8} {tot : Nat} (h : TkR z pv ep kd l ls bl tg tot) (ht : tot ≤ z.length) :
    mayN pv ep kd l ls bl = 0 ∧ tktT pv ep kd.toNat l ls bl ++ tg = z.take tot := by
  rcases h with ⟨h0, rfl, rfl, rfl, rfl, rfl, rfl, rfl, rfl⟩ | ⟨h0, rfl, rfl, rfl, rfl, rfl, rfl, rfl, rfl⟩ | ⟨h0, rfl, rfl, rfl, rfl, rfl, rfl, rfl, rfl⟩ | ⟨h0, rfl, rfl, rfl, rfl, rfl, rfl, rfl, rfl⟩
  · exact ⟨h0.2.2, by rw [Int.toNat_natCast, text3_q (by omega) h0.1, bQ_q (by omega)]⟩
  · exact ⟨h0.2.2, by rw [Int.toNat_natCast, text2_q (by omega) h0.1, bQ_q (by omega)]⟩
  · exact ⟨h0.2.2, by rw [Int.toNat_natCast, text1_q (by omega) h0.1, bQ_q (by omega)]⟩
  · omega
theorem E0 {w0 w : World} {M : List Nat} {L : List Ent} (h : Hp w0 M L w) (i j k : Nat) {e f g : Ent} (hi : L[i]? = some e) (hj : L[j]? = some f) (hk : L[k]? = some g) (hij : i ≠ j) (hik : i ≠ k) (hjk : j ≠ k) : Hp w0 M [e, f, g] w := by
  have h1 := Hp.two h i j hi hj hij
  have h2 := Hp.two h i k hi hk hik
  have h3 := Hp.two h j k hj hk hjk
  refine h.sub (fun x hx => ?_) ?_
  · rcases List.mem_cons.1 hx with rfl | hx
    · exact List.mem_of_getElem? hi
    · rcases List.mem_cons.1 hx with rfl | hx
      · exact List.mem_of_getElem? hj
      · rcases List.mem_cons.1 hx with rfl | hx
        · exact List.mem_of_getElem? hk
        · cases hx
  · have n1 := h1.nd
    have n2 := h2.nd
    have n3 := h3.nd
    simp at n1 n2 n3 ⊢
    exact ⟨⟨n1, n2⟩, n3⟩
theorem Gh.u64 {l : List UInt64} {g : Nat} {cs : List Value} {a : Option Addr} (h : l = []) : Gh (cu64 l) g cs a := by subst h; exact .inl rfl
def fQ (z0 : List UInt8) (p : Nat) : Bool := decide (p + 1 ≤ z0.length ∧ g8 (z0.drop p) 0 = 1)
def fN (z0 : List UInt8) (p : Nat) : Nat := if p + 1 ≤ z0.length ∧ g8 (z0.drop p) 0 ≤ 1 then 1 else z0.length + 1
theorem fN_ok {z0 : List UInt8} {p : Nat} : p + fN z0 p ≤ z0.length ↔ (p + 1 ≤ z0.length ∧ g8 (z0.drop p) 0 ≤ 1) := by
  unfold fN; split
  · rename_i h; exact ⟨fun _ => h, fun _ => h.1⟩
  · rename_i h; exact ⟨fun e => by omega, fun e => absurd e h⟩
theorem fN_one {z0 : List UInt8} {p : Nat} (h : p + fN z0 p ≤ z0.length) : fN z0 p = 1 := if_pos (fN_ok.1 h)
theorem FgOk_q {z0 z : List UInt8} {p : Nat} (h : Lq z0 z p) : FgOk z (eQ z0 p) ↔ p + fN z0 p ≤ z0.length := by
  rw [fN_ok]
  unfold FgOk
  rw [eQ_zero]
  refine ⟨fun ⟨h1, h2, h3⟩ => ?_, fun ⟨h1, h2⟩ => ?_⟩
  · rw [h h1] at h2 h3; rw [List.length_drop] at h2; exact ⟨by omega, h3⟩
  · have hp : p ≤ z0.length := by omega
    rw [h hp, List.length_drop]; exact ⟨hp, by omega, h2⟩
theorem fgV_q {z0 z : List UInt8} {p : Nat} (h : Lq z0 z p) : fgV z (eQ z0 p) = fQ z0 p := by
  unfold fgV fQ
  refine decide_eq_decide.2 ⟨fun ⟨h1, h2⟩ => ?_, fun ⟨h1, h2⟩ => ?_⟩
  · have h3 := (fN_ok.1 ((FgOk_q h).1 h1)).1
    rw [h (by omega)] at h2; exact ⟨h3, h2⟩
  · have hp : p ≤ z0.length := by omega
    exact ⟨(FgOk_q h).2 (fN_ok.2 ⟨h1, by rw [h2]; decide⟩), by rw [h hp]; exact h2⟩
theorem fgZ_q {z0 z : List UInt8} {p : Nat} (h : Lq z0 z p) : Lq z0 (fgZ z (eQ z0 p)) (p + fN z0 p) := fun hp => by
 have h1 := fN_one hp
 rw [fgZ, if_pos ((FgOk_q h).2 hp), h (by omega), List.drop_drop, h1]
theorem HsOk_q {z0 z : List UInt8} {p : Nat} (h : Lq z0 z p) : HsOk z (eQ z0 p) ↔ p + 32 ≤ z0.length := by
  unfold HsOk
  rw [eQ_zero]
  refine ⟨fun ⟨h1, h2⟩ => ?_, fun h1 => ?_⟩
  · rw [h h1, List.length_drop] at h2; omega
  · rw [h (by omega), List.length_drop]; exact ⟨by omega, by omega⟩
theorem hsV_q {z0 z : List UInt8} {p : Nat} (h : Lq z0 z p) : hsV z (eQ z0 p) = bQ z0 p 32 := by
  unfold hsV bQ
  by_cases hc : p + 32 ≤ z0.length
  · rw [if_pos ((HsOk_q h).2 hc), if_pos hc, h (by omega)]
  · rw [if_neg (fun e => hc ((HsOk_q h).1 e)), if_neg hc]
theorem hsZ_q {z0 z : List UInt8} {p : Nat} (h : Lq z0 z p) : Lq z0 (hsZ z (eQ z0 p)) (p + 32) := fun hp => by
 rw [hsZ, if_pos ((HsOk_q h).2 hp), h (by omega), List.drop_drop]
theorem flag_q {z0 : List UInt8} {p : Nat} (h : p + fN z0 p ≤ z0.length) : z0.take p ++ numK 1 (bitU (fQ z0 p)) 1 = z0.take (p + 1) := by
  have h1 := fN_ok.1 h
  have e : numK 1 (bitU (fQ z0 p)) 1 = mid (z0.drop p) 0 1 := by
    have hl : 1 ≤ (z0.drop p).length := by rw [List.length_drop]; omega
    rw [← numK_val (k := 1) (by omega) hl]
    have hv : valK (z0.drop p) 1 = bitU (fQ z0 p) := by
      have hg : g8 (z0.drop p) 0 = 0 ∨ g8 (z0.drop p) 0 = 1 := by
        have := UInt8.le_iff_toNat_le.1 h1.2
        rcases Nat.lt_or_ge (g8 (z0.drop p) 0).toNat 1 with h | h
        · exact .inl (UInt8.toNat_inj.1 (by show _ = 0; omega))
        · exact .inr (UInt8.toNat_inj.1 (by show _ = 1; have h9 : (1:UInt8).toNat = 1 := rfl; omega))
      rcases hg with hg | hg
      · have : fQ z0 p = false := decide_eq_false (fun e => by rw [hg] at e; exact absurd e.2 (by decide))
        rw [this]; show _ = _; simp only [valK, hg]; decide +kernel
      · have : fQ z0 p = true := decide_eq_true ⟨h1.1, hg⟩
        rw [this]; show _ = _; simp only [valK, hg]; decide +kernel
    rw [hv]
  rw [e, ← take_mid]
theorem FL {z0 z : List UInt8} {p : Nat} (h : Lq z0 z p) : endN (eQ z0 p) z.length = 0 ↔ p = z0.length := by
  unfold endN
  by_cases hp : p ≤ z0.length
  · rw [if_pos (eQ_ok hp), h.len hp]
    split
    · exact ⟨fun _ => by omega, fun _ => rfl⟩
    · exact ⟨fun e => absurd e (by decide), fun e => by omega⟩
  · rw [if_neg (by rw [EU hp]; decide), EU hp]
    exact ⟨fun e => absurd e (by decide), fun e => absurd (Nat.le_of_eq e) hp⟩
def RqR (z : List UInt8) (sq : UInt64) (qk : Int) (lq : List UInt64) (fs : UInt64) (mn : Int) (pv ep : UInt64) (kd : Int) (l : List UInt64) (ls : List SealR) (bl : UInt64) (tg : List UInt8) (eq : UInt64) (tot : Nat) : Prop :=
  sq = vQ z 0 8 ∧ qk = ((vQ z 8 1).toNat:Int) ∧
  ((vQ z 8 1 = 3 ∧ lq = [] ∧ fs = 0 ∧ mn = 0 ∧ eq = 0 ∧ ∃ t, TkR (z.drop 9) pv ep kd l ls bl tg t ∧ tot = 9 + t) ∨
   (vQ z 8 1 ≠ 3 ∧ pv = 0 ∧ ep = 0 ∧ kd = 0 ∧ l = [] ∧ ls = [] ∧ bl = 0 ∧ tg = zr8 16 ∧ eq = vQ z 9 8 ∧
    ((vQ z 8 1 = 1 ∧ lq = ixQ z 18 (mQ z) ∧ fs = 0 ∧ mn = 0 ∧ tot = 4*mQ z + 18) ∨
     (vQ z 8 1 = 2 ∧ lq = [] ∧ fs = vQ z 17 4 ∧ mn = ((vQ z 21 1).toNat:Int) + 1 ∧ tot = 22) ∨
     (vQ z 8 1 ≠ 1 ∧ vQ z 8 1 ≠ 2 ∧ lq = [] ∧ fs = 0 ∧ mn = 0 ∧ tot = 17))))
def GRq (z : List UInt8) (sq : UInt64) (qk : Int) (lq : List UInt64) (fs : UInt64) (mn : Int) (pv ep : UInt64) (kd : Int) (l : List UInt64) (ls : List SealR) (bl : UInt64) (tg : List UInt8) (eq : UInt64) : Prop :=
 RqR z sq qk lq fs mn pv ep kd l ls bl tg eq z.length ∧ reqR qk lq fs mn eq (blankB pv ep kd l ls bl tg) (decide (mayN pv ep kd l ls bl = 0)) = true
def BadRq (z : List UInt8) : Prop := ∀ sq qk lq fs mn pv ep kd l ls bl tg eq, ¬ GRq z sq qk lq fs mn pv ep kd l ls bl tg eq
theorem RqR.one {z : List UInt8} {sq : UInt64} {qk : Int} {lq : List UInt64} {fs : UInt64} {mn : Int} {pv ep : UInt64} {kd : Int} {l : List UInt64} {ls : List SealR} {bl : UInt64} {tg : List UInt8} {eq : UInt64} {tot : Nat}
    {sq' : UInt64} {qk' : Int} {lq' : List UInt64} {fs' : UInt64} {mn' : Int} {pv' ep' : UInt64} {kd' : Int} {l' : List UInt64} {ls' : List SealR} {bl' : UInt64} {tg' : List UInt8} {eq' : UInt64} {tot' : Nat}
    (h : RqR z sq qk lq fs mn pv ep kd l ls bl tg eq tot) (h' : RqR z sq' qk' lq' fs' mn' pv' ep' kd' l' ls' bl' tg' eq' tot') :
    sq = sq' ∧ qk = qk' ∧ lq = lq' ∧ fs = fs' ∧ mn = mn' ∧ pv = pv' ∧ ep = ep' ∧ kd = kd' ∧ l = l' ∧ ls = ls' ∧ bl = bl' ∧ tg = tg' ∧ eq = eq' ∧ tot = tot' := by
  obtain ⟨rfl, rfl, h⟩ := h
  obtain ⟨rfl, rfl, h'⟩ := h'
  rcases h with ⟨h3, rfl, rfl, rfl, rfl, t, hT, rfl⟩ | ⟨h3, rfl, rfl, rfl, rfl, rfl, rfl, rfl, rfl, h⟩ <;>
  rcases h' with ⟨h3', rfl, rfl, rfl, rfl, t', hT', rfl⟩ | ⟨h3', rfl, rfl, rfl, rfl, rfl, rfl, rfl, rfl, h'⟩
  · obtain ⟨rfl, rfl, rfl, rfl, rfl, rfl, rfl, rfl⟩ := hT.one hT'
    exact ⟨rfl, rfl, rfl, rfl, rfl, rfl, rfl, rfl, rfl, rfl, rfl, rfl, rfl, rfl⟩
  · exact absurd h3 h3'
  · exact absurd h3' h3
  · rcases h with ⟨h1, rfl, rfl, rfl, rfl⟩ | ⟨h1, rfl, rfl, rfl, rfl⟩ | ⟨h1, h2, rfl, rfl, rfl, rfl⟩ <;>
    rcases h' with ⟨h1', rfl, rfl, rfl, rfl⟩ | ⟨h1', rfl, rfl, rfl, rfl⟩ | ⟨h1', h2', rfl, rfl, rfl, rfl⟩ <;>
    first
    | exact ⟨rfl, rfl, rfl, rfl, rfl, rfl, rfl, rfl, rfl, rfl, rfl, rfl, rfl, rfl⟩
    | exact absurd (h1.symm.trans h1') (by decide)
    | exact absurd h1 h1'
    | exact absurd h1 h2'
    | exact absurd h1' h1
    | exact absurd h1' h2
theorem BadRq.of {z : List UInt8} {sq : UInt64} {qk : Int} {lq : List UInt64} {fs : UInt64} {mn : Int} {pv ep : UInt64} {kd : Int} {l : List UInt64} {ls : List SealR} {bl : UInt64} {tg : List UInt8} {eq : UInt64} {tot : Nat}
  (h : RqR z sq qk lq fs mn pv ep kd l ls bl tg eq tot) (hb : tot = z.length → reqR qk lq fs mn eq (blankB pv ep kd l ls bl tg) (decide (mayN pv ep kd l ls bl = 0)) = false) : BadRq z := by
 intro sq' qk' lq' fs' mn' pv' ep' kd' l' ls' bl' tg' eq' ⟨h', hr⟩
 obtain ⟨rfl, rfl, rfl, rfl, rfl, rfl, rfl, rfl, rfl, rfl, rfl, rfl, rfl, ht⟩ := h.one h'
 rw [hb ht] at hr
 exact absurd hr (by decide)
theorem RqR.k3 {z : List UInt8} {pv ep : UInt64} {kd : Int} {l : List UInt64} {ls : List SealR} {bl : UInt64} {tg : List UInt8} {t : Nat} (h3 : vQ z 8 1 = 3) (hT : TkR (z.drop 9) pv ep kd l ls bl tg t) :
  RqR z (vQ z 0 8) ((vQ z 8 1).toNat:Int) [] 0 0 pv ep kd l ls bl tg 0 (9 + t) := ⟨rfl, rfl, .inl ⟨h3, rfl, rfl, rfl, rfl, t, hT, rfl⟩⟩
theorem RqR.k1 {z : List UInt8} (h : vQ z 8 1 = 1) : RqR z (vQ z 0 8) ((vQ z 8 1).toNat:Int) (ixQ z 18 (mQ z)) 0 0 0 0 0 [] [] 0 (zr8 16) (vQ z 9 8) (4*mQ z + 18) :=
 ⟨rfl, rfl, .inr ⟨(by rw [h]; decide), rfl, rfl, rfl, rfl, rfl, rfl, rfl, rfl, .inl ⟨h, rfl, rfl, rfl, rfl⟩⟩⟩
theorem RqR.k2 {z : List UInt8} (h : vQ z 8 1 = 2) : RqR z (vQ z 0 8) ((vQ z 8 1).toNat:Int) [] (vQ z 17 4) (((vQ z 21 1).toNat:Int) + 1) 0 0 0 [] [] 0 (zr8 16) (vQ z 9 8) 22 :=
 ⟨rfl, rfl, .inr ⟨(by rw [h]; decide), rfl, rfl, rfl, rfl, rfl, rfl, rfl, rfl, .inr (.inl ⟨h, rfl, rfl, rfl, rfl⟩)⟩⟩
theorem RqR.k0 {z : List UInt8} (h3 : vQ z 8 1 ≠ 3) (h1 : vQ z 8 1 ≠ 1) (h2 : vQ z 8 1 ≠ 2) : RqR z (vQ z 0 8) ((vQ z 8 1).toNat:Int) [] 0 0 0 0 0 [] [] 0 (zr8 16) (vQ z 9 8) 17 :=
 ⟨rfl, rfl, .inr ⟨h3, rfl, rfl, rfl, rfl, rfl, rfl, rfl, rfl, .inr (.inr ⟨h1, h2, rfl, rfl, rfl, rfl⟩)⟩⟩
theorem kQT {x : UInt64} {k : Nat} (hk : k < 256) (h : decide ((x.toNat:Int) = (k:Int)) = true) : x = UInt64.ofNat k := kdn (by omega) (of_decide_eq_true h)
theorem kQF {x : UInt64} {k : Nat} (hk : k < 256) (h : decide ((x.toNat:Int) = (k:Int)) = false) : x ≠ UInt64.ofNat k := fun e => (of_decide_eq_false h) (by rw [e, UInt64.toNat_ofNat']; omega)
theorem reqR_nil {fs : UInt64} {mn : Int} {eq : UInt64} {b m : Bool} : reqR 1 [] fs mn eq b m = false := by
  cases h : reqR 1 [] fs mn eq b m
  · rfl
  · exact absurd (RightI_pos (reqR_one h)) (by simp)
theorem vQ_lt2 (z0 : List UInt8) (p : Nat) : (vQ z0 p 2).toNat < 65536 := by
  unfold vQ
  split
  · exact (valK_lt (z0.drop p) 2 (by omega)).1
  · decide
theorem u64_lt {i : Nat} {x : UInt64} (hi : i < 18446744073709551616) (h : UInt64.ofNat i < x) : i < x.toNat := by
 have h2 := UInt64.lt_iff_toNat_lt.1 h
 rwa [UInt64.toNat_ofNat', Nat.mod_eq_of_lt (by omega)] at h2
theorem u64_ge {i : Nat} {x : UInt64} (hi : i < 18446744073709551616) (h : ¬ UInt64.ofNat i < x) : x.toNat ≤ i := by
 have h2 := UInt64.le_iff_toNat_le.1 (UInt64.not_lt.1 h)
 rwa [UInt64.toNat_ofNat', Nat.mod_eq_of_lt (by omega)] at h2
theorem u64_suc (i : Nat) : UInt64.ofNat i + 1 = UInt64.ofNat (i + 1) := (UInt64.ofNat_add i 1).symm
theorem brk_lt {z0 z : List UInt8} {P q : Nat} (h : Lq z0 z P) (hl : leftN (eQ z0 P) z.length = 0) (hq : P < q) : z0.length < q := by
  by_cases hp : P ≤ z0.length
  · rw [leftN, if_pos (eQ_ok hp), h.len hp] at hl; omega
  · omega
theorem brk_q {z0 z : List UInt8} {P q : Nat} (h : Lq z0 z P) (hl : leftN (eQ z0 P) z.length = 0) (hq : P < q) : erN (eQ z0 P) 2 = eQ z0 q := by
  rw [EU (p := q) (by have := brk_lt h hl hq; omega)]
  by_cases hp : P ≤ z0.length
  · rw [eQ_ok hp]; rfl
  · rw [EU hp]; rfl
theorem erQ_q {z0 : List UInt8} {P q : Nat} (hq : z0.length < q) : erN (eQ z0 P) 2 = eQ z0 q := by
  rw [EU (p := q) (by omega)]
  by_cases hp : P ≤ z0.length
  · rw [eQ_ok hp]; rfl
  · rw [EU hp]; rfl
def hQ (z0 : List UInt8) (p : Nat) : Nat → List UInt8
 | 0 => []
 | i + 1 => hQ z0 p i ++ bQ z0 (p + 32*i) 32
theorem hQ_succ (z0 : List UInt8) (p i : Nat) : hQ z0 p (i + 1) = hQ z0 p i ++ bQ z0 (p + 32*i) 32 := rfl
theorem hQ_len (z0 : List UInt8) (p : Nat) : ∀ i, (hQ z0 p i).length = i*32
 | 0 => rfl
 | i + 1 => by rw [hQ_succ, List.length_append, hQ_len z0 p i, B8]; omega
theorem hQ_zero (z0 : List UInt8) (p : Nat) : hQ z0 p 0 = [] := rfl
theorem hQ_one (z0 : List UInt8) (p : Nat) : [] ++ bQ z0 p 32 = hQ z0 p 1 := rfl
theorem hQ_q {z0 : List UInt8} {p : Nat} : ∀ m, p + 32*m ≤ z0.length → z0.take p ++ hQ z0 p m = z0.take (p + 32*m)
 | 0, h => by show z0.take p ++ [] = _; rw [List.append_nil]; rfl
 | m + 1, h => by rw [hQ_succ, ← List.append_assoc, hQ_q m (by omega), bQ_q (by omega)]; congr 1 <;> omega
def qI (z0 : List UInt8) (p : Nat) : Nat → Nat
 | 0 => p
 | i + 1 => qI z0 p i + fN z0 (qI z0 p i) + (if fQ z0 (qI z0 p i) then 56 else 0)
def zS : SealR := ⟨0, zr8 32, zr8 16, AN 32, AN 16⟩
def iQ (z0 : List UInt8) (q : Nat) : ItemR := if fQ z0 q then ⟨true, sQ z0 (q + fN z0 q)⟩ else ⟨false, zS⟩
def itQ (z0 : List UInt8) (p : Nat) : Nat → List ItemR
 | 0 => []
 | i + 1 => itQ z0 p i ++ [iQ z0 (qI z0 p i)]
theorem itQ_len (z0 : List UInt8) (p : Nat) : ∀ i, (itQ z0 p i).length = i
 | 0 => rfl
 | i + 1 => by show (itQ z0 p i ++ [_]).length = _; rw [List.length_append, itQ_len z0 p i]; rfl
theorem itQ_suc (z0 : List UInt8) (p i : Nat) : itQ z0 p (i + 1) = itQ z0 p i ++ [iQ z0 (qI z0 p i)] := rfl
theorem iQ_t {z0 : List UInt8} {q r : Nat} (h : fQ z0 q = true) (hr : r = q + fN z0 q) (h1 : (bQ z0 (r + 8) 32).length = 32) (h2 : (bQ z0 (r + 40) 16).length = 16) : ItemR.mk (fQ z0 q) (SealR.mk (vQ z0 r 8) (bQ z0 (r + 8) 32) (bQ z0 (r + 40) 16) h1 h2) = iQ z0 q := by
 subst hr; unfold iQ; rw [if_pos h, h]; rfl
theorem iQ_f {z0 : List UInt8} {q : Nat} (h : fQ z0 q = false) (h1 : (zr8 32).length = 32) (h2 : (zr8 16).length = 16) : ItemR.mk (fQ z0 q) (SealR.mk 0 (zr8 32) (zr8 16) h1 h2) = iQ z0 q := by
 unfold iQ; rw [if_neg (by rw [h]; decide), h]; rfl
theorem qI_t {z0 : List UInt8} {p i q r : Nat} (hq : q = qI z0 p i) (h : fQ z0 q = true) (hr : r = q + fN z0 q) : r + 56 = qI z0 p (i + 1) := by
 subst hr; subst hq
 show _ = qI z0 p i + fN z0 (qI z0 p i) + (if fQ z0 (qI z0 p i) then 56 else 0)
 rw [if_pos h]
theorem qI_f {z0 : List UInt8} {p i q r : Nat} (hq : q = qI z0 p i) (h : fQ z0 q = false) (hr : r = q + fN z0 q) : r = qI z0 p (i + 1) := by
 subst hr; subst hq
 show _ = qI z0 p i + fN z0 (qI z0 p i) + (if fQ z0 (qI z0 p i) then 56 else 0)
 rw [if_neg (by rw [h]; decide)]; rfl
theorem fN_pos (z0 : List UInt8) (p : Nat) : 1 ≤ fN z0 p := by unfold fN; split <;> omega
theorem qI_ge (z0 : List UInt8) (p : Nat) : ∀ i, p + i ≤ qI z0 p i
 | 0 => Nat.le_refl _
 | i + 1 => by
  have := qI_ge z0 p i
  have := fN_pos z0 (qI z0 p i)
  show _ ≤ qI z0 p i + fN z0 (qI z0 p i) + _
  omega
theorem qI_mono (z0 : List UInt8) (p : Nat) : ∀ i, qI z0 p i ≤ qI z0 p (i + 1) := fun i => by
 show _ ≤ qI z0 p i + fN z0 (qI z0 p i) + _
 omega
theorem itQ_q {z0 : List UInt8} {p : Nat} : ∀ m, qI z0 p m ≤ z0.length → z0.take p ++ itmsT (itQ z0 p m) = z0.take (qI z0 p m)
 | 0, h => by show z0.take p ++ [] = _; rw [List.append_nil]; rfl
 | m + 1, h => by
  have h1 : qI z0 p m ≤ z0.length := Nat.le_trans (qI_mono z0 p m) h
  have e : qI z0 p (m + 1) = qI z0 p m + fN z0 (qI z0 p m) + (if fQ z0 (qI z0 p m) then 56 else 0) := rfl
  have h2 : qI z0 p m + fN z0 (qI z0 p m) ≤ z0.length := by rw [e] at h; omega
  have h3 := fN_one h2
  rw [itQ_suc]
  unfold itmsT
  rw [List.flatMap_append, ← List.append_assoc]
  have h4 := itQ_q m h1
  unfold itmsT at h4
  rw [h4, List.flatMap_cons, List.flatMap_nil, List.append_nil]
  unfold iQ
  cases hf : fQ z0 (qI z0 p m) with
  | false =>
   rw [if_neg (by decide), itm_f rfl, e, hf, if_neg (by decide), h3]
   have h5 := flag_q h2
   rw [hf] at h5
   exact h5
  | true =>
   rw [if_pos rfl, itm_t rfl, e, hf, if_pos rfl, h3, ← List.append_assoc]
   have h5 := flag_q h2
   rw [hf] at h5
   rw [h5]
   have h6 := selT_q (z0 := z0) (p := qI z0 p m + 1) 1 (by rw [e, hf, if_pos rfl, h3] at h; omega)
   rw [seQ_one] at h6
   rw [← h6]
   simp [selT]
theorem minI {z0 z : List UInt8} (hq : Lq z0 z 11) : ∃ m : Nat, min (((vQ z0 10 1).toNat:Int) + 1) ((leftN (eQ z0 11) z.length : Nat) : Int) = (m:Int) ∧ m ≤ 256 ∧ (m = (vQ z0 10 1).toNat + 1 ∨ (m < (vQ z0 10 1).toNat + 1 ∧ z0.length ≤ m + 11)) := by
  have h1 := vQ_lt1 z0 10
  by_cases hp : 11 ≤ z0.length
  · rw [eQ_ok hp, leftN, if_pos rfl, hq.len hp]
    by_cases hc : (vQ z0 10 1).toNat + 1 ≤ z0.length - 11
    · exact ⟨(vQ z0 10 1).toNat + 1, by omega, by omega, .inl rfl⟩
    · exact ⟨z0.length - 11, by omega, by omega, .inr ⟨by omega, by omega⟩⟩
  · rw [EU hp, leftN, if_neg (by decide)]
    exact ⟨0, by omega, by omega, .inr ⟨by omega, by omega⟩⟩
def rkZ (z : List UInt8) : Int := ((vQ z 8 1).toNat:Int)
def erZ (z : List UInt8) : Int := ((vQ z 9 1).toNat:Int)
def nI (z : List UInt8) : Nat := (vQ z 10 1).toNat + 1
def itZ (z : List UInt8) : Bool := itB (erZ z) (rkZ z)
def F4 (z : List UInt8) : Bool := decide (erZ z = 0) && decide (rkZ z = 4)
def P1 (z : List UInt8) : Nat := if itZ z then qI z 11 (nI z) else 10
def ljZ (z : List UInt8) : List ItemR := if itZ z then itQ z 11 (nI z) else []
def thZ (z : List UInt8) : Bool := F4 z && fQ z (P1 z)
def P2 (z : List UInt8) : Nat := if F4 z then P1 z + fN z (P1 z) else P1 z
def chZ (z : List UInt8) : Bool := chB (erZ z) (rkZ z) (thZ z)
def aZ (z : List UInt8) : Bool := aB (erZ z) (rkZ z) (thZ z)
def bZ (z : List UInt8) : Bool := bB (erZ z) (rkZ z) (thZ z)
noncomputable def tkN (z : List UInt8) : Nat := @ite _ (Ok3 z) (Classical.propDecidable _) 41 (@ite _ (Ok2 z) (Classical.propDecidable _) (4*mQ z + 34) (@ite _ (Ok1 z) (Classical.propDecidable _) (60*mQ z + 34) (z.length + 1)))
theorem TkR.tot {z : List UInt8} {pv ep : UInt64} {kd : Int} {l : List UInt64} {ls : List SealR} {bl : UInt64} {tg : List UInt8} {tot : Nat} (h : TkR z pv ep kd l ls bl tg tot) : tot = tkN z := by
  unfold tkN
  rcases h with ⟨h0, _, _, _, _, _, _, _, rfl⟩ | ⟨h0, _, _, _, _, _, _, _, rfl⟩ | ⟨h0, _, _, _, _, _, _, _, rfl⟩ | ⟨h0, _, _, _, _, _, _, _, rfl⟩
  · rw [if_pos h0]
  · rw [if_neg (fun e => Ok23 h0 e), if_pos h0]
  · rw [if_neg (fun e => Ok13 h0 e), if_neg (fun e => Ok12 h0 e), if_pos h0]
  · rw [if_neg h0.2.2, if_neg h0.2.1, if_neg h0.1]
noncomputable def P3 (z : List UInt8) : Nat := if chZ z then P2 z + tkN (z.drop (P2 z)) else P2 z
def hN (z : List UInt8) (p : Nat) : Nat := (vQ z p 2).toNat
noncomputable def P4 (z : List UInt8) : Nat := if aZ z then P3 z + 2 + 32*hN z (P3 z) else P3 z
noncomputable def P5 (z : List UInt8) : Nat := if bZ z then P4 z + 2 + 32*hN z (P4 z) else P4 z
noncomputable def naZ (z : List UInt8) : Nat := if aZ z then hN z (P3 z) else 0
noncomputable def xaZ (z : List UInt8) : List UInt8 := if aZ z then hQ z (P3 z + 2) (hN z (P3 z)) else []
noncomputable def nbZ (z : List UInt8) : Nat := if bZ z then hN z (P4 z) else 0
noncomputable def xbZ (z : List UInt8) : List UInt8 := if bZ z then hQ z (P4 z + 2) (hN z (P4 z)) else []
def TkZ (z : List UInt8) (pv ep : UInt64) (kd : Int) (l : List UInt64) (ls : List SealR) (bl : UInt64) (tg : List UInt8) : Prop :=
 (chZ z = true ∧ TkR (z.drop (P2 z)) pv ep kd l ls bl tg (tkN (z.drop (P2 z)))) ∨ (chZ z = false ∧ pv = 0 ∧ ep = 0 ∧ kd = 0 ∧ l = [] ∧ ls = [] ∧ bl = 0 ∧ tg = zr8 16)
def CRp (z : List UInt8) (rq : UInt64) (rk er : Int) (lj : List ItemR) (th : Bool) (pv ep : UInt64) (kd : Int) (l : List UInt64) (ls : List SealR) (bl : UInt64) (tg : List UInt8) (na : Nat) (xa : List UInt8) (nb : Nat) (xb : List UInt8) : Prop :=
 P5 z = z.length ∧ rq = vQ z 0 8 ∧ rk = rkZ z ∧ er = erZ z ∧ lj = ljZ z ∧ th = thZ z ∧ TkZ z pv ep kd l ls bl tg ∧ na = naZ z ∧ xa = xaZ z ∧ nb = nbZ z ∧ xb = xbZ z
def GRp (z : List UInt8) (rq : UInt64) (rk er : Int) (lj : List ItemR) (th : Bool) (pv ep : UInt64) (kd : Int) (l : List UInt64) (ls : List SealR) (bl : UInt64) (tg : List UInt8) (na : Nat) (xa : List UInt8) (nb : Nat) (xb : List UInt8) : Prop :=
 CRp z rq rk er lj th pv ep kd l ls bl tg na xa nb xb ∧ repR rk er th lj (blankB pv ep kd l ls bl tg) (decide (mayN pv ep kd l ls bl = 0)) na nb = true
def BadRp (z : List UInt8) : Prop := ∀ rq rk er lj th pv ep kd l ls bl tg na xa nb xb, ¬ GRp z rq rk er lj th pv ep kd l ls bl tg na xa nb xb
theorem TkZ.one {z : List UInt8} {pv ep : UInt64} {kd : Int} {l : List UInt64} {ls : List SealR} {bl : UInt64} {tg : List UInt8} {pv' ep' : UInt64} {kd' : Int} {l' : List UInt64} {ls' : List SealR} {bl' : UInt64} {tg' : List UInt8}
    (h : TkZ z pv ep kd l ls bl tg) (h' : TkZ z pv' ep' kd' l' ls' bl' tg') : pv = pv' ∧ ep = ep' ∧ kd = kd' ∧ l = l' ∧ ls = ls' ∧ bl = bl' ∧ tg = tg' := by
  rcases h with ⟨h1, hT⟩ | ⟨h1, rfl, rfl, rfl, rfl, rfl, rfl, rfl⟩ <;> rcases h' with ⟨h2, hT'⟩ | ⟨h2, rfl, rfl, rfl, rfl, rfl, rfl, rfl⟩
  · obtain ⟨rfl, rfl, rfl, rfl, rfl, rfl, rfl, _⟩ := hT.one hT'
    exact ⟨rfl, rfl, rfl, rfl, rfl, rfl, rfl⟩
  · rw [h1] at h2; exact absurd h2 (by decide)
  · rw [h1] at h2; exact absurd h2 (by decide)
  · exact ⟨rfl, rfl, rfl, rfl, rfl, rfl, rfl⟩
theorem BadRp.far {z : List UInt8} (h : P5 z ≠ z.length) : BadRp z := by
 intro rq rk er lj th pv ep kd l ls bl tg na xa nb xb hg
 exact h hg.1.1
theorem BadRp.of {z : List UInt8} {rq : UInt64} {rk er : Int} {lj : List ItemR} {th : Bool} {pv ep : UInt64} {kd : Int} {l : List UInt64} {ls : List SealR} {bl : UInt64} {tg : List UInt8} {na : Nat} {xa : List UInt8} {nb : Nat} {xb : List UInt8}
  (h : CRp z rq rk er lj th pv ep kd l ls bl tg na xa nb xb) (hb : repR rk er th lj (blankB pv ep kd l ls bl tg) (decide (mayN pv ep kd l ls bl = 0)) na nb = false) : BadRp z := by
 intro rq' rk' er' lj' th' pv' ep' kd' l' ls' bl' tg' na' xa' nb' xb' ⟨h', hr⟩
 obtain ⟨_, rfl, rfl, rfl, rfl, rfl, hT, rfl, rfl, rfl, rfl⟩ := h
 obtain ⟨_, rfl, rfl, rfl, rfl, rfl, hT', rfl, rfl, rfl, rfl⟩ := h'
 obtain ⟨rfl, rfl, rfl, rfl, rfl, rfl, rfl⟩ := hT.one hT'
 rw [hb] at hr
 exact absurd hr (by decide)
theorem P1_t {z : List UInt8} (h : itZ z = true) : P1 z = qI z 11 (nI z) := by unfold P1; rw [if_pos h]
theorem P1_f {z : List UInt8} (h : itZ z = false) : P1 z = 10 := by unfold P1; rw [if_neg (by rw [h]; decide)]
theorem ljZ_t {z : List UInt8} (h : itZ z = true) : ljZ z = itQ z 11 (nI z) := by unfold ljZ; rw [if_pos h]
theorem ljZ_f {z : List UInt8} (h : itZ z = false) : ljZ z = [] := by unfold ljZ; rw [if_neg (by rw [h]; decide)]
theorem P2_t {z : List UInt8} (h : F4 z = true) : P2 z = P1 z + fN z (P1 z) := by unfold P2; rw [if_pos h]
theorem P2_f {z : List UInt8} (h : F4 z = false) : P2 z = P1 z := by unfold P2; rw [if_neg (by rw [h]; decide)]
theorem thZ_t {z : List UInt8} (h : F4 z = true) : thZ z = fQ z (P1 z) := by unfold thZ; rw [h]; rfl
theorem thZ_f {z : List UInt8} (h : F4 z = false) : thZ z = false := by unfold thZ; rw [h]; rfl
theorem F4_it {z : List UInt8} (h : itZ z = true) : F4 z = false := by
 unfold itZ itB at h
 unfold F4
 rw [Bool.and_eq_true, Bool.or_eq_true] at h
 have h2 : rkZ z ≠ 4 := by rcases h.2 with h | h <;> (have := of_decide_eq_true h; omega)
 rw [decide_eq_false h2, Bool.and_false]
theorem P3_t {z : List UInt8} (h : chZ z = true) : P3 z = P2 z + tkN (z.drop (P2 z)) := by unfold P3; rw [if_pos h]
theorem P3_f {z : List UInt8} (h : chZ z = false) : P3 z = P2 z := by unfold P3; rw [if_neg (by rw [h]; decide)]
theorem P4_t {z : List UInt8} (h : aZ z = true) : P4 z = P3 z + 2 + 32*hN z (P3 z) := by unfold P4; rw [if_pos h]
theorem P4_f {z : List UInt8} (h : aZ z = false) : P4 z = P3 z := by unfold P4; rw [if_neg (by rw [h]; decide)]
theorem P5_t {z : List UInt8} (h : bZ z = true) : P5 z = P4 z + 2 + 32*hN z (P4 z) := by unfold P5; rw [if_pos h]
theorem P5_f {z : List UInt8} (h : bZ z = false) : P5 z = P4 z := by unfold P5; rw [if_neg (by rw [h]; decide)]
theorem A_t {z : List UInt8} (h : aZ z = true) : naZ z = hN z (P3 z) ∧ xaZ z = hQ z (P3 z + 2) (hN z (P3 z)) := by unfold naZ xaZ; rw [if_pos h, if_pos h]; exact ⟨rfl, rfl⟩
theorem A_f {z : List UInt8} (h : aZ z = false) : naZ z = 0 ∧ xaZ z = [] := by unfold naZ xaZ; rw [if_neg (by rw [h]; decide), if_neg (by rw [h]; decide)]; exact ⟨rfl, rfl⟩
theorem B_t {z : List UInt8} (h : bZ z = true) : nbZ z = hN z (P4 z) ∧ xbZ z = hQ z (P4 z + 2) (hN z (P4 z)) := by unfold nbZ xbZ; rw [if_pos h, if_pos h]; exact ⟨rfl, rfl⟩
theorem B_f {z : List UInt8} (h : bZ z = false) : nbZ z = 0 ∧ xbZ z = [] := by unfold nbZ xbZ; rw [if_neg (by rw [h]; decide), if_neg (by rw [h]; decide)]; exact ⟨rfl, rfl⟩
theorem bB_ch {er rk : Int} {th : Bool} (h : chB er rk th = true) : bB er rk th = true := by
 unfold chB at h; unfold bB
 rw [Bool.and_eq_true] at h
 rw [h.1, h.2]; simp
theorem aB_ch {er rk : Int} {th : Bool} (h : chB er rk th = true) : aB er rk th = true := by
 unfold aB; rw [bB_ch h]
 unfold chB at h
 rw [Bool.and_eq_true, Bool.and_eq_true] at h
 have := of_decide_eq_true h.2.1
 rw [decide_eq_true (by omega)]; rfl
theorem chB_n0 {er rk : Int} {th : Bool} (h : decide (er = 0) = false) : chB er rk th = false := by unfold chB; rw [h]; rfl
theorem F4_t {z : List UInt8} (h0 : decide (erZ z = 0) = true) (h4 : decide (rkZ z = 4) = true) : F4 z = true := by unfold F4; rw [h0, h4]; rfl
theorem F4_n0 {z : List UInt8} (h0 : decide (erZ z = 0) = false) : F4 z = false := by unfold F4; rw [h0]; rfl
theorem F4_n4 {z : List UInt8} (h4 : decide (rkZ z = 4) = false) : F4 z = false := by unfold F4; rw [h4, Bool.and_false]
theorem Gh.rdB {C : Cx} {L : List Ent} {w : World} (hw : Hp C.w0 C.M L w) {x : List UInt8} {cs : List Value} {g T : Nat} {fz : Nat × Nat} {a : Option Addr} (i : Nat) (hi : L[i]? = some ⟨g, cs, T, fz⟩) (h : Gh (cu8 x) g cs a) : RdB w [] a x := by
  rcases h with h | ⟨rfl, sp, rfl⟩
  · have h2 := congrArg List.length h
    rw [cu8_length] at h2
    exact .inl (List.eq_nil_of_length_eq_zero h2)
  · exact RdB.of hw (AU i hi (AJ (AQ _))) (by simp)
theorem Gh.h0 {z0 : List UInt8} {p g : Nat} {cs : List Value} {a : Option Addr} : Gh (cu8 (hQ z0 p 0)) g cs a := .inl rfl
def Pick (L : List Ent) : List Nat → List Ent → Prop
 | [], [] => True
 | i :: is, e :: es => L[i]? = some e ∧ Pick L is es
 | _, _ => False
theorem Pick.mem {L : List Ent} : ∀ {is : List Nat} {es : List Ent}, Pick L is es → ∀ e ∈ es, ∃ i ∈ is, L[i]? = some e
  | [], [], _, e, he => by cases he
  | i :: is, x :: es, h, e, he => by
    rcases List.mem_cons.1 he with rfl | he
    · exact ⟨i, List.mem_cons_self, h.1⟩
    · obtain ⟨j, hj, hl⟩ := Pick.mem h.2 e he
      exact ⟨j, List.mem_cons_of_mem _ hj, hl⟩
  | [], _ :: _, h, _, _ => by cases h
  | _ :: _, [], h, e, he => by cases he
theorem Pick.nd {w0 w : World} {M : List Nat} {L : List Ent} (hp : Hp w0 M L w) : ∀ {is : List Nat} {es : List Ent}, Pick L is es → is.Nodup → (es.map Ent.b).Nodup
 | [], [], _, _ => List.nodup_nil
 | i :: is, x :: es, h, hn => by
  rw [List.map_cons, List.nodup_cons]
  obtain ⟨h1, h2⟩ := List.nodup_cons.1 hn
  refine ⟨fun hm => ?_, Pick.nd hp h.2 h2⟩
  obtain ⟨f, hf, hb⟩ := List.mem_map.1 hm
  obtain ⟨j, hj, hl⟩ := Pick.mem h.2 f hf
  obtain ⟨hlt, _⟩ := List.getElem?_eq_some_iff.1 hl
  have e : j = i := (List.getElem?_inj (by simpa using hlt) hp.nd).1 (by rw [List.getElem?_map, List.getElem?_map, hl, h.1]; simp [hb])
  subst e
  exact h1 hj
 | [], _ :: _, h, _ => by cases h
 | _ :: _, [], h, _ => by cases h
theorem Hp.pick {w0 w : World} {M : List Nat} {L : List Ent} (h : Hp w0 M L w) (is : List Nat) {es : List Ent} (hp : Pick L is es) (hn : is.Nodup) : Hp w0 M es w :=
 h.sub (fun e he => by obtain ⟨i, _, hi⟩ := Pick.mem hp e he; exact List.mem_of_getElem? hi) (Pick.nd h hp hn)
def reqT (sq : UInt64) (qk : Int) (niq : Nat) (lq : List UInt64) (fs : UInt64) (mn : Int) (pv ep : UInt64) (kd : Int) (l : List UInt64) (ls : List SealR) (bl : UInt64) (tg : List UInt8) (eq : UInt64) : List UInt8 :=
 if qk = 1 then (((numK 8 sq 8 ++ numK 1 (1:UInt64) 1) ++ numK 8 eq 8) ++ numK 1 (UInt64.ofNat (niq - 1)) 1) ++ idxT lq niq
 else if qk = 2 then (((numK 8 sq 8 ++ numK 1 (2:UInt64) 1) ++ numK 8 eq 8) ++ numK 4 fs 4) ++ numK 1 (UInt64.ofNat (mn.toNat - 1)) 1
 else if qk = 3 then (numK 8 sq 8 ++ numK 1 (3:UInt64) 1) ++ ((tktT pv ep kd.toNat l ls bl) ++ tg)
 else if qk = 4 then (numK 8 sq 8 ++ numK 1 (4:UInt64) 1) ++ numK 8 eq 8
 else (numK 8 sq 8 ++ numK 1 (5:UInt64) 1) ++ numK 8 eq 8
theorem q0 {z : List UInt8} {s : Nat} (hs : s ≤ 8) (h : s ≤ z.length) : numK s (vQ z 0 s) s = z.take s := by
 have := FN (z0 := z) (p := 0) (s := s) hs (by omega)
 rwa [List.take_zero, List.nil_append, Nat.zero_add] at this
theorem q9 {z : List UInt8} {k : UInt64} (h : 9 ≤ z.length) (hk : vQ z 8 1 = k) : numK 8 (vQ z 0 8) 8 ++ numK 1 k 1 = z.take 9 := by
 rw [q0 (by omega) (by omega), ← hk]
 exact FN (by omega) h
theorem iN {x : UInt64} {k : Nat} (h : (x.toNat:Int) = (k:Int)) : x = UInt64.ofNat k := by
 have : x.toNat = k := by omega
 rw [← this, UInt64.ofNat_toNat]
theorem take_all {z : List UInt8} {n : Nat} (h : n = z.length) : z.take n = z := by subst h; exact List.take_length
theorem GRq.text {z : List UInt8} {sq : UInt64} {qk : Int} {lq : List UInt64} {fs : UInt64} {mn : Int} {pv ep : UInt64} {kd : Int} {l : List UInt64} {ls : List SealR} {bl : UInt64} {tg : List UInt8} {eq : UInt64} {niq : Nat}
    (hg : GRq z sq qk lq fs mn pv ep kd l ls bl tg eq) (hl : lq.length = niq) : reqT sq qk niq lq fs mn pv ep kd l ls bl tg eq = z := by
  obtain ⟨⟨rfl, rfl, h⟩, hr⟩ := hg
  rcases h with ⟨h3, rfl, rfl, rfl, rfl, t, hT, ht⟩ | ⟨h3, rfl, rfl, rfl, rfl, rfl, rfl, rfl, rfl, h⟩
  · have e : ((vQ z 8 1).toNat:Int) = 3 := by rw [h3]; rfl
    unfold reqT
    rw [e, if_neg (by decide), if_neg (by decide), if_pos rfl, q9 (by omega) h3, (hT.good (by rw [List.length_drop]; omega)).2, ← List.take_add, ← ht]
    exact List.take_length
  · rcases h with ⟨h1, rfl, rfl, rfl, ht⟩ | ⟨h1, rfl, rfl, rfl, ht⟩ | ⟨h1, h2, rfl, rfl, rfl, ht⟩
    · have e : ((vQ z 8 1).toNat:Int) = 1 := by rw [h1]; rfl
      obtain rfl : niq = mQ z := by rw [← hl, FH]
      unfold reqT
      rw [e, if_pos rfl, q9 (by omega) h1, FN (by omega) (by omega), show mQ z - 1 = (vQ z 17 1).toNat from by rw [mQ_eq]; omega, UInt64.ofNat_toNat, FN (by omega) (by omega)]
      have h9 := idxT_q (z0 := z) (p := 18) (m := mQ z) (by omega) (mQ z) (Nat.le_refl _)
      exact h9.trans (take_all (by omega))
    · have e : ((vQ z 8 1).toNat:Int) = 2 := by rw [h1]; rfl
      unfold reqT
      rw [e, if_neg (by decide), if_pos rfl, q9 (by omega) h1, FN (by omega) (by omega), FN (by omega) (by omega), show (((vQ z 21 1).toNat:Int) + 1).toNat - 1 = (vQ z 21 1).toNat from by omega, UInt64.ofNat_toNat, FN (by omega) (by omega)]
      exact take_all (by omega)
    · have h4 : vQ z 8 1 = 4 ∨ vQ z 8 1 = 5 := by
        obtain ⟨_, hk⟩ := reqR_blank hr (fun e => h3 (iN (k := 3) e))
        rcases hk with hk | hk | hk | hk
        · exact absurd (iN (k := 1) hk) h1
        · exact absurd (iN (k := 2) hk) h2
        · exact .inl (iN (k := 4) hk)
        · exact .inr (iN (k := 5) hk)
      unfold reqT
      rcases h4 with h4 | h4
      · have e : ((vQ z 8 1).toNat:Int) = 4 := by rw [h4]; rfl
        rw [e, if_neg (by decide), if_neg (by decide), if_neg (by decide), if_pos rfl, q9 (by omega) h4, FN (by omega) (by omega)]
        exact take_all (by omega)
      · have e : ((vQ z 8 1).toNat:Int) = 5 := by rw [h4]; rfl
        rw [e, if_neg (by decide), if_neg (by decide), if_neg (by decide), if_neg (by decide), q9 (by omega) h4, FN (by omega) (by omega)]
        exact take_all (by omega)
theorem lst_q {z : List UInt8} {p : Nat} (h : p + 2 + 32*hN z p ≤ z.length) : (z.take p ++ numK 2 (UInt64.ofNat (hN z p)) 2) ++ hQ z (p + 2) (hN z p) = z.take (p + 2 + 32*hN z p) := by
 rw [hN, UInt64.ofNat_toNat, FN (by omega) (by omega)]
 exact hQ_q _ h
theorem q10 {z : List UInt8} {k e : UInt64} (h : 10 ≤ z.length) (hk : vQ z 8 1 = k) (he : vQ z 9 1 = e) : (numK 8 (vQ z 0 8) 8 ++ numK 1 k 1) ++ numK 1 e 1 = z.take 10 := by
 rw [q9 (by omega) hk, ← he]
 exact FN (by omega) h
theorem P1_ge (z : List UInt8) : 10 ≤ P1 z := by
  unfold P1; split
  · have := qI_ge z 11 (nI z); omega
  · omega
theorem P2_ge (z : List UInt8) : P1 z ≤ P2 z := by unfold P2; split <;> omega
theorem P3_ge (z : List UInt8) : P2 z ≤ P3 z := by unfold P3; split <;> omega
theorem P4_ge (z : List UInt8) : P3 z ≤ P4 z := by unfold P4; split <;> omega
theorem P5_ge (z : List UInt8) : P4 z ≤ P5 z := by unfold P5; split <;> omega
theorem BadRp.short {z : List UInt8} (h : z.length < 10) : BadRp z := BadRp.far (fun e => by
 have h1 := P1_ge z
 have h2 := P2_ge z
 have h3 := P3_ge z
 have h4 := P4_ge z
 have h5 := P5_ge z
 omega)
theorem BadRq.nil : BadRq [] := BadRq.of (RqR.k0 (z := []) (by rw [vQ_neg (by decide)]; decide) (by rw [vQ_neg (by decide)]; decide) (by rw [vQ_neg (by decide)]; decide)) (fun e => absurd e (by decide))
theorem GRp.text {z : List UInt8} {rq : UInt64} {rk er : Int} {lj : List ItemR} {th : Bool} {pv ep : UInt64} {kd : Int} {l : List UInt64} {ls : List SealR} {bl : UInt64} {tg : List UInt8} {na : Nat} {xa : List UInt8} {nb : Nat} {xb : List UInt8} {nj : Nat}
    (hg : GRp z rq rk er lj th pv ep kd l ls bl tg na xa nb xb) (hl : lj.length = nj) : repT rq rk er nj lj th pv ep kd l ls bl tg na xa nb xb = z := by
  obtain ⟨⟨h5, rfl, rfl, rfl, rfl, rfl, hT, rfl, rfl, rfl, rfl⟩, hr⟩ := hg
  obtain ⟨c1, c2, c3, c4⟩ := repR_f rfl hr
  have g1 := P1_ge z
  have g2 := P2_ge z
  have g3 := P3_ge z
  have g4 := P4_ge z
  have g5 := P5_ge z
  have hz : 10 ≤ z.length := by omega
  unfold repT
  by_cases hE : erZ z = 0
  · have he9 : vQ z 9 1 = 0 := iN (k := 0) hE
    rw [if_neg (by rw [hE]; decide)]
    have fin : z.take (P5 z) = z := take_all h5
    have hlB : bZ z = true → (z.take (P4 z) ++ numK 2 (UInt64.ofNat (nbZ z)) 2) ++ xbZ z = z := fun hb => by
      rw [(B_t hb).1, (B_t hb).2, lst_q (by rw [← P5_t hb]; omega), ← P5_t hb]; exact fin
    have hlA : aZ z = true → (z.take (P3 z) ++ numK 2 (UInt64.ofNat (naZ z)) 2) ++ xaZ z = z.take (P4 z) := fun ha => by
      rw [(A_t ha).1, (A_t ha).2, lst_q (by rw [← P4_t ha]; omega), ← P4_t ha]
    have hlI : itZ z = true → (z.take 10 ++ numK 1 (UInt64.ofNat (nj - 1)) 1) ++ itmsT (ljZ z) = z.take (P1 z) := fun hi => by
      rw [ljZ_t hi, itQ_len] at hl
      subst hl
      rw [ljZ_t hi, show nI z - 1 = (vQ z 10 1).toNat from rfl, UInt64.ofNat_toNat, FN (by omega) (by have := P1_t hi; have := qI_ge z 11 (nI z); have : 1 ≤ nI z := Nat.succ_le_succ (Nat.zero_le _); omega), P1_t hi]
      exact itQ_q _ (by rw [← P1_t hi]; omega)
    obtain h | h | h | h | h : rkZ z = 1 ∨ rkZ z = 2 ∨ rkZ z = 3 ∨ rkZ z = 4 ∨ rkZ z = 5 := by omega
    · have it : itZ z = true := by unfold itZ; rw [hE, h]; decide
      have f4 := F4_it it
      have th0 := thZ_f f4
      have ch : chZ z = false := by unfold chZ; rw [hE, h, th0]; decide
      have ab : aZ z = false := by unfold aZ; rw [hE, h, th0]; decide
      have bb : bZ z = true := by unfold bZ; rw [hE, h, th0]; decide
      rw [h, if_pos rfl, q10 (k := 1) hz (iN (k := 1) h) he9, hlI it, ← P2_f f4, ← P3_f ch, ← P4_f ab]
      exact hlB bb
    · have it : itZ z = true := by unfold itZ; rw [hE, h]; decide
      have f4 := F4_it it
      have th0 := thZ_f f4
      have ch : chZ z = false := by unfold chZ; rw [hE, h, th0]; decide
      have ab : aZ z = true := by unfold aZ; rw [hE, h, th0]; decide
      have bb : bZ z = true := by unfold bZ; rw [hE, h, th0]; decide
      rw [h, if_neg (by decide), if_pos rfl, q10 (k := 2) hz (iN (k := 2) h) he9, hlI it, ← P2_f f4, ← P3_f ch, hlA ab]
      exact hlB bb
    · have it : itZ z = false := by unfold itZ; rw [hE, h]; decide
      have f4 : F4 z = false := F4_n4 (by rw [h]; decide)
      have th0 := thZ_f f4
      have ch : chZ z = false := by unfold chZ; rw [hE, h, th0]; decide
      have ab : aZ z = true := by unfold aZ; rw [hE, h, th0]; decide
      have bb : bZ z = true := by unfold bZ; rw [hE, h, th0]; decide
      rw [h, if_neg (by decide), if_neg (by decide), if_pos rfl, q10 (k := 3) hz (iN (k := 3) h) he9, ← P1_f it, ← P2_f f4, ← P3_f ch, hlA ab]
      exact hlB bb
    · have it : itZ z = false := by unfold itZ; rw [hE, h]; decide
      have f4 : F4 z = true := F4_t (by rw [hE]; decide) (by rw [h]; decide)
      have p1 := P1_f it
      have p2 := P2_t f4
      have th1 := thZ_t f4
      have hfN : P1 z + fN z (P1 z) ≤ z.length := by rw [← p2]; omega
      have hfl : z.take 10 ++ numK 1 (bitU (thZ z)) 1 = z.take (P2 z) := by
        rw [th1, p2, fN_one hfN, ← p1]; exact flag_q hfN
      rw [h, if_neg (by decide), if_neg (by decide), if_neg (by decide), if_pos rfl]
      cases ht : thZ z with
      | true =>
        have ch : chZ z = true := by unfold chZ; rw [hE, h, ht]; decide
        have ab : aZ z = true := by unfold aZ; rw [hE, h, ht]; decide
        have bb : bZ z = true := by unfold bZ; rw [hE, h, ht]; decide
        have hk : z.take (P2 z) ++ (tktT pv ep kd.toNat l ls bl ++ tg) = z.take (P3 z) := by
          rcases hT with ⟨_, hT⟩ | ⟨e, _⟩
          · rw [(hT.good (by rw [List.length_drop]; have := P3_t ch; omega)).2, ← List.take_add, P3_t ch]
          · rw [ch] at e; exact absurd e (by decide)
        rw [ht] at hfl
        rw [if_pos rfl, q10 (k := 4) hz (iN (k := 4) h) he9, hfl, hk, hlA ab]
        exact hlB bb
      | false =>
        have ch : chZ z = false := by unfold chZ; rw [hE, h, ht]; decide
        have ab : aZ z = false := by unfold aZ; rw [hE, h, ht]; decide
        have bb : bZ z = false := by unfold bZ; rw [hE, h, ht]; decide
        rw [ht] at hfl
        rw [if_neg (by decide), q10 (k := 4) hz (iN (k := 4) h) he9, hfl, ← P3_f ch, ← P4_f ab, ← P5_f bb]
        exact fin
    · have it : itZ z = false := by unfold itZ; rw [hE, h]; decide
      have f4 : F4 z = false := F4_n4 (by rw [h]; decide)
      have th0 := thZ_f f4
      have ch : chZ z = false := by unfold chZ; rw [hE, h, th0]; decide
      have ab : aZ z = false := by unfold aZ; rw [hE, h, th0]; decide
      have bb : bZ z = false := by unfold bZ; rw [hE, h, th0]; decide
      rw [h, if_neg (by decide), if_neg (by decide), if_neg (by decide), if_neg (by decide), q10 (k := 5) hz (iN (k := 5) h) he9, ← P1_f it, ← P2_f f4, ← P3_f ch, ← P4_f ab, ← P5_f bb]
      exact fin
  · have hd := decide_eq_false hE
    have it : itZ z = false := by unfold itZ itB; rw [hd]; rfl
    have f4 : F4 z = false := F4_n0 hd
    have ch : chZ z = false := chB_n0 hd
    have bb : bZ z = false := bB_ne hE
    have ab : aZ z = false := aB_ne hE
    rw [if_pos hE, show (rkZ z).toNat = (vQ z 8 1).toNat from Int.toNat_natCast _, show (erZ z).toNat = (vQ z 9 1).toNat from Int.toNat_natCast _, UInt64.ofNat_toNat, UInt64.ofNat_toNat, q10 hz rfl rfl]
    refine take_all ?_
    rw [← h5, P5_f bb, P4_f ab, P3_f ch, P2_f f4, P1_f it]
theorem GRq.right {z : List UInt8} {sq : UInt64} {qk : Int} {lq : List UInt64} {fs : UInt64} {mn : Int} {pv ep : UInt64} {kd : Int} {l : List UInt64} {ls : List SealR} {bl : UInt64} {tg : List UInt8} {eq : UInt64}
  (hg : GRq z sq qk lq fs mn pv ep kd l ls bl tg eq) : reqR qk lq fs mn eq (blankB pv ep kd l ls bl tg) (decide (mayN pv ep kd l ls bl = 0)) = true := hg.2
theorem GRp.right {z : List UInt8} {rq : UInt64} {rk er : Int} {lj : List ItemR} {th : Bool} {pv ep : UInt64} {kd : Int} {l : List UInt64} {ls : List SealR} {bl : UInt64} {tg : List UInt8} {na : Nat} {xa : List UInt8} {nb : Nat} {xb : List UInt8}
  (hg : GRp z rq rk er lj th pv ep kd l ls bl tg na xa nb xb) : repR rk er th lj (blankB pv ep kd l ls bl tg) (decide (mayN pv ep kd l ls bl = 0)) na nb = true := hg.2
end Go.Proofs.YtkdpdgpphpngeaaDoor
namespace Go.Proofs.YtkdpdgpphpngeaaDoor
open Go Go.Sx
open Go.Value renaming slice → SL
attribute [local irreducible] mid zr8 numK valK
theorem leftZ_c (rb e : Nat) (ao : Option Addr) (n c : Nat) (w : World) (hw : RdA w rb 0 [errV 50 e, SL ao n c]) (he : e = 0) : Calls Tryd.prog 61 #[Ptr rb 0] w (Post w [] (fun v L => v = I64 (n : Int) ∧ L = [])) := by
 refine enter w [] 18 [] [Ptr rb 0] Tryd.func61 rfl rfl (by simp) (BW (by simp) (by simp) (by simp)) ?_
 show JC _ _ _ [(0, Ptr rb 0)] _
 refine AH (AB (AA _ (AE rfl) rfl ?_))
 refine AI (AC (AH (AH (AB (AA _ (AF rfl) rfl ?_)))))
 refine AA (.bool false) (C7 _ _ _ rfl rfl (fun _ => E4 ..) fun _ => E6 Tryd.underlying110) rfl ?_
 refine AA _ (AF rfl) rfl ?_
 refine AP 2 5 false _ _ rfl rfl rfl (AF rfl) rfl ?_
 refine AP 2 5 false _ _ rfl rfl rfl (CL rfl) rfl ?_
 refine AP 2 5 false _ (Ptr rb 0) rfl rfl rfl (AD 0 147 1 DA rfl Tryd.sizeOf147 rfl rfl) rfl ?_
 refine AP 2 5 false _ (Ptr rb 0) rfl rfl rfl (AD 0 45 1 EI rfl Tryd.sizeOf45 rfl rfl) rfl ?_
 refine AP 2 5 false _ (errV 50 e) rfl rfl rfl (AO rfl (A0 Tryd.isAgg45 (DB (hw.mem (by simp)) (Seg.head) (by first | omega | (simp; done) | (simp; omega))))) rfl ?_
 refine AP 2 5 false _ (.bool (!(decide (e = 0)))) rfl rfl rfl (C7 _ _ _ rfl rfl (fun _ => B6 ..) fun _ => DJ BB _ _) rfl ?_
 refine AA _ (A3 _ rfl rfl rfl) rfl ?_
 refine AI (AC (BP _ rfl (by rw [show (decide (e = 0)) = true from (decide_eq_true he)] <;> rfl) ?_))
 refine BF (AC (AH (AB (AA _ (AF rfl) rfl ?_))))
 refine AA _ (CL rfl) rfl ?_
 refine AA (Ptr rb 1) (AD 1 43 1 DA rfl CB rfl rfl) rfl ?_
 refine AA (SL ao n c) (AO rfl (A0 DR (DB (hw.mem (by simp)) (AK (Seg.head)) (by first | omega | (simp; done) | (simp; omega))))) rfl ?_
 refine AA (I64 n) (DY BA rfl) rfl ?_
 refine AA _ (AE rfl) rfl ?_
 refine AI (AC (BI (BH (I64 n) (res1 Tryd.results61 (BC rfl)) fun w1 hw1 => ?_)))
 exact ⟨_, [], rfl, ⟨rfl, rfl⟩, hw1.sub (by simp) (by simp)⟩
theorem leftE_c (rb e : Nat) (sv : Value) (w : World) (hw : RdA w rb 0 [errV 50 e, sv]) (he : e ≠ 0) : Calls Tryd.prog 61 #[Ptr rb 0] w (Post w [] (fun v L => v = I64 0 ∧ L = [])) := by
 refine enter w [] 18 [] [Ptr rb 0] Tryd.func61 rfl rfl (by simp) (BW (by simp) (by simp) (by simp)) ?_
 show JC _ _ _ [(0, Ptr rb 0)] _
 refine AH (AB (AA _ (AE rfl) rfl ?_))
 refine AI (AC (AH (AH (AB (AA _ (AF rfl) rfl ?_)))))
 refine AA (.bool false) (C7 _ _ _ rfl rfl (fun _ => E4 ..) fun _ => E6 Tryd.underlying110) rfl ?_
 refine AA _ (AF rfl) rfl ?_
 refine AP 2 5 false _ _ rfl rfl rfl (AF rfl) rfl ?_
 refine AP 2 5 false _ _ rfl rfl rfl (CL rfl) rfl ?_
 refine AP 2 5 false _ (Ptr rb 0) rfl rfl rfl (AD 0 147 1 DA rfl Tryd.sizeOf147 rfl rfl) rfl ?_
 refine AP 2 5 false _ (Ptr rb 0) rfl rfl rfl (AD 0 45 1 EI rfl Tryd.sizeOf45 rfl rfl) rfl ?_
 refine AP 2 5 false _ (errV 50 e) rfl rfl rfl (AO rfl (A0 Tryd.isAgg45 (DB (hw.mem (by simp)) (Seg.head) (by first | omega | (simp; done) | (simp; omega))))) rfl ?_
 refine AP 2 5 false _ (.bool (!(decide (e = 0)))) rfl rfl rfl (C7 _ _ _ rfl rfl (fun _ => B6 ..) fun _ => DJ BB _ _) rfl ?_
 refine AA _ (A3 _ rfl rfl rfl) rfl ?_
 refine AI (AC (B3 _ rfl (by rw [show (decide (e = 0)) = false from (decide_eq_false he)] <;> rfl) ?_))
 refine AH (AB (AA _ (AE rfl) rfl ?_))
 refine AI (AC (BI (A1 (BH (I64 0) (res1 Tryd.results61 (BC rfl)) fun w1 hw1 => ?_))))
 exact ⟨_, [], rfl, ⟨rfl, rfl⟩, hw1.sub (by simp) (by simp)⟩
theorem left_w (rb e : Nat) (ao : Option Addr) (n c : Nat) (w : World) (hw : RdA w rb 0 [errV 50 e, SL ao n c]) : Calls Tryd.prog 61 #[Ptr rb 0] w (Post w [] (fun v L => v = I64 ((leftN e n : Nat) : Int) ∧ L = [])) := by
  by_cases he : e = 0
  · rw [leftN, if_pos he]; exact leftZ_c rb e ao n c w hw he
  · rw [leftN, if_neg he]; exact leftE_c rb e _ w hw he
theorem failRd_c (rb e k : Nat) (sv : Value) (w : World) (h0 : w.heap[rb]? = some (.cells [errV 50 e, sv].toArray 204 (0, 0)))  : Calls Tryd.prog 121 #[Ptr rb 0, errV 50 k] w (Post w [rb] (fun v L => v = .tuple #[] ∧ L = [⟨rb, [errV 50 (erN e k), sv], 204, (0, 0)⟩])) := by
 refine enter w [rb] 11 [⟨rb, [errV 50 e, sv], 204, (0, 0)⟩] [Ptr rb 0, errV 50 k] Tryd.func121 rfl rfl (by simp) (BW (by simpa using h0) (by simp) (by simp)) ?_
 show JC _ _ _ [(0, Ptr rb 0), (1, errV 50 k)] _
 refine AH (AB (AA _ (AF rfl) rfl ?_))
 refine AA (.bool true) (C7 _ _ _ rfl rfl (fun _ => E4 ..) fun _ => neq_ptr_nil Tryd.underlying110) rfl ?_
 refine AI (AC (B3 _ rfl rfl ?_))
 refine AB (AA _ (AF rfl) rfl ?_)
 refine AA _ (CL rfl) rfl ?_
 refine AA (Ptr rb 0) (AD 0 147 1 DA rfl Tryd.sizeOf147 rfl rfl) rfl ?_
 refine AA _ (AF rfl) rfl ?_
 refine A4 (DS 144 [Ptr rb 0, errV 50 k] 0 ⟨rb, [errV 50 e, sv], 204, (0, 0)⟩ _ (fun v e' l' => v = .tuple #[] ∧ e' = ⟨rb, [errV 50 (erN e k), sv], 204, (0, 0)⟩ ∧ l' = []) (AS _ Tryd.call144 rfl) rfl (by rintro v l ⟨rfl, rfl⟩; exact ⟨_, _, rfl, rfl, rfl, rfl, rfl⟩) (fun w1 hw1 => failR_c rb e k sv w1 (hw1.ent _ (List.mem_of_getElem? (i := 0) rfl)))) rfl ?_
 rintro v1 L1 ⟨_, _, ⟨rfl, rfl, rfl⟩, rfl⟩
 show JL _ _ _ _ ((10, .tuple #[]) :: _) [⟨rb, [errV 50 (erN e k), sv], 204, (0, 0)⟩]
 refine AI (JQ_end (.tuple #[]) (res0 Tryd.results121 ) fun w1 hw1 => ?_)
 exact ⟨_, _, rfl, ⟨rfl, rfl⟩, hw1⟩
theorem EL (rb e k : Nat) (sv : Value) (w : World) (hk : k ≠ 0) (h0 : w.heap[rb]? = some (.cells [errV 50 e, sv].toArray 204 (0, 0))) : Calls Tryd.prog 121 #[Ptr rb 0, .iface 50 (I64 (k : Int))] w (Post w [rb] (fun v L => v = .tuple #[] ∧ L = [⟨rb, [errV 50 (erN e k), sv], 204, (0, 0)⟩])) := by
 have h := failRd_c rb e k sv w h0
 rw [errV_pos hk] at h
 exact h
theorem rawRB0_c (rb e : Nat) (ao : Option Addr) (n c : Nat) (s : Int) (w : World) (h0 : w.heap[rb]? = some (.cells [errV 50 e, SL ao n c].toArray 204 (0, 0))) (he : e = 0) (hs : s < 0 ∨ (n:Int) < s) : Calls Tryd.prog 127 #[Ptr rb 0, I64 (s)] w (Post w [rb] (fun v L => v = SL none 0 0 ∧ L = [⟨rb, [errV 50 (erN e 2), SL ao n c], 204, (0, 0)⟩])) := by
 refine enter w [rb] 36 [⟨rb, [errV 50 e, SL ao n c], 204, (0, 0)⟩] [Ptr rb 0, I64 (s)] Tryd.func127 rfl rfl (by simp) (BW (by simpa using h0) (by simp) (by simp)) ?_
 show JC _ _ _ [(0, Ptr rb 0), (1, I64 (s))] _
 refine AH (AB (AA _ (AE rfl) rfl ?_))
 refine AI (AC (AH (AH (AB (AA _ (AF rfl) rfl ?_)))))
 refine AA (.bool (decide ((s) < (0:Int)))) (AR rfl rfl fun _ => CH _ _) rfl ?_
 refine AA _ (AF rfl) rfl ?_
 rcases Bool.eq_false_or_eq_true (decide ((s) < (0:Int))) with hb1 | hb1
 ·
  have hp1 : (s) < (0:Int) := of_decide_eq_true hb1
  refine AG 2 8 false _ rfl rfl hb1 rfl ?_
  refine AG 2 8 false _ rfl rfl hb1 rfl ?_
  refine AG 2 8 false _ rfl rfl hb1 rfl ?_
  refine AG 2 8 false _ rfl rfl hb1 rfl ?_
  refine AA _ (BD _ rfl hb1 rfl) rfl ?_
  refine AI (AC (B3 _ rfl rfl ?_))
  refine AH (AB (AA _ (AF rfl) rfl ?_))
  refine AA (.iface 50 (I64 2)) (C9 BM rfl rfl) rfl ?_
  refine A4 (DS 121 [Ptr rb 0, .iface 50 (I64 2)] 0 ⟨rb, [errV 50 e, SL ao n c], 204, (0, 0)⟩ _ (fun v e' l' => v = .tuple #[] ∧ e' = ⟨rb, [errV 50 (erN e 2), SL ao n c], 204, (0, 0)⟩ ∧ l' = []) (AS _ DX rfl) rfl (by rintro v l ⟨rfl, rfl⟩; exact ⟨_, _, rfl, rfl, rfl, rfl, rfl⟩) (fun w1 hw1 => EL rb e 2 (SL ao n c) w1 (by decide) (hw1.ent _ (List.mem_of_getElem? (i := 0) rfl)))) rfl ?_
  rintro v1 L1 ⟨_, _, ⟨rfl, rfl, rfl⟩, rfl⟩
  show JL _ _ _ _ ((16, .tuple #[]) :: _) [⟨rb, [errV 50 (erN e 2), SL ao n c], 204, (0, 0)⟩]
  refine AI (AC (AH (AB (AA _ (AE rfl) rfl ?_))))
  refine AI (AC (BI (A1 (BH (SL none 0 0) (res1 Tryd.results127 (BC rfl)) fun w1 hw1 => ?_))))
  exact ⟨_, _, rfl, ⟨rfl, rfl⟩, hw1⟩
 ·
  have hp1 : ¬ ((s) < (0:Int)) := of_decide_eq_false hb1
  refine AP 2 8 false _ _ rfl rfl hb1 (AF rfl) rfl ?_
  refine AP 2 8 false _ _ rfl rfl hb1 (AF rfl) rfl ?_
  refine DL 2 8 false _ rfl rfl hb1 (A2 61 [Ptr rb 0] (I64 n) (AS _ DV rfl) (fun w1 hw1 => leftZ_c rb e ao n c w1 (RdA.of hw1 (AU 0 rfl (AQ _)) (by simp)) he)) rfl ?_
  rintro v1 L1 ⟨rfl, rfl⟩
  show JL _ _ _ _ ((11, I64 n) :: _) [_]
  refine AP 2 8 false _ (.bool (decide (((n:Int)) < (s)))) rfl rfl hb1 (AR rfl rfl fun _ => DD _ _) rfl ?_
  refine AA _ (A3 _ rfl hb1 rfl) rfl ?_
  refine AI (AC (B3 _ rfl (decide_eq_true (by omega)) ?_))
  refine AH (AB (AA _ (AF rfl) rfl ?_))
  refine AA (.iface 50 (I64 2)) (C9 BM rfl rfl) rfl ?_
  refine A4 (DS 121 [Ptr rb 0, .iface 50 (I64 2)] 0 ⟨rb, [errV 50 e, SL ao n c], 204, (0, 0)⟩ _ (fun v e' l' => v = .tuple #[] ∧ e' = ⟨rb, [errV 50 (erN e 2), SL ao n c], 204, (0, 0)⟩ ∧ l' = []) (AS _ DX rfl) rfl (by rintro v l ⟨rfl, rfl⟩; exact ⟨_, _, rfl, rfl, rfl, rfl, rfl⟩) (fun w1 hw1 => EL rb e 2 (SL ao n c) w1 (by decide) (hw1.ent _ (List.mem_of_getElem? (i := 0) rfl)))) rfl ?_
  rintro v1 L1 ⟨_, _, ⟨rfl, rfl, rfl⟩, rfl⟩
  show JL _ _ _ _ ((16, .tuple #[]) :: _) [⟨rb, [errV 50 (erN e 2), SL ao n c], 204, (0, 0)⟩]
  refine AI (AC (AH (AB (AA _ (AE rfl) rfl ?_))))
  refine AI (AC (BI (A1 (BH (SL none 0 0) (res1 Tryd.results127 (BC rfl)) fun w1 hw1 => ?_))))
  exact ⟨_, _, rfl, ⟨rfl, rfl⟩, hw1⟩
theorem rawRB1_c (rb e : Nat) (sv : Value) (s : Int) (w : World) (h0 : w.heap[rb]? = some (.cells [errV 50 e, sv].toArray 204 (0, 0))) (he : e ≠ 0) (hs : s ≠ 0) : Calls Tryd.prog 127 #[Ptr rb 0, I64 (s)] w (Post w [rb] (fun v L => v = SL none 0 0 ∧ L = [⟨rb, [errV 50 (erN e 2), sv], 204, (0, 0)⟩])) := by
 refine enter w [rb] 36 [⟨rb, [errV 50 e, sv], 204, (0, 0)⟩] [Ptr rb 0, I64 (s)] Tryd.func127 rfl rfl (by simp) (BW (by simpa using h0) (by simp) (by simp)) ?_
 show JC _ _ _ [(0, Ptr rb 0), (1, I64 (s))] _
 refine AH (AB (AA _ (AE rfl) rfl ?_))
 refine AI (AC (AH (AH (AB (AA _ (AF rfl) rfl ?_)))))
 refine AA (.bool (decide ((s) < (0:Int)))) (AR rfl rfl fun _ => CH _ _) rfl ?_
 refine AA _ (AF rfl) rfl ?_
 rcases Bool.eq_false_or_eq_true (decide ((s) < (0:Int))) with hb1 | hb1
 ·
  have hp1 : (s) < (0:Int) := of_decide_eq_true hb1
  refine AG 2 8 false _ rfl rfl hb1 rfl ?_
  refine AG 2 8 false _ rfl rfl hb1 rfl ?_
  refine AG 2 8 false _ rfl rfl hb1 rfl ?_
  refine AG 2 8 false _ rfl rfl hb1 rfl ?_
  refine AA _ (BD _ rfl hb1 rfl) rfl ?_
  refine AI (AC (B3 _ rfl rfl ?_))
  refine AH (AB (AA _ (AF rfl) rfl ?_))
  refine AA (.iface 50 (I64 2)) (C9 BM rfl rfl) rfl ?_
  refine A4 (DS 121 [Ptr rb 0, .iface 50 (I64 2)] 0 ⟨rb, [errV 50 e, sv], 204, (0, 0)⟩ _ (fun v e' l' => v = .tuple #[] ∧ e' = ⟨rb, [errV 50 (erN e 2), sv], 204, (0, 0)⟩ ∧ l' = []) (AS _ DX rfl) rfl (by rintro v l ⟨rfl, rfl⟩; exact ⟨_, _, rfl, rfl, rfl, rfl, rfl⟩) (fun w1 hw1 => EL rb e 2 sv w1 (by decide) (hw1.ent _ (List.mem_of_getElem? (i := 0) rfl)))) rfl ?_
  rintro v1 L1 ⟨_, _, ⟨rfl, rfl, rfl⟩, rfl⟩
  show JL _ _ _ _ ((16, .tuple #[]) :: _) [⟨rb, [errV 50 (erN e 2), sv], 204, (0, 0)⟩]
  refine AI (AC (AH (AB (AA _ (AE rfl) rfl ?_))))
  refine AI (AC (BI (A1 (BH (SL none 0 0) (res1 Tryd.results127 (BC rfl)) fun w1 hw1 => ?_))))
  exact ⟨_, _, rfl, ⟨rfl, rfl⟩, hw1⟩
 ·
  have hp1 : ¬ ((s) < (0:Int)) := of_decide_eq_false hb1
  refine AP 2 8 false _ _ rfl rfl hb1 (AF rfl) rfl ?_
  refine AP 2 8 false _ _ rfl rfl hb1 (AF rfl) rfl ?_
  refine DL 2 8 false _ rfl rfl hb1 (A2 61 [Ptr rb 0] (I64 0) (AS _ DV rfl) (fun w1 hw1 => leftE_c rb e sv w1 (RdA.of hw1 (AU 0 rfl (AQ _)) (by simp)) he)) rfl ?_
  rintro v1 L1 ⟨rfl, rfl⟩
  show JL _ _ _ _ ((11, I64 0) :: _) [_]
  refine AP 2 8 false _ (.bool (decide ((0:Int) < (s)))) rfl rfl hb1 (AR rfl rfl fun _ => DD _ _) rfl ?_
  refine AA _ (A3 _ rfl hb1 rfl) rfl ?_
  refine AI (AC (B3 _ rfl (decide_eq_true (by omega)) ?_))
  refine AH (AB (AA _ (AF rfl) rfl ?_))
  refine AA (.iface 50 (I64 2)) (C9 BM rfl rfl) rfl ?_
  refine A4 (DS 121 [Ptr rb 0, .iface 50 (I64 2)] 0 ⟨rb, [errV 50 e, sv], 204, (0, 0)⟩ _ (fun v e' l' => v = .tuple #[] ∧ e' = ⟨rb, [errV 50 (erN e 2), sv], 204, (0, 0)⟩ ∧ l' = []) (AS _ DX rfl) rfl (by rintro v l ⟨rfl, rfl⟩; exact ⟨_, _, rfl, rfl, rfl, rfl, rfl⟩) (fun w1 hw1 => EL rb e 2 sv w1 (by decide) (hw1.ent _ (List.mem_of_getElem? (i := 0) rfl)))) rfl ?_
  rintro v1 L1 ⟨_, _, ⟨rfl, rfl, rfl⟩, rfl⟩
  show JL _ _ _ _ ((16, .tuple #[]) :: _) [⟨rb, [errV 50 (erN e 2), sv], 204, (0, 0)⟩]
  refine AI (AC (AH (AB (AA _ (AE rfl) rfl ?_))))
  refine AI (AC (BI (A1 (BH (SL none 0 0) (res1 Tryd.results127 (BC rfl)) fun w1 hw1 => ?_))))
  exact ⟨_, _, rfl, ⟨rfl, rfl⟩, hw1⟩
theorem rawROk_c (rb e : Nat) (ao : Option Addr) (n c : Nat) (z : List UInt8) (s n2 c2 : Nat) (w : World) (h0 : w.heap[rb]? = some (.cells [errV 50 e, SL ao n c].toArray 204 (0, 0))) (hz : z.length = n) (hn : n ≤ 2000000000) (hc : n ≤ c) (hcm : c ≤ maxLen) (hr : RdB w [rb] ao z) (he : e = 0) (h1 : 0 < s) (h2 : s ≤ n) (ht1 : s + n2 = n) (ht2 : s + c2 = c) : Calls Tryd.prog 127 #[Ptr rb 0, I64 s] w (Post w [rb] (fun v L => ∃ g sp cap, v = Slc g 0 s cap ∧ L = [⟨rb, [errV 50 e, SL (advA ao c s) n2 c2], 204, (0, 0)⟩, ⟨g, cu8 (mid z 0 s) ++ sp, 5, (0, 0)⟩] ∧ sp.length = cap - s ∧ s ≤ cap ∧ cap ≤ maxLen)) := by
 have hsome : ao.isNone = false := by
  obtain ⟨_, _, ha, _⟩ := hr.pos (by omega)
  rw [ha]; rfl
 refine enter w [rb] 36 [⟨rb, [errV 50 e, SL ao n c], 204, (0, 0)⟩] [Ptr rb 0, I64 s] Tryd.func127 rfl rfl (by simp) (BW (by simpa using h0) (by simp) (by simp)) ?_
 show JC _ _ _ [(0, Ptr rb 0), (1, I64 s)] _
 refine AH (AB (AA _ (AE rfl) rfl ?_))
 refine AI (AC (AH (AH (AB (AA _ (AF rfl) rfl ?_)))))
 refine AA (.bool (decide (((s:Int)) < (0:Int)))) (AR rfl rfl fun _ => CH _ _) rfl ?_
 refine AA _ (AF rfl) rfl ?_
 refine AP 2 8 false _ _ rfl rfl (decide_eq_false (by omega)) (AF rfl) rfl ?_
 refine AP 2 8 false _ _ rfl rfl (decide_eq_false (by omega)) (AF rfl) rfl ?_
 refine DL 2 8 false _ rfl rfl (decide_eq_false (by omega)) (A2 61 [Ptr rb 0] (I64 n) (AS _ DV rfl) (fun w1 hw1 => leftZ_c rb e ao n c w1 (RdA.of hw1 (AU 0 rfl (AQ _)) (by simp)) he)) rfl ?_
 rintro v1 L1 ⟨rfl, rfl⟩
 show JL _ _ _ _ ((11, I64 n) :: _) [_]
 refine AP 2 8 false _ (.bool (decide (((n:Int)) < ((s:Int))))) rfl rfl (decide_eq_false (by omega)) (AR rfl rfl fun _ => DD _ _) rfl ?_
 refine AA _ (A3 _ rfl (decide_eq_false (by omega)) rfl) rfl ?_
 refine AI (AC (BP _ rfl (decide_eq_false (by omega)) ?_))
 refine BF (AC (AH (AH (AB (AA _ (AF rfl) rfl ?_)))))
 refine AA (.bool (decide (((s:Int)) = (0:Int)))) (AR rfl rfl fun _ => BK _ _) rfl ?_
 refine AI (AC (BP _ rfl (decide_eq_false (by omega)) ?_))
 refine BF (AC (AH (AB (AA _ (AF rfl) rfl ?_))))
 refine AA _ (CL rfl) rfl ?_
 refine AA (Ptr rb 1) (AD 1 43 1 DA rfl CB rfl rfl) rfl ?_
 refine AA (SL ao n c) (AO rfl (A0 DR (AU 0 rfl (AK (Seg.head))))) rfl ?_
 refine AA _ (AF rfl) rfl ?_
 have hl1 : (mid z 0 s).length = s := mid_len (by rw [hz]; omega)
 have hr1 := RdB.pre hr s
 refine AA (SL ao s c) (Ev_sliceHi 5 1 s BA BZ rfl rfl (by omega)) rfl ?_
 refine A4 (CZ 108 [SL ao s c] _ (AS _ Tryd.call108 rfl) (fun w1 hw1 => sclone_c ao s c (mid z 0 s) w1 hsome hl1 (by omega) (hr1.at (M' := []) hw1 (by simp)))) rfl ?_
 rintro v1 L1 ⟨_, ⟨nb1, sp1, cp1, rfl, rfl, hc1, hc2, hc3⟩, rfl⟩
 show JL _ _ _ _ ((25, Slc nb1 0 s cp1) :: _) [_, ⟨nb1, cu8 (mid z 0 s) ++ sp1, 5, (0, 0)⟩]
 refine AA _ (AE rfl) rfl ?_
 refine AI (AC (AH (AB (AA _ (AF rfl) rfl ?_))))
 refine AA _ (AF rfl) rfl ?_
 refine AA _ (CL rfl) rfl ?_
 refine AA (Ptr rb 1) (AD 1 43 1 DA rfl CB rfl rfl) rfl ?_
 refine AA (SL ao n c) (AO rfl (A0 DR (AU 0 rfl (AK (Seg.head))))) rfl ?_
 refine AA _ (AF rfl) rfl ?_
 have hl2 : (z.drop s).length = (n - s) := by rw [List.length_drop, hz] <;> omega
 have hr2 := RdB.adv (c := c) hr s (by rw [hz]; omega) (by rw [hz]; omega)
 refine AA (SL (advA ao c s) (n - s) (c - s)) (Ev_sliceLo 5 s (n - s) (c - s) BA BZ rfl rfl (by omega) (by omega) (by omega) (by omega)) rfl ?_
 refine AA _ (CL rfl) rfl ?_
 refine AA (Ptr rb 1) (AD 1 43 1 DA rfl CB rfl rfl) rfl ?_
 refine A7 (CS 0 rb 1 1 ([errV 50 e, SL ao n c]) 204 (SL (advA ao c s) (n - s) (c - s)) ([SL (advA ao c s) (n - s) (c - s)]) ([errV 50 e, SL (advA ao c s) (n - s) (c - s)]) rfl rfl rfl rfl CB rfl (by simp [Value.oneCell']) (Nat.le_of_ble_eq_true rfl) (rfl)) rfl ?_
 show JL _ _ _ _ _ [⟨rb, [errV 50 e, SL (advA ao c s) (n - s) (c - s)], 204, (0, 0)⟩, _]
 refine AI (AC (AH (AB (AA _ (AF rfl) rfl ?_))))
 refine AA _ (AE rfl) rfl ?_
 refine AI (AC (BI (BH (Slc nb1 0 s cp1) (res1 Tryd.results127 (BC rfl)) fun w1 hw1 => ?_)))
 obtain rfl : n2 = (n - s) := by omega
 obtain rfl : c2 = (c - s) := by omega
 exact ⟨_, _, rfl, ⟨nb1, sp1, cp1, rfl, rfl, hc1, hc2, hc3⟩, hw1⟩
theorem numRF_c (rb e : Nat) (sv : Value) (s : Int) (w : World) (h0 : w.heap[rb]? = some (.cells [errV 50 e, sv].toArray 204 (0, 0))) (hs : ¬ Szd s) : Calls Tryd.prog 109 #[Ptr rb 0, I64 (s)] w (Post w [rb] (fun v L => v = U64 0 ∧ L = [⟨rb, [errV 50 (erN e 2), sv], 204, (0, 0)⟩])) := by
 refine enter w [rb] 29 [⟨rb, [errV 50 e, sv], 204, (0, 0)⟩] [Ptr rb 0, I64 (s)] Tryd.func109 rfl rfl (by simp) (BW (by simpa using h0) (by simp) (by simp)) ?_
 show JC _ _ _ [(0, Ptr rb 0), (1, I64 (s))] _
 refine AH (AB (AA _ (AE rfl) rfl ?_))
 refine AI (AC (AH (AH (AB (AA _ (AF rfl) rfl ?_)))))
 refine A7 (A2 143 [I64 (s)] (.bool false) (AS _ Tryd.call143 rfl) (fun w1 _ => sizedF_c (s) w1 hs)) rfl ?_
 show JL _ _ _ _ ((9, .bool false) :: _) [_]
 refine AA (.bool (!false)) (DG rfl) rfl ?_
 refine AI (AC (B3 _ rfl rfl ?_))
 refine AH (AB (AA _ (AF rfl) rfl ?_))
 refine AA (.iface 50 (I64 2)) (C9 BM rfl rfl) rfl ?_
 refine A4 (DS 121 [Ptr rb 0, .iface 50 (I64 2)] 0 ⟨rb, [errV 50 e, sv], 204, (0, 0)⟩ _ (fun v e' l' => v = .tuple #[] ∧ e' = ⟨rb, [errV 50 (erN e 2), sv], 204, (0, 0)⟩ ∧ l' = []) (AS _ DX rfl) rfl (by rintro v l ⟨rfl, rfl⟩; exact ⟨_, _, rfl, rfl, rfl, rfl, rfl⟩) (fun w1 hw1 => EL rb e 2 sv w1 (by decide) (hw1.ent _ (List.mem_of_getElem? (i := 0) rfl)))) rfl ?_
 rintro v1 L1 ⟨_, _, ⟨rfl, rfl, rfl⟩, rfl⟩
 show JL _ _ _ _ ((13, .tuple #[]) :: _) [⟨rb, [errV 50 (erN e 2), sv], 204, (0, 0)⟩]
 refine AI (AC (AH (AB (AA _ (AE rfl) rfl ?_))))
 refine AI (AC (BI (A1 (BH (U64 0) (res1 Tryd.results109 (BC rfl)) fun w1 hw1 => ?_))))
 exact ⟨_, _, rfl, ⟨rfl, rfl⟩, hw1⟩
theorem numRS_c (rb e : Nat) (ao : Option Addr) (n c : Nat) (s : Int) (w : World) (h0 : w.heap[rb]? = some (.cells [errV 50 e, SL ao n c].toArray 204 (0, 0))) (he : e = 0) (hs : Szd s) (hn : (n:Int) < s) : Calls Tryd.prog 109 #[Ptr rb 0, I64 (s)] w (Post w [rb] (fun v L => v = U64 0 ∧ L = [⟨rb, [errV 50 (erN e 2), SL ao n c], 204, (0, 0)⟩])) := by
 refine enter w [rb] 29 [⟨rb, [errV 50 e, SL ao n c], 204, (0, 0)⟩] [Ptr rb 0, I64 (s)] Tryd.func109 rfl rfl (by simp) (BW (by simpa using h0) (by simp) (by simp)) ?_
 show JC _ _ _ [(0, Ptr rb 0), (1, I64 (s))] _
 refine AH (AB (AA _ (AE rfl) rfl ?_))
 refine AI (AC (AH (AH (AB (AA _ (AF rfl) rfl ?_)))))
 refine A7 (A2 143 [I64 (s)] (.bool true) (AS _ Tryd.call143 rfl) (fun w1 _ => sizedT_c (s) w1 hs)) rfl ?_
 show JL _ _ _ _ ((9, .bool true) :: _) [_]
 refine AA (.bool (!true)) (DG rfl) rfl ?_
 refine AI (AC (BP _ rfl rfl ?_))
 refine BF (AC (AH (AB (AA _ (AE rfl) rfl ?_))))
 refine AI (AC (AH (AH (AB (AA _ (AF rfl) rfl ?_)))))
 refine AA _ (AF rfl) rfl ?_
 refine A4 (DS 127 [Ptr rb 0, I64 (s)] 0 ⟨rb, [errV 50 e, SL ao n c], 204, (0, 0)⟩ _ (fun v e' l' => v = SL none 0 0 ∧ e' = ⟨rb, [errV 50 (erN e 2), SL ao n c], 204, (0, 0)⟩ ∧ l' = []) (AS _ Tryd.call127 rfl) rfl (by rintro v l ⟨rfl, rfl⟩; exact ⟨_, _, rfl, rfl, rfl, rfl, rfl⟩) (fun w1 hw1 => rawRB0_c rb e ao n c (s) w1 (hw1.ent _ (List.mem_of_getElem? (i := 0) rfl)) he (.inr hn))) rfl ?_
 rintro v1 L1 ⟨_, _, ⟨rfl, rfl, rfl⟩, rfl⟩
 show JL _ _ _ _ ((16, SL none 0 0) :: _) [⟨rb, [errV 50 (erN e 2), SL ao n c], 204, (0, 0)⟩]
 refine AA (I64 0) (DY BA rfl) rfl ?_
 refine AA _ (AF rfl) rfl ?_
 refine AI (AC (B5 (EM (ι := Unit) (fun _ => [(4, U64 0), (16, SL none 0 0), (17, I64 0), (18, I64 0), (5, U64 0)]) (fun _ => [⟨rb, [errV 50 (erN e 2), SL ao n c], 204, (0, 0)⟩]) (fun _ => True) (fun _ => 1) () trivial (Sub.all rfl) rfl ?_)))
 rintro _ _
 show JC _ _ _ [(4, U64 0), (16, SL none 0 0), (17, I64 0), (18, I64 0), (5, U64 0)] [⟨rb, [errV 50 (erN e 2), SL ao n c], 204, (0, 0)⟩]
 refine AH (AB (AA (.bool (decide ((0:Int) < (0:Int)))) (AR rfl rfl fun _ => CH _ _) rfl ?_))
 refine AI (AC (AH (BP _ rfl (by decide) ?_)))
 refine ED (BJ (BJ (C1 (AC (AH (AB (AA _ (AF rfl) rfl ?_)))))))
 refine AA _ (AE rfl) rfl ?_
 refine AI (AC (BI (BH (U64 0) (res1 Tryd.results109 (BC rfl)) fun w1 hw1 => ?_)))
 exact ⟨_, _, rfl, ⟨rfl, rfl⟩, hw1⟩
theorem numRE_c (rb e : Nat) (sv : Value) (s : Int) (w : World) (h0 : w.heap[rb]? = some (.cells [errV 50 e, sv].toArray 204 (0, 0))) (he : e ≠ 0) (hs : Szd s) : Calls Tryd.prog 109 #[Ptr rb 0, I64 (s)] w (Post w [rb] (fun v L => v = U64 0 ∧ L = [⟨rb, [errV 50 (erN e 2), sv], 204, (0, 0)⟩])) := by
 refine enter w [rb] 29 [⟨rb, [errV 50 e, sv], 204, (0, 0)⟩] [Ptr rb 0, I64 (s)] Tryd.func109 rfl rfl (by simp) (BW (by simpa using h0) (by simp) (by simp)) ?_
 show JC _ _ _ [(0, Ptr rb 0), (1, I64 (s))] _
 refine AH (AB (AA _ (AE rfl) rfl ?_))
 refine AI (AC (AH (AH (AB (AA _ (AF rfl) rfl ?_)))))
 refine A7 (A2 143 [I64 (s)] (.bool true) (AS _ Tryd.call143 rfl) (fun w1 _ => sizedT_c (s) w1 hs)) rfl ?_
 show JL _ _ _ _ ((9, .bool true) :: _) [_]
 refine AA (.bool (!true)) (DG rfl) rfl ?_
 refine AI (AC (BP _ rfl rfl ?_))
 refine BF (AC (AH (AB (AA _ (AE rfl) rfl ?_))))
 refine AI (AC (AH (AH (AB (AA _ (AF rfl) rfl ?_)))))
 refine AA _ (AF rfl) rfl ?_
 refine A4 (DS 127 [Ptr rb 0, I64 (s)] 0 ⟨rb, [errV 50 e, sv], 204, (0, 0)⟩ _ (fun v e' l' => v = SL none 0 0 ∧ e' = ⟨rb, [errV 50 (erN e 2), sv], 204, (0, 0)⟩ ∧ l' = []) (AS _ Tryd.call127 rfl) rfl (by rintro v l ⟨rfl, rfl⟩; exact ⟨_, _, rfl, rfl, rfl, rfl, rfl⟩) (fun w1 hw1 => rawRB1_c rb e sv (s) w1 (hw1.ent _ (List.mem_of_getElem? (i := 0) rfl)) he (by unfold Szd at hs; omega))) rfl ?_
 rintro v1 L1 ⟨_, _, ⟨rfl, rfl, rfl⟩, rfl⟩
 show JL _ _ _ _ ((16, SL none 0 0) :: _) [⟨rb, [errV 50 (erN e 2), sv], 204, (0, 0)⟩]
 refine AA (I64 0) (DY BA rfl) rfl ?_
 refine AA _ (AF rfl) rfl ?_
 refine AI (AC (B5 (EM (ι := Unit) (fun _ => [(4, U64 0), (16, SL none 0 0), (17, I64 0), (18, I64 0), (5, U64 0)]) (fun _ => [⟨rb, [errV 50 (erN e 2), sv], 204, (0, 0)⟩]) (fun _ => True) (fun _ => 1) () trivial (Sub.all rfl) rfl ?_)))
 rintro _ _
 show JC _ _ _ [(4, U64 0), (16, SL none 0 0), (17, I64 0), (18, I64 0), (5, U64 0)] [⟨rb, [errV 50 (erN e 2), sv], 204, (0, 0)⟩]
 refine AH (AB (AA (.bool (decide ((0:Int) < (0:Int)))) (AR rfl rfl fun _ => CH _ _) rfl ?_))
 refine AI (AC (AH (BP _ rfl (by decide) ?_)))
 refine ED (BJ (BJ (C1 (AC (AH (AB (AA _ (AF rfl) rfl ?_)))))))
 refine AA _ (AE rfl) rfl ?_
 refine AI (AC (BI (BH (U64 0) (res1 Tryd.results109 (BC rfl)) fun w1 hw1 => ?_)))
 exact ⟨_, _, rfl, ⟨rfl, rfl⟩, hw1⟩
theorem numROk_c (rb e : Nat) (ao : Option Addr) (n c : Nat) (z : List UInt8) (k n2 c2 : Nat) (w : World) (h0 : w.heap[rb]? = some (.cells [errV 50 e, SL ao n c].toArray 204 (0, 0))) (hz : z.length = n) (hn : n ≤ 2000000000) (hc : n ≤ c) (hcm : c ≤ maxLen) (hr : RdB w [rb] ao z) (he : e = 0) (hs : Szd (k:Int)) (h2 : k ≤ n) (ht1 : k + n2 = n) (ht2 : k + c2 = c) : Calls Tryd.prog 109 #[Ptr rb 0, I64 k] w (Post w [rb] (fun v L => v = U64 (valK z k) ∧ L = [⟨rb, [errV 50 e, SL (advA ao c k) n2 c2], 204, (0, 0)⟩])) := by
 have hs4 : k = 1 ∨ k = 2 ∨ k = 4 ∨ k = 8 := by have := hs; unfold Szd at this; omega
 refine enter w [rb] 29 [⟨rb, [errV 50 e, SL ao n c], 204, (0, 0)⟩] [Ptr rb 0, I64 k] Tryd.func109 rfl rfl (by simp) (BW (by simpa using h0) (by simp) (by simp)) ?_
 show JC _ _ _ [(0, Ptr rb 0), (1, I64 k)] _
 refine AH (AB (AA _ (AE rfl) rfl ?_))
 refine AI (AC (AH (AH (AB (AA _ (AF rfl) rfl ?_)))))
 refine A7 (A2 143 [I64 k] (.bool true) (AS _ Tryd.call143 rfl) (fun w1 _ => sizedT_c ((k:Int)) w1 hs)) rfl ?_
 show JL _ _ _ _ ((9, .bool true) :: _) [_]
 refine AA (.bool (!true)) (DG rfl) rfl ?_
 refine AI (AC (BP _ rfl rfl ?_))
 refine BF (AC (AH (AB (AA _ (AE rfl) rfl ?_))))
 refine AI (AC (AH (AH (AB (AA _ (AF rfl) rfl ?_)))))
 refine AA _ (AF rfl) rfl ?_
 have hl1 : (z.drop k).length = (n - k) := by rw [List.length_drop, hz] <;> omega
 have hr1 := RdB.adv (c := c) hr k (by rw [hz]; omega) (by rw [hz]; omega)
 have hl2 : (mid z 0 k).length = k := mid_len (by rw [hz]; omega)
 refine A4 (A8 127 _ [true] [rb] _ (AS _ Tryd.call127 rfl) rfl (fun w1 hw1 => rawROk_c rb e ao n c z k (n - k) (c - k) w1 (hw1.ent _ (List.mem_of_getElem? (i := 0) rfl)) hz (by omega) (by omega) (by omega) (hr.at (M' := [rb]) hw1 (hw1.apart [0] _ rfl)) he (by unfold Szd at hs; omega) h2 (by omega) (by omega))) rfl ?_
 rintro v1 L1 ⟨_, ⟨nb1, sp1, cp1, rfl, rfl, hc1, hc2, hc3⟩, rfl⟩
 show JL _ _ _ _ ((16, Slc nb1 0 k cp1) :: _) [⟨rb, [errV 50 e, SL (advA ao c k) (n - k) (c - k)], 204, (0, 0)⟩, ⟨nb1, cu8 (mid z 0 k) ++ sp1, 5, (0, 0)⟩]
 refine AA (I64 k) (DY BA rfl) rfl ?_
 refine AA _ (AF rfl) rfl ?_
 refine AI (AC (B5 (EM (ι := Nat × UInt64) (fun ⟨j, y⟩ => [(4, U64 0), (16, Slc nb1 0 k cp1), (17, I64 k), (18, I64 j), (5, U64 y)]) (fun ⟨j, y⟩ => [⟨rb, [errV 50 e, SL (advA ao c k) (n - k) (c - k)], 204, (0, 0)⟩, ⟨nb1, cu8 (mid z 0 k) ++ sp1, 5, (0, 0)⟩]) (fun ⟨j, y⟩ => j ≤ k ∧ y = valK (mid z 0 k) j) (fun ⟨j, y⟩ => k - j) (0, 0) ⟨by omega, by rw [valK]⟩ (Sub.all rfl) rfl ?_)))
 rintro ⟨j, y⟩ ⟨hx1, hx2⟩
 show JC _ _ _ [(4, U64 0), (16, Slc nb1 0 k cp1), (17, I64 k), (18, I64 j), (5, U64 y)] [⟨rb, [errV 50 e, SL (advA ao c k) (n - k) (c - k)], 204, (0, 0)⟩, ⟨nb1, cu8 (mid z 0 k) ++ sp1, 5, (0, 0)⟩]
 refine AH (AB (AA (.bool (decide (((j:Int)) < ((k:Int))))) (AR rfl rfl fun _ => CH _ _) rfl ?_))
 refine AI (AC (AH (B9 (decide (((j:Int)) < ((k:Int)))) rfl (fun hb1 => ?_) (fun hb1 => ?_))))
 ·
  have hp1 : ((j:Int)) < ((k:Int)) := of_decide_eq_true hb1
  refine BF (AC (AH (B5 (AH (AB (AA (Ptr nb1 j) (FC 5 1 j BA BZ rfl rfl (by omega) (by omega) (by omega)) rfl ?_))))))
  refine AA (U8 (g8 (mid z 0 k) j)) (AO rfl (A0 Tryd.isAgg5 (AU 1 rfl (AJ (Seg.get (g8_get (i := j) (by rw [hl2]; omega))))))) rfl ?_
  refine AA _ (AE rfl) rfl ?_
  refine AI (AC (AB (AA _ (AF rfl) rfl ?_)))
  refine AA (U64 (y <<< (8:UInt64))) (AR rfl rfl fun _ => bin_shl_u64 y _ _ 8 (by decide) rfl) rfl ?_
  refine AA _ (AF rfl) rfl ?_
  refine AA (U64 ((g8 (mid z 0 k) j).toUInt64)) (CM _ _ rfl fun _ => conv_u8_u64 (by rw [DI]; rfl) AW _) rfl ?_
  refine AA (U64 ((y <<< (8:UInt64)) ||| ((g8 (mid z 0 k) j).toUInt64))) (AR rfl rfl fun _ => bin_or_u64 (y <<< (8:UInt64)) ((g8 (mid z 0 k) j).toUInt64)) rfl ?_
  refine AA _ (AE rfl) rfl ?_
  refine AI (BS (AC (AB (AA (I64 ((j:Int) + 1)) (AR rfl rfl fun _ => DQ _ _ ((j:Int) + 1) (by omega) (by omega)) rfl ?_))))
  refine AA _ (AF rfl) rfl ?_
  refine AI (D0 (EV (j + 1, (y <<< (8:UInt64)) ||| ((g8 (mid z 0 k) j).toUInt64)) ⟨by omega, by rw [valK, ← hx2]⟩ (by first | (simp; omega) | simp | (dsimp only; omega) | omega) (Sub.all rfl) rfl))
 ·
  have hp1 : ¬ (((j:Int)) < ((k:Int))) := of_decide_eq_false hb1
  refine ED (BJ (BJ (C1 (AC (AH (AB (AA _ (AF rfl) rfl ?_)))))))
  refine AA _ (AE rfl) rfl ?_
  refine AI (AC (BI (B4 [true, false] ?_)))
  show JQ _ _ _ _ [_]
  refine BH (U64 y) (res1 Tryd.results109 (BC rfl)) fun w1 hw1 => ?_
  have e1 : j = k := by omega
  have e2 : valK (mid z 0 k) k = valK z k := valK_congr k fun i hi => by rw [g8_mid hi, Nat.zero_add]
  obtain rfl : n2 = (n - k) := by omega
  obtain rfl : c2 = (c - k) := by omega
  exact ⟨_, _, rfl, ⟨by rw [hx2, e1, e2], rfl⟩, hw1⟩
theorem hasRE_c (rb e : Nat) (sv : Value) (w : World) (h0 : w.heap[rb]? = some (.cells [errV 50 e, sv].toArray 204 (0, 0))) (he : e ≠ 0) : Calls Tryd.prog 152 #[Ptr rb 0] w (Post w [rb] (fun v L => v = .agg (cu8 (zr8 32)).toArray ∧ L = [⟨rb, [errV 50 (erN e 2), sv], 204, (0, 0)⟩])) := by
 refine enter w [rb] 9 [⟨rb, [errV 50 e, sv], 204, (0, 0)⟩] [Ptr rb 0] Tryd.func152 rfl rfl (by simp) (BW (by simpa using h0) (by simp) (by simp)) ?_
 show JC _ _ _ [(0, Ptr rb 0)] _
 refine AH (AB (A4 (C0 _ (cu8 (zr8 32)) Tryd.zeroValue54 (by kernel_rfl)) rfl ?_))
 rintro v1 L1 ⟨nb1, hnb1, rfl, rfl⟩
 show JL _ _ _ _ ((2, Ptr nb1 0) :: _) [_, ⟨nb1, cu8 (zr8 32), 54, (0, 0)⟩]
 refine AI (AC (AH (AB (A4 (C0 _ (cu8 (zr8 32)) Tryd.zeroValue54 (by kernel_rfl)) rfl ?_))))
 rintro v1 L1 ⟨nb2, hnb2, rfl, rfl⟩
 show JL _ _ _ _ ((3, Ptr nb2 0) :: _) [_, _, ⟨nb2, cu8 (zr8 32), 54, (0, 0)⟩]
 refine AI (AC (AH (DC 9 3 [(0, Slc nb2 0 32 32), (1, Ptr rb 0)] CA rfl (by decide +kernel) ?_)))
 refine CW ⟨[], [0, 1], [], [0, 1], [2]⟩ 2 _ rfl rfl (by decide +kernel) rfl ⟨⟨_, rfl, AL rfl (DF 32 5 1 0 32 0 32 Tryd.underlying54 BZ rfl rfl rfl (by omega) (by omega) (by omega) (by omega) (by omega) 32 (by omega))⟩, CG rfl rfl rfl, trivial⟩ rfl (BO rfl (DS 127 [Ptr rb 0, I64 32] 0 ⟨rb, [errV 50 e, sv], 204, (0, 0)⟩ _ (fun v e' l' => v = SL none 0 0 ∧ e' = ⟨rb, [errV 50 (erN e 2), sv], 204, (0, 0)⟩ ∧ l' = []) (AS _ Tryd.call127 rfl) rfl (by rintro v l ⟨rfl, rfl⟩; exact ⟨_, _, rfl, rfl, rfl, rfl, rfl⟩) (fun w1 hw1 => rawRB1_c rb e sv (32:Int) w1 (hw1.ent _ (List.mem_of_getElem? (i := 0) rfl)) he (by decide)))) ?_
 rintro v1 L1 ⟨_, _, ⟨rfl, rfl, rfl⟩, rfl⟩
 refine ⟨[], ?_⟩
 show DP _ _ _ _ _ _ _ _ [⟨rb, [errV 50 (erN e 2), sv], 204, (0, 0)⟩, _, _]
 refine EH ⟨[2], [0, 1], [1], [0], [3]⟩ 3 rfl rfl (by decide +kernel) rfl ⟨⟨_, rfl, AL rfl (DF 32 5 1 0 32 0 32 Tryd.underlying54 BZ rfl rfl rfl (by omega) (by omega) (by omega) (by omega) (by omega) 32 (by omega))⟩, trivial⟩ rfl (BO rfl (ET 43 43 5 2 nb2 0 32 32 (cu8 (zr8 32)) 54 none 0 0 0 [] (cu8 (zr8 32)) BA D4 rfl rfl rfl rfl rfl SrcAt.nil (by simp) one_nil (lay_nil _ _))) ?_
 show DP _ _ _ _ _ _ _ _ [_, _, _]
 refine DU ⟨[2, 3], [0, 1], [0, 1], [], []⟩ rfl rfl (by decide +kernel) rfl trivial ?_
 refine C6 (F' := [(2, Ptr nb1 0), (3, Ptr nb2 0)]) (by kernel_rfl) ?_
 refine AC (AH (AB (AA (.agg (cu8 (zr8 32)).toArray) (AO rfl (BU Tryd.isAgg54 EC (EW (AN 32)) (AU 2 rfl (AQ _)))) rfl ?_)))
 refine A7 (BQ 1 nb1 32 (cu8 (zr8 32)) 54 (cu8 (zr8 32)) rfl rfl rfl EC (EW (AN 32)) (by first | exact CT | exact one_u32 | exact one_u64 | (simp [cu8, cu32, cu64, Value.oneCell']; done)) (by simp [(AN 32)]) (BT (by simp [(AN 32), (AN 32)]))) rfl ?_
 show JL _ _ _ _ _ [_, ⟨nb1, cu8 (zr8 32), 54, (0, 0)⟩, _]
 refine AI (AC (BI (B4 [true, true, false] ?_)))
 show JQ _ _ _ _ [_, _]
 refine BH (.agg (cu8 (zr8 32)).toArray) (res1 Tryd.results152 (DM rfl (BU Tryd.isAgg54 EC (EW (AN 32)) (AU 1 rfl (AQ _))))) fun w1 hw1 => ?_
 exact ⟨_, _, rfl, ⟨by first | rfl | simp [spl], rfl⟩, hw1.sub (by simp) (by simp)⟩
theorem hasRS_c (rb e : Nat) (ao : Option Addr) (n c : Nat) (w : World) (h0 : w.heap[rb]? = some (.cells [errV 50 e, SL ao n c].toArray 204 (0, 0))) (he : e = 0) (hl : n < 32) : Calls Tryd.prog 152 #[Ptr rb 0] w (Post w [rb] (fun v L => v = .agg (cu8 (zr8 32)).toArray ∧ L = [⟨rb, [errV 50 (erN e 2), SL ao n c], 204, (0, 0)⟩])) := by
 refine enter w [rb] 9 [⟨rb, [errV 50 e, SL ao n c], 204, (0, 0)⟩] [Ptr rb 0] Tryd.func152 rfl rfl (by simp) (BW (by simpa using h0) (by simp) (by simp)) ?_
 show JC _ _ _ [(0, Ptr rb 0)] _
 refine AH (AB (A4 (C0 _ (cu8 (zr8 32)) Tryd.zeroValue54 (by kernel_rfl)) rfl ?_))
 rintro v1 L1 ⟨nb1, hnb1, rfl, rfl⟩
 show JL _ _ _ _ ((2, Ptr nb1 0) :: _) [_, ⟨nb1, cu8 (zr8 32), 54, (0, 0)⟩]
 refine AI (AC (AH (AB (A4 (C0 _ (cu8 (zr8 32)) Tryd.zeroValue54 (by kernel_rfl)) rfl ?_))))
 rintro v1 L1 ⟨nb2, hnb2, rfl, rfl⟩
 show JL _ _ _ _ ((3, Ptr nb2 0) :: _) [_, _, ⟨nb2, cu8 (zr8 32), 54, (0, 0)⟩]
 refine AI (AC (AH (DC 9 3 [(0, Slc nb2 0 32 32), (1, Ptr rb 0)] CA rfl (by decide +kernel) ?_)))
 refine CW ⟨[], [0, 1], [], [0, 1], [2]⟩ 2 _ rfl rfl (by decide +kernel) rfl ⟨⟨_, rfl, AL rfl (DF 32 5 1 0 32 0 32 Tryd.underlying54 BZ rfl rfl rfl (by omega) (by omega) (by omega) (by omega) (by omega) 32 (by omega))⟩, CG rfl rfl rfl, trivial⟩ rfl (BO rfl (DS 127 [Ptr rb 0, I64 32] 0 ⟨rb, [errV 50 e, SL ao n c], 204, (0, 0)⟩ _ (fun v e' l' => v = SL none 0 0 ∧ e' = ⟨rb, [errV 50 (erN e 2), SL ao n c], 204, (0, 0)⟩ ∧ l' = []) (AS _ Tryd.call127 rfl) rfl (by rintro v l ⟨rfl, rfl⟩; exact ⟨_, _, rfl, rfl, rfl, rfl, rfl⟩) (fun w1 hw1 => rawRB0_c rb e ao n c (32:Int) w1 (hw1.ent _ (List.mem_of_getElem? (i := 0) rfl)) he (.inr (by omega))))) ?_
 rintro v1 L1 ⟨_, _, ⟨rfl, rfl, rfl⟩, rfl⟩
 refine ⟨[], ?_⟩
 show DP _ _ _ _ _ _ _ _ [⟨rb, [errV 50 (erN e 2), SL ao n c], 204, (0, 0)⟩, _, _]
 refine EH ⟨[2], [0, 1], [1], [0], [3]⟩ 3 rfl rfl (by decide +kernel) rfl ⟨⟨_, rfl, AL rfl (DF 32 5 1 0 32 0 32 Tryd.underlying54 BZ rfl rfl rfl (by omega) (by omega) (by omega) (by omega) (by omega) 32 (by omega))⟩, trivial⟩ rfl (BO rfl (ET 43 43 5 2 nb2 0 32 32 (cu8 (zr8 32)) 54 none 0 0 0 [] (cu8 (zr8 32)) BA D4 rfl rfl rfl rfl rfl SrcAt.nil (by simp) one_nil (lay_nil _ _))) ?_
 show DP _ _ _ _ _ _ _ _ [_, _, _]
 refine DU ⟨[2, 3], [0, 1], [0, 1], [], []⟩ rfl rfl (by decide +kernel) rfl trivial ?_
 refine C6 (F' := [(2, Ptr nb1 0), (3, Ptr nb2 0)]) (by kernel_rfl) ?_
 refine AC (AH (AB (AA (.agg (cu8 (zr8 32)).toArray) (AO rfl (BU Tryd.isAgg54 EC (EW (AN 32)) (AU 2 rfl (AQ _)))) rfl ?_)))
 refine A7 (BQ 1 nb1 32 (cu8 (zr8 32)) 54 (cu8 (zr8 32)) rfl rfl rfl EC (EW (AN 32)) (by first | exact CT | exact one_u32 | exact one_u64 | (simp [cu8, cu32, cu64, Value.oneCell']; done)) (by simp [(AN 32)]) (BT (by simp [(AN 32), (AN 32)]))) rfl ?_
 show JL _ _ _ _ _ [_, ⟨nb1, cu8 (zr8 32), 54, (0, 0)⟩, _]
 refine AI (AC (BI (B4 [true, true, false] ?_)))
 show JQ _ _ _ _ [_, _]
 refine BH (.agg (cu8 (zr8 32)).toArray) (res1 Tryd.results152 (DM rfl (BU Tryd.isAgg54 EC (EW (AN 32)) (AU 1 rfl (AQ _))))) fun w1 hw1 => ?_
 exact ⟨_, _, rfl, ⟨by first | rfl | simp [spl], rfl⟩, hw1.sub (by simp) (by simp)⟩
theorem hasROk_c (rb e : Nat) (ao : Option Addr) (n c : Nat) (z : List UInt8)  (w : World) (h0 : w.heap[rb]? = some (.cells [errV 50 e, SL ao n c].toArray 204 (0, 0))) (hz : z.length = n) (hn : n ≤ 2000000000) (hc : n ≤ c) (hcm : c ≤ maxLen) (hr : RdB w [rb] ao z) (he : e = 0) (hl : 32 ≤ n) : Calls Tryd.prog 152 #[Ptr rb 0] w (Post w [rb] (fun v L => v = .agg (cu8 (mid z 0 32)).toArray ∧ L = [⟨rb, [errV 50 e, SL (advA ao c 32) (n - 32) (c - 32)], 204, (0, 0)⟩])) := by
 refine enter w [rb] 9 [⟨rb, [errV 50 e, SL ao n c], 204, (0, 0)⟩] [Ptr rb 0] Tryd.func152 rfl rfl (by simp) (BW (by simpa using h0) (by simp) (by simp)) ?_
 show JC _ _ _ [(0, Ptr rb 0)] _
 refine AH (AB (A4 (C0 _ (cu8 (zr8 32)) Tryd.zeroValue54 (by kernel_rfl)) rfl ?_))
 rintro v1 L1 ⟨nb1, hnb1, rfl, rfl⟩
 show JL _ _ _ _ ((2, Ptr nb1 0) :: _) [_, ⟨nb1, cu8 (zr8 32), 54, (0, 0)⟩]
 refine AI (AC (AH (AB (A4 (C0 _ (cu8 (zr8 32)) Tryd.zeroValue54 (by kernel_rfl)) rfl ?_))))
 rintro v1 L1 ⟨nb2, hnb2, rfl, rfl⟩
 show JL _ _ _ _ ((3, Ptr nb2 0) :: _) [_, _, ⟨nb2, cu8 (zr8 32), 54, (0, 0)⟩]
 refine AI (AC (AH (DC 9 3 [(0, Slc nb2 0 32 32), (1, Ptr rb 0)] CA rfl (by decide +kernel) ?_)))
 have hl1 : (z.drop 32).length = (n - 32) := by rw [List.length_drop, hz] <;> omega
 have hr1 := RdB.adv (c := c) hr 32 (by rw [hz]; omega) (by rw [hz]; omega)
 have hl2 : (mid z 0 32).length = 32 := mid_len (by rw [hz]; omega)
 refine CW ⟨[], [0, 1], [], [0, 1], [2]⟩ 2 _ rfl rfl (by decide +kernel) rfl ⟨⟨_, rfl, AL rfl (DF 32 5 1 0 32 0 32 Tryd.underlying54 BZ rfl rfl rfl (by omega) (by omega) (by omega) (by omega) (by omega) 32 (by omega))⟩, CG rfl rfl rfl, trivial⟩ rfl (BO rfl (A8 127 _ [true, false, false] [rb] _ (AS [Ptr rb 0, I64 32] Tryd.call127 rfl) rfl (fun w1 hw1 => rawROk_c rb e ao n c z 32 (n - 32) (c - 32) w1 (hw1.ent _ (List.mem_of_getElem? (i := 0) rfl)) hz (by omega) (by omega) (by omega) (hr.at (M' := [rb]) hw1 (hw1.apart [0] _ rfl)) he (by omega) hl (by omega) (by omega)))) ?_
 rintro v1 L1 ⟨_, ⟨nb3, sp1, cp1, rfl, rfl, hc1, hc2, hc3⟩, rfl⟩
 refine ⟨[], ?_⟩
 show DP _ _ _ _ _ _ _ _ [_, _, ⟨rb, [errV 50 e, SL (advA ao c 32) (n - 32) (c - 32)], 204, (0, 0)⟩, ⟨nb3, cu8 (mid z 0 32) ++ sp1, 5, (0, 0)⟩]
 refine EH ⟨[2], [0, 1], [1], [0], [3]⟩ 3 rfl rfl (by decide +kernel) rfl ⟨⟨_, rfl, AL rfl (DF 32 5 1 0 32 0 32 Tryd.underlying54 BZ rfl rfl rfl (by omega) (by omega) (by omega) (by omega) (by omega) 32 (by omega))⟩, trivial⟩ rfl (BO rfl (ET 43 43 5 1 nb2 0 32 32 (cu8 (zr8 32)) 54 (some ⟨nb3, 0, none⟩) 32 cp1 32 (cu8 (mid z 0 32)) (cu8 (mid z 0 32)) BA D4 rfl rfl rfl rfl (by simp [hl2]; try omega) (SrcAt.mem (AU 3 rfl (AJ (AQ _)))) (by simp [(AN 32)]; try omega) (by first | exact CT | exact one_u32 | exact one_u64 | (simp [cu8, cu32, cu64, Value.oneCell']; done)) (BT (by simp [(AN 32), hl2])))) ?_
 show DP _ _ _ _ _ _ _ _ [_, ⟨nb2, cu8 (mid z 0 32), 54, (0, 0)⟩, _, _]
 refine DU ⟨[2, 3], [0, 1], [0, 1], [], []⟩ rfl rfl (by decide +kernel) rfl trivial ?_
 refine C6 (F' := [(2, Ptr nb1 0), (3, Ptr nb2 0)]) (by kernel_rfl) ?_
 refine AC (AH (AB (AA (.agg (cu8 (mid z 0 32)).toArray) (AO rfl (BU Tryd.isAgg54 EC (EW hl2) (AU 1 rfl (AQ _)))) rfl ?_)))
 refine A7 (BQ 0 nb1 32 (cu8 (zr8 32)) 54 (cu8 (mid z 0 32)) rfl rfl rfl EC (EW hl2) (by first | exact CT | exact one_u32 | exact one_u64 | (simp [cu8, cu32, cu64, Value.oneCell']; done)) (by simp [(AN 32)]) (BT (by simp [(AN 32), hl2]))) rfl ?_
 show JL _ _ _ _ _ [⟨nb1, cu8 (mid z 0 32), 54, (0, 0)⟩, _, _, _]
 refine AI (AC (BI (B4 [true, false, true, false] ?_)))
 show JQ _ _ _ _ [_, _]
 refine BH (.agg (cu8 (mid z 0 32)).toArray) (res1 Tryd.results152 (DM rfl (BU Tryd.isAgg54 EC (EW hl2) (AU 0 rfl (AQ _))))) fun w1 hw1 => ?_
 exact ⟨_, _, rfl, ⟨by first | rfl | simp [spl], rfl⟩, hw1.sub (by simp) (by simp)⟩
theorem flgRE_c (rb e : Nat) (sv : Value) (w : World) (h0 : w.heap[rb]? = some (.cells [errV 50 e, sv].toArray 204 (0, 0))) (he : e ≠ 0) : Calls Tryd.prog 119 #[Ptr rb 0] w (Post w [rb] (fun v L => v = .bool false ∧ L = [⟨rb, [errV 50 (erN e 2), sv], 204, (0, 0)⟩])) := by
 refine enter w [rb] 21 [⟨rb, [errV 50 e, sv], 204, (0, 0)⟩] [Ptr rb 0] Tryd.func119 rfl rfl (by simp) (BW (by simpa using h0) (by simp) (by simp)) ?_
 show JC _ _ _ [(0, Ptr rb 0)] _
 refine AH (AB (AA _ (AE rfl) rfl ?_))
 refine AI (AC (AH (AH (AB (AA _ (AF rfl) rfl ?_)))))
 refine A7 (A2 61 [Ptr rb 0] (I64 0) (AS _ DV rfl) (fun w1 hw1 => leftE_c rb e sv w1 (RdA.of hw1 (AU 0 rfl (AQ _)) (by simp)) he)) rfl ?_
 show JL _ _ _ _ ((4, I64 0) :: _) [_]
 refine AA (.bool (decide ((0:Int) < (1:Int)))) (AR rfl rfl fun _ => CH _ _) rfl ?_
 refine AA _ (AF rfl) rfl ?_
 refine AG 3 6 false _ rfl rfl (by decide) rfl ?_
 refine AG 3 6 false _ rfl rfl (by decide) rfl ?_
 refine AG 3 6 false _ rfl rfl (by decide) rfl ?_
 refine AG 3 6 false _ rfl rfl (by decide) rfl ?_
 refine AG 3 6 false _ rfl rfl (by decide) rfl ?_
 refine AG 3 6 false _ rfl rfl (by decide) rfl ?_
 refine AG 3 6 false _ rfl rfl (by decide) rfl ?_
 refine AA _ (BD _ rfl (by decide) rfl) rfl ?_
 refine AI (AC (B3 _ rfl rfl ?_))
 refine AH (AB (AA _ (AF rfl) rfl ?_))
 refine AA (.iface 50 (I64 2)) (C9 BM rfl rfl) rfl ?_
 refine A4 (DS 121 [Ptr rb 0, .iface 50 (I64 2)] 0 ⟨rb, [errV 50 e, sv], 204, (0, 0)⟩ _ (fun v e' l' => v = .tuple #[] ∧ e' = ⟨rb, [errV 50 (erN e 2), sv], 204, (0, 0)⟩ ∧ l' = []) (AS _ DX rfl) rfl (by rintro v l ⟨rfl, rfl⟩; exact ⟨_, _, rfl, rfl, rfl, rfl, rfl⟩) (fun w1 hw1 => EL rb e 2 sv w1 (by decide) (hw1.ent _ (List.mem_of_getElem? (i := 0) rfl)))) rfl ?_
 rintro v1 L1 ⟨_, _, ⟨rfl, rfl, rfl⟩, rfl⟩
 show JL _ _ _ _ ((17, .tuple #[]) :: _) [⟨rb, [errV 50 (erN e 2), sv], 204, (0, 0)⟩]
 refine AI (AC (AH (AB (AA _ (AE rfl) rfl ?_))))
 refine AI (AC (BI (A1 (BH (.bool false) (res1 Tryd.results119 (BC rfl)) fun w1 hw1 => ?_))))
 exact ⟨_, _, rfl, ⟨rfl, rfl⟩, hw1⟩
theorem flgRS_c (rb e : Nat) (ao : Option Addr) (n c : Nat) (w : World) (h0 : w.heap[rb]? = some (.cells [errV 50 e, SL ao n c].toArray 204 (0, 0))) (he : e = 0) (hl : n = 0) : Calls Tryd.prog 119 #[Ptr rb 0] w (Post w [rb] (fun v L => v = .bool false ∧ L = [⟨rb, [errV 50 (erN e 2), SL ao n c], 204, (0, 0)⟩])) := by
 refine enter w [rb] 21 [⟨rb, [errV 50 e, SL ao n c], 204, (0, 0)⟩] [Ptr rb 0] Tryd.func119 rfl rfl (by simp) (BW (by simpa using h0) (by simp) (by simp)) ?_
 show JC _ _ _ [(0, Ptr rb 0)] _
 refine AH (AB (AA _ (AE rfl) rfl ?_))
 refine AI (AC (AH (AH (AB (AA _ (AF rfl) rfl ?_)))))
 refine A7 (A2 61 [Ptr rb 0] (I64 n) (AS _ DV rfl) (fun w1 hw1 => leftZ_c rb e ao n c w1 (RdA.of hw1 (AU 0 rfl (AQ _)) (by simp)) he)) rfl ?_
 show JL _ _ _ _ ((4, I64 n) :: _) [_]
 refine AA (.bool (decide (((n:Int)) < (1:Int)))) (AR rfl rfl fun _ => CH _ _) rfl ?_
 refine AA _ (AF rfl) rfl ?_
 refine AG 3 6 false _ rfl rfl (decide_eq_true (by omega)) rfl ?_
 refine AG 3 6 false _ rfl rfl (decide_eq_true (by omega)) rfl ?_
 refine AG 3 6 false _ rfl rfl (decide_eq_true (by omega)) rfl ?_
 refine AG 3 6 false _ rfl rfl (decide_eq_true (by omega)) rfl ?_
 refine AG 3 6 false _ rfl rfl (decide_eq_true (by omega)) rfl ?_
 refine AG 3 6 false _ rfl rfl (decide_eq_true (by omega)) rfl ?_
 refine AG 3 6 false _ rfl rfl (decide_eq_true (by omega)) rfl ?_
 refine AA _ (BD _ rfl (decide_eq_true (by omega)) rfl) rfl ?_
 refine AI (AC (B3 _ rfl rfl ?_))
 refine AH (AB (AA _ (AF rfl) rfl ?_))
 refine AA (.iface 50 (I64 2)) (C9 BM rfl rfl) rfl ?_
 refine A4 (DS 121 [Ptr rb 0, .iface 50 (I64 2)] 0 ⟨rb, [errV 50 e, SL ao n c], 204, (0, 0)⟩ _ (fun v e' l' => v = .tuple #[] ∧ e' = ⟨rb, [errV 50 (erN e 2), SL ao n c], 204, (0, 0)⟩ ∧ l' = []) (AS _ DX rfl) rfl (by rintro v l ⟨rfl, rfl⟩; exact ⟨_, _, rfl, rfl, rfl, rfl, rfl⟩) (fun w1 hw1 => EL rb e 2 (SL ao n c) w1 (by decide) (hw1.ent _ (List.mem_of_getElem? (i := 0) rfl)))) rfl ?_
 rintro v1 L1 ⟨_, _, ⟨rfl, rfl, rfl⟩, rfl⟩
 show JL _ _ _ _ ((17, .tuple #[]) :: _) [⟨rb, [errV 50 (erN e 2), SL ao n c], 204, (0, 0)⟩]
 refine AI (AC (AH (AB (AA _ (AE rfl) rfl ?_))))
 refine AI (AC (BI (A1 (BH (.bool false) (res1 Tryd.results119 (BC rfl)) fun w1 hw1 => ?_))))
 exact ⟨_, _, rfl, ⟨rfl, rfl⟩, hw1⟩
theorem flgRB_c (rb e : Nat) (ao : Option Addr) (n c : Nat) (z : List UInt8)  (w : World) (h0 : w.heap[rb]? = some (.cells [errV 50 e, SL ao n c].toArray 204 (0, 0))) (hz : z.length = n) (hn : n ≤ 2000000000) (hc : n ≤ c) (hcm : c ≤ maxLen) (hr : RdB w [rb] ao z) (he : e = 0) (hl : 1 ≤ n) (hb : (1:UInt8) < g8 z 0) : Calls Tryd.prog 119 #[Ptr rb 0] w (Post w [rb] (fun v L => v = .bool false ∧ L = [⟨rb, [errV 50 (erN e 2), SL ao n c], 204, (0, 0)⟩])) := by
 refine enter w [rb] 21 [⟨rb, [errV 50 e, SL ao n c], 204, (0, 0)⟩] [Ptr rb 0] Tryd.func119 rfl rfl (by simp) (BW (by simpa using h0) (by simp) (by simp)) ?_
 show JC _ _ _ [(0, Ptr rb 0)] _
 refine AH (AB (AA _ (AE rfl) rfl ?_))
 refine AI (AC (AH (AH (AB (AA _ (AF rfl) rfl ?_)))))
 refine A7 (A2 61 [Ptr rb 0] (I64 n) (AS _ DV rfl) (fun w1 hw1 => leftZ_c rb e ao n c w1 (RdA.of hw1 (AU 0 rfl (AQ _)) (by simp)) he)) rfl ?_
 show JL _ _ _ _ ((4, I64 n) :: _) [_]
 refine AA (.bool (decide (((n:Int)) < (1:Int)))) (AR rfl rfl fun _ => CH _ _) rfl ?_
 refine AA _ (AF rfl) rfl ?_
 refine AP 3 6 false _ _ rfl rfl (decide_eq_false (by omega)) (AF rfl) rfl ?_
 refine AP 3 6 false _ _ rfl rfl (decide_eq_false (by omega)) (CL rfl) rfl ?_
 refine AP 3 6 false _ (Ptr rb 1) rfl rfl (decide_eq_false (by omega)) (AD 1 43 1 DA rfl CB rfl rfl) rfl ?_
 refine AP 3 6 false _ (SL ao n c) rfl rfl (decide_eq_false (by omega)) (AO rfl (A0 DR (AU 0 rfl (AK (Seg.head))))) rfl ?_
 obtain ⟨bz1, oz1, hz1, hm1⟩ := hr.pos (by rw [hz]; omega)
 refine AP 3 6 false _ (Ptr bz1 oz1) rfl rfl (decide_eq_false (by omega)) (EA 5 1 oz1 BA BZ rfl hz1 rfl (by omega) (by omega) (by omega)) rfl ?_
 refine AP 3 6 false _ (U8 (g8 z 0)) rfl rfl (decide_eq_false (by omega)) (AO rfl (A0 Tryd.isAgg5 (DB (MemAt.base hm1.1 hm1.2.1 hm1.2.2) (Seg.get (g8_get (i := 0) (by rw [hz]; omega))) (by first | omega | (simp; done) | (simp; omega))))) rfl ?_
 refine AP 3 6 false _ (.bool (decide ((1:UInt8) < (g8 z 0)))) rfl rfl (decide_eq_false (by omega)) (AR rfl rfl fun _ => bin_gtr_u8 (g8 z 0) (1:UInt8)) rfl ?_
 refine AA _ (A3 _ rfl (decide_eq_false (by omega)) rfl) rfl ?_
 refine AI (AC (B3 _ rfl (decide_eq_true hb) ?_))
 refine AH (AB (AA _ (AF rfl) rfl ?_))
 refine AA (.iface 50 (I64 2)) (C9 BM rfl rfl) rfl ?_
 refine A4 (DS 121 [Ptr rb 0, .iface 50 (I64 2)] 0 ⟨rb, [errV 50 e, SL ao n c], 204, (0, 0)⟩ _ (fun v e' l' => v = .tuple #[] ∧ e' = ⟨rb, [errV 50 (erN e 2), SL ao n c], 204, (0, 0)⟩ ∧ l' = []) (AS _ DX rfl) rfl (by rintro v l ⟨rfl, rfl⟩; exact ⟨_, _, rfl, rfl, rfl, rfl, rfl⟩) (fun w1 hw1 => EL rb e 2 (SL ao n c) w1 (by decide) (hw1.ent _ (List.mem_of_getElem? (i := 0) rfl)))) rfl ?_
 rintro v1 L1 ⟨_, _, ⟨rfl, rfl, rfl⟩, rfl⟩
 show JL _ _ _ _ ((17, .tuple #[]) :: _) [⟨rb, [errV 50 (erN e 2), SL ao n c], 204, (0, 0)⟩]
 refine AI (AC (AH (AB (AA _ (AE rfl) rfl ?_))))
 refine AI (AC (BI (A1 (BH (.bool false) (res1 Tryd.results119 (BC rfl)) fun w1 hw1 => ?_))))
 exact ⟨_, _, rfl, ⟨rfl, rfl⟩, hw1⟩
theorem flgROk_c (rb e : Nat) (ao : Option Addr) (n c : Nat) (z : List UInt8)  (w : World) (h0 : w.heap[rb]? = some (.cells [errV 50 e, SL ao n c].toArray 204 (0, 0))) (hz : z.length = n) (hn : n ≤ 2000000000) (hc : n ≤ c) (hcm : c ≤ maxLen) (hr : RdB w [rb] ao z) (he : e = 0) (hl : 1 ≤ n) (hb : ¬ (1:UInt8) < g8 z 0) : Calls Tryd.prog 119 #[Ptr rb 0] w (Post w [rb] (fun v L => v = .bool (decide (g8 z 0 = 1)) ∧ L = [⟨rb, [errV 50 e, SL (advA ao c 1) (n - 1) (c - 1)], 204, (0, 0)⟩])) := by
 refine enter w [rb] 21 [⟨rb, [errV 50 e, SL ao n c], 204, (0, 0)⟩] [Ptr rb 0] Tryd.func119 rfl rfl (by simp) (BW (by simpa using h0) (by simp) (by simp)) ?_
 show JC _ _ _ [(0, Ptr rb 0)] _
 refine AH (AB (AA _ (AE rfl) rfl ?_))
 refine AI (AC (AH (AH (AB (AA _ (AF rfl) rfl ?_)))))
 refine A7 (A2 61 [Ptr rb 0] (I64 n) (AS _ DV rfl) (fun w1 hw1 => leftZ_c rb e ao n c w1 (RdA.of hw1 (AU 0 rfl (AQ _)) (by simp)) he)) rfl ?_
 show JL _ _ _ _ ((4, I64 n) :: _) [_]
 refine AA (.bool (decide (((n:Int)) < (1:Int)))) (AR rfl rfl fun _ => CH _ _) rfl ?_
 refine AA _ (AF rfl) rfl ?_
 refine AP 3 6 false _ _ rfl rfl (decide_eq_false (by omega)) (AF rfl) rfl ?_
 refine AP 3 6 false _ _ rfl rfl (decide_eq_false (by omega)) (CL rfl) rfl ?_
 refine AP 3 6 false _ (Ptr rb 1) rfl rfl (decide_eq_false (by omega)) (AD 1 43 1 DA rfl CB rfl rfl) rfl ?_
 refine AP 3 6 false _ (SL ao n c) rfl rfl (decide_eq_false (by omega)) (AO rfl (A0 DR (AU 0 rfl (AK (Seg.head))))) rfl ?_
 obtain ⟨bz1, oz1, hz1, hm1⟩ := hr.pos (by rw [hz]; omega)
 refine AP 3 6 false _ (Ptr bz1 oz1) rfl rfl (decide_eq_false (by omega)) (EA 5 1 oz1 BA BZ rfl hz1 rfl (by omega) (by omega) (by omega)) rfl ?_
 refine AP 3 6 false _ (U8 (g8 z 0)) rfl rfl (decide_eq_false (by omega)) (AO rfl (A0 Tryd.isAgg5 (DB (MemAt.base hm1.1 hm1.2.1 hm1.2.2) (Seg.get (g8_get (i := 0) (by rw [hz]; omega))) (by first | omega | (simp; done) | (simp; omega))))) rfl ?_
 refine AP 3 6 false _ (.bool (decide ((1:UInt8) < (g8 z 0)))) rfl rfl (decide_eq_false (by omega)) (AR rfl rfl fun _ => bin_gtr_u8 (g8 z 0) (1:UInt8)) rfl ?_
 refine AA _ (A3 _ rfl (decide_eq_false (by omega)) rfl) rfl ?_
 refine AI (AC (BP _ rfl (decide_eq_false hb) ?_))
 refine BF (AC (AH (AB (AA _ (AF rfl) rfl ?_))))
 have hl1 : (z.drop 1).length = (n - 1) := by rw [List.length_drop, hz] <;> omega
 have hr1 := RdB.adv (c := c) hr 1 (by rw [hz]; omega) (by rw [hz]; omega)
 refine A4 (DS 109 [Ptr rb 0, I64 1] 0 ⟨rb, [errV 50 e, SL ao n c], 204, (0, 0)⟩ _ (fun v e' l' => v = U64 (valK z 1) ∧ e' = ⟨rb, [errV 50 e, SL (advA ao c 1) (n - 1) (c - 1)], 204, (0, 0)⟩ ∧ l' = []) (AS _ CV rfl) rfl (by rintro v l ⟨rfl, rfl⟩; exact ⟨_, _, rfl, rfl, rfl, rfl, rfl⟩) (fun w1 hw1 => numROk_c rb e ao n c z 1 (n - 1) (c - 1) w1 (hw1.ent _ (List.mem_of_getElem? (i := 0) rfl)) hz (by omega) (by omega) (by omega) (hr.at (M' := [rb]) hw1 (hw1.apart [0] _ rfl)) he (by unfold Szd; omega) (by omega) (by omega) (by omega))) rfl ?_
 rintro v1 L1 ⟨_, _, ⟨rfl, rfl, rfl⟩, rfl⟩
 show JL _ _ _ _ ((19, U64 (valK z 1)) :: _) [⟨rb, [errV 50 e, SL (advA ao c 1) (n - 1) (c - 1)], 204, (0, 0)⟩]
 refine AA (.bool (decide ((valK z 1) = (1:UInt64)))) (AR rfl rfl fun _ => E9 (valK z 1) (1:UInt64)) rfl ?_
 refine AA _ (AE rfl) rfl ?_
 refine AI (AC (BI (BH (.bool (decide ((valK z 1) = (1:UInt64)))) (res1 Tryd.results119 (BC rfl)) fun w1 hw1 => ?_)))
 exact ⟨_, _, rfl, ⟨congrArg Value.bool (decide_eq_decide.2 (Iff.of_eq (valK_flag z))), rfl⟩, hw1⟩
theorem endE_c (rb e : Nat) (sv : Value) (w : World) (hw : RdA w rb 0 [errV 50 e, sv]) (he : e ≠ 0) : Calls Tryd.prog 63 #[Ptr rb 0] w (Post w [] (fun v L => v = errV 50 e ∧ L = [])) := by
 refine enter w [] 27 [] [Ptr rb 0] Tryd.func63 rfl rfl (by simp) (BW (by simp) (by simp) (by simp)) ?_
 show JC _ _ _ [(0, Ptr rb 0)] _
 refine AH (AB (AA _ (AE rfl) rfl ?_))
 refine AI (AC (AH (B5 (AH (AB (AA _ (AF rfl) rfl ?_))))))
 refine AA (.bool false) (C7 _ _ _ rfl rfl (fun _ => E4 ..) fun _ => E6 Tryd.underlying110) rfl ?_
 refine AA _ (AE rfl) rfl ?_
 refine AI (AC (BP _ rfl rfl ?_))
 refine AH (AB (AA _ (AF rfl) rfl ?_))
 refine AA _ (CL rfl) rfl ?_
 refine AA (Ptr rb 0) (AD 0 147 1 DA rfl Tryd.sizeOf147 rfl rfl) rfl ?_
 refine AA (Ptr rb 0) (AD 0 45 1 EI rfl Tryd.sizeOf45 rfl rfl) rfl ?_
 refine AA (errV 50 e) (AO rfl (A0 Tryd.isAgg45 (DB (hw.mem (by simp)) (Seg.head) (by first | omega | (simp; done) | (simp; omega))))) rfl ?_
 refine AA (.bool (!(decide (e = 0)))) (C7 _ _ _ rfl rfl (fun _ => B6 ..) fun _ => DJ BB _ _) rfl ?_
 refine AA _ (AE rfl) rfl ?_
 refine AI (AC (B3 _ rfl (by rw [show (decide (e = 0)) = false from (decide_eq_false he)] <;> rfl) ?_))
 refine AH (AB (AA _ (AF rfl) rfl ?_))
 refine AA _ (CL rfl) rfl ?_
 refine AA (Ptr rb 0) (AD 0 147 1 DA rfl Tryd.sizeOf147 rfl rfl) rfl ?_
 refine AA (Ptr rb 0) (AD 0 45 1 EI rfl Tryd.sizeOf45 rfl rfl) rfl ?_
 refine AA (errV 50 e) (AO rfl (A0 Tryd.isAgg45 (DB (hw.mem (by simp)) (Seg.head) (by first | omega | (simp; done) | (simp; omega))))) rfl ?_
 refine AA _ (AE rfl) rfl ?_
 refine AI (AC (BI (CD (A1 (BH (errV 50 e) (res1 Tryd.results63 (BC rfl)) fun w1 hw1 => ?_)))))
 exact ⟨_, [], rfl, ⟨rfl, rfl⟩, hw1.sub (by simp) (by simp)⟩
theorem endZ_c (rb e : Nat) (ao : Option Addr) (n c : Nat) (w : World) (hw : RdA w rb 0 [errV 50 e, SL ao n c]) (he : e = 0) (hn : n = 0) : Calls Tryd.prog 63 #[Ptr rb 0] w (Post w [] (fun v L => v = .nilIface ∧ L = [])) := by
 refine enter w [] 27 [] [Ptr rb 0] Tryd.func63 rfl rfl (by simp) (BW (by simp) (by simp) (by simp)) ?_
 show JC _ _ _ [(0, Ptr rb 0)] _
 refine AH (AB (AA _ (AE rfl) rfl ?_))
 refine AI (AC (AH (B5 (AH (AB (AA _ (AF rfl) rfl ?_))))))
 refine AA (.bool false) (C7 _ _ _ rfl rfl (fun _ => E4 ..) fun _ => E6 Tryd.underlying110) rfl ?_
 refine AA _ (AE rfl) rfl ?_
 refine AI (AC (BP _ rfl rfl ?_))
 refine AH (AB (AA _ (AF rfl) rfl ?_))
 refine AA _ (CL rfl) rfl ?_
 refine AA (Ptr rb 0) (AD 0 147 1 DA rfl Tryd.sizeOf147 rfl rfl) rfl ?_
 refine AA (Ptr rb 0) (AD 0 45 1 EI rfl Tryd.sizeOf45 rfl rfl) rfl ?_
 refine AA (errV 50 e) (AO rfl (A0 Tryd.isAgg45 (DB (hw.mem (by simp)) (Seg.head) (by first | omega | (simp; done) | (simp; omega))))) rfl ?_
 refine AA (.bool (!(decide (e = 0)))) (C7 _ _ _ rfl rfl (fun _ => B6 ..) fun _ => DJ BB _ _) rfl ?_
 refine AA _ (AE rfl) rfl ?_
 refine AI (AC (BP _ rfl (by rw [show (decide (e = 0)) = true from (decide_eq_true he)] <;> rfl) ?_))
 refine AH (AB (AA _ (AF rfl) rfl ?_))
 refine AA _ (CL rfl) rfl ?_
 refine AA (Ptr rb 1) (AD 1 43 1 DA rfl CB rfl rfl) rfl ?_
 refine AA (SL ao n c) (AO rfl (A0 DR (DB (hw.mem (by simp)) (AK (Seg.head)) (by first | omega | (simp; done) | (simp; omega))))) rfl ?_
 refine AA (I64 n) (DY BA rfl) rfl ?_
 refine AA (.bool (decide ((0:Int) < ((n:Int))))) (AR rfl rfl fun _ => DD _ _) rfl ?_
 refine AA _ (AE rfl) rfl ?_
 refine AI (AC (BP _ rfl (decide_eq_false (by omega)) ?_))
 refine BF (BS (AC (AH (AB (AA _ (AE rfl) rfl ?_)))))
 refine AI (AC (BI (BH (.nilIface) (res1 Tryd.results63 (BC rfl)) fun w1 hw1 => ?_)))
 exact ⟨_, [], rfl, ⟨rfl, rfl⟩, hw1.sub (by simp) (by simp)⟩
theorem endB_c (rb e : Nat) (ao : Option Addr) (n c : Nat) (w : World) (hw : RdA w rb 0 [errV 50 e, SL ao n c]) (he : e = 0) (hn : n ≠ 0) : Calls Tryd.prog 63 #[Ptr rb 0] w (Post w [] (fun v L => v = .iface 50 (I64 2) ∧ L = [])) := by
 refine enter w [] 27 [] [Ptr rb 0] Tryd.func63 rfl rfl (by simp) (BW (by simp) (by simp) (by simp)) ?_
 show JC _ _ _ [(0, Ptr rb 0)] _
 refine AH (AB (AA _ (AE rfl) rfl ?_))
 refine AI (AC (AH (B5 (AH (AB (AA _ (AF rfl) rfl ?_))))))
 refine AA (.bool false) (C7 _ _ _ rfl rfl (fun _ => E4 ..) fun _ => E6 Tryd.underlying110) rfl ?_
 refine AA _ (AE rfl) rfl ?_
 refine AI (AC (BP _ rfl rfl ?_))
 refine AH (AB (AA _ (AF rfl) rfl ?_))
 refine AA _ (CL rfl) rfl ?_
 refine AA (Ptr rb 0) (AD 0 147 1 DA rfl Tryd.sizeOf147 rfl rfl) rfl ?_
 refine AA (Ptr rb 0) (AD 0 45 1 EI rfl Tryd.sizeOf45 rfl rfl) rfl ?_
 refine AA (errV 50 e) (AO rfl (A0 Tryd.isAgg45 (DB (hw.mem (by simp)) (Seg.head) (by first | omega | (simp; done) | (simp; omega))))) rfl ?_
 refine AA (.bool (!(decide (e = 0)))) (C7 _ _ _ rfl rfl (fun _ => B6 ..) fun _ => DJ BB _ _) rfl ?_
 refine AA _ (AE rfl) rfl ?_
 refine AI (AC (BP _ rfl (by rw [show (decide (e = 0)) = true from (decide_eq_true he)] <;> rfl) ?_))
 refine AH (AB (AA _ (AF rfl) rfl ?_))
 refine AA _ (CL rfl) rfl ?_
 refine AA (Ptr rb 1) (AD 1 43 1 DA rfl CB rfl rfl) rfl ?_
 refine AA (SL ao n c) (AO rfl (A0 DR (DB (hw.mem (by simp)) (AK (Seg.head)) (by first | omega | (simp; done) | (simp; omega))))) rfl ?_
 refine AA (I64 n) (DY BA rfl) rfl ?_
 refine AA (.bool (decide ((0:Int) < ((n:Int))))) (AR rfl rfl fun _ => DD _ _) rfl ?_
 refine AA _ (AE rfl) rfl ?_
 refine AI (AC (B3 _ rfl (decide_eq_true (by omega)) ?_))
 refine AH (AB (AA (.iface 50 (I64 2)) (C9 BM rfl rfl) rfl ?_))
 refine AA _ (AE rfl) rfl ?_
 refine AI (AC (BI (CD (A1 (BH (.iface 50 (I64 2)) (res1 Tryd.results63 (BC rfl)) fun w1 hw1 => ?_)))))
 exact ⟨_, [], rfl, ⟨rfl, rfl⟩, hw1.sub (by simp) (by simp)⟩
theorem end_w (rb e : Nat) (ao : Option Addr) (n c : Nat) (w : World) (hw : RdA w rb 0 [errV 50 e, SL ao n c]) : Calls Tryd.prog 63 #[Ptr rb 0] w (Post w [] (fun v L => v = errV 50 (endN e n) ∧ L = [])) := by
  by_cases he : e = 0
  · by_cases hn : n = 0
    · rw [endN, if_pos he, if_pos hn]; exact endZ_c rb e ao n c w hw he hn
    · rw [endN, if_pos he, if_neg hn]; exact endB_c rb e ao n c w hw he hn
  · rw [endN, if_neg he]; exact endE_c rb e _ w hw he
theorem from_c (ax : Option Addr) (p cx : Nat) (z : List UInt8) (w : World) (ha : ax.isNone = false) (hz : z.length = p) (hn : p ≤ 2000000000) (hr : RdB w [] ax z) : Calls Tryd.prog 59 #[SL ax p cx] w (Post w [] (fun v L => ∃ rb g sp cap, v = Ptr rb 0 ∧ L = [⟨rb, [.nilIface, Slc g 0 p cap], 204, (0, 0)⟩, ⟨g, cu8 z ++ sp, 5, (0, 0)⟩] ∧ sp.length = cap - p ∧ p ≤ cap ∧ cap ≤ maxLen)) := by
 refine enter w [] 7 [] [SL ax p cx] Tryd.func59 rfl rfl (by simp) (BW (by simp) (by simp) (by simp)) ?_
 show JC _ _ _ [(0, SL ax p cx)] _
 refine AH (AB (AA _ (AE rfl) rfl ?_))
 refine AI (AC (AH (AB (AA _ (AF rfl) rfl ?_))))
 refine A4 (CZ 108 [SL ax p cx] _ (AS _ Tryd.call108 rfl) (fun w1 hw1 => sclone_c ax p cx z w1 ha hz (by omega) (hr.at (M' := []) hw1 (by simp)))) rfl ?_
 rintro v1 L1 ⟨_, ⟨nb1, sp1, cp1, rfl, rfl, hc1, hc2, hc3⟩, rfl⟩
 show JL _ _ _ _ ((4, Slc nb1 0 p cp1) :: _) [⟨nb1, cu8 z ++ sp1, 5, (0, 0)⟩]
 refine AA (.agg #[.nilIface, Slc nb1 0 p cp1]) (CP [(1, Slc nb1 0 p cp1)] _ rfl (fun _ => by kernel_rfl)) rfl ?_
 refine A4 (C5 (.agg #[.nilIface, Slc nb1 0 p cp1]) ([.nilIface, Slc nb1 0 p cp1]) rfl (by first | rfl | simp)) rfl ?_
 rintro v1 L1 ⟨nb2, hnb2, rfl, rfl⟩
 show JL _ _ _ _ ((6, Ptr nb2 0) :: _) [_, ⟨nb2, [.nilIface, Slc nb1 0 p cp1], 204, (0, 0)⟩]
 refine AA _ (AE rfl) rfl ?_
 refine AI (AC (BI (BH (Ptr nb2 0) (res1 Tryd.results59 (BC rfl)) fun w1 hw1 => ?_)))
 exact ⟨_, _, rfl, ⟨nb2, nb1, sp1, cp1, rfl, rfl, hc1, hc2, hc3⟩, hw1.sub (by simp) (by simpa using hw1.ne (i := 1) (j := 0) rfl rfl (by decide))⟩
theorem fromNil_c  (w : World) : Calls Tryd.prog 59 #[SL none 0 0] w (Post w [] (fun v L => ∃ rb, v = Ptr rb 0 ∧ L = [⟨rb, [.nilIface, SL none 0 0], 204, (0, 0)⟩])) := by
 refine enter w [] 7 [] [SL none 0 0] Tryd.func59 rfl rfl (by simp) (BW (by simp) (by simp) (by simp)) ?_
 show JC _ _ _ [(0, SL none 0 0)] _
 refine AH (AB (AA _ (AE rfl) rfl ?_))
 refine AI (AC (AH (AB (AA _ (AF rfl) rfl ?_))))
 refine A7 (A2 108 [SL none 0 0] (SL none 0 0) (AS _ Tryd.call108 rfl) (fun w1 hw1 => scloneNil_c w1)) rfl ?_
 show JL _ _ _ _ ((4, SL none 0 0) :: _) []
 refine AA (.agg #[.nilIface, SL none 0 0]) (CP [(1, SL none 0 0)] _ rfl (fun _ => by kernel_rfl)) rfl ?_
 refine A4 (C5 (.agg #[.nilIface, SL none 0 0]) ([.nilIface, SL none 0 0]) rfl (by first | rfl | simp)) rfl ?_
 rintro v1 L1 ⟨nb1, hnb1, rfl, rfl⟩
 show JL _ _ _ _ ((6, Ptr nb1 0) :: _) [⟨nb1, [.nilIface, SL none 0 0], 204, (0, 0)⟩]
 refine AA _ (AE rfl) rfl ?_
 refine AI (AC (BI (BH (Ptr nb1 0) (res1 Tryd.results59 (BC rfl)) fun w1 hw1 => ?_)))
 exact ⟨_, _, rfl, ⟨nb1, rfl, rfl⟩, hw1.sub (by simp) (by simp)⟩
attribute [local irreducible] constL initL putL
theorem pright_c (ai : Option Addr) (ni ci : Nat) (l : List UInt64)  (w : World) (hl : l.length = ni) (hnm : ni ≤ 2000000) (hnc : ni ≤ ci) (hcm : ci ≤ maxLen) (hv : RdV w ai (cu64 l))  : Calls Tryd.prog 85 #[I64 32, SL ai ni ci] w (Post w [] (fun v L => v = .bool (decide (RightI l)) ∧ L = [])) := by
 have hmx : maxLen = 9223372036854775807 := rfl
 refine enter w [] 48 [] [I64 32, SL ai ni ci] Tryd.func85 rfl rfl (by simp) (BW (by simp) (by simp) (by simp)) ?_
 show JC _ _ _ [(0, I64 32), (1, SL ai ni ci)] _
 refine AH (AB (AA _ (AE rfl) rfl ?_))
 refine AI (AC (AH (AH (AB (AA _ (AF rfl) rfl ?_)))))
 refine AA (.bool (decide ((32:Int) < (0:Int)))) (AR rfl rfl fun _ => CH _ _) rfl ?_
 refine AA _ (AF rfl) rfl ?_
 refine AP 2 9 false _ _ rfl rfl (by decide) (AF rfl) rfl ?_
 refine AP 2 9 false _ (.bool (decide ((32:Int) < (32:Int)))) rfl rfl (by decide) (AR rfl rfl fun _ => DD _ _) rfl ?_
 refine AA _ (A3 _ rfl (by decide) rfl) rfl ?_
 refine AA _ (AF rfl) rfl ?_
 refine AP 6 13 false _ _ rfl rfl (by decide) (AF rfl) rfl ?_
 refine AP 6 13 false _ (I64 ni) rfl rfl (by decide) (DY BX rfl) rfl ?_
 refine AP 6 13 false _ (.bool (decide (((ni:Int)) < (1:Int)))) rfl rfl (by decide) (AR rfl rfl fun _ => CH _ _) rfl ?_
 refine AA _ (A3 _ rfl (by decide) rfl) rfl ?_
 refine AA _ (AF rfl) rfl ?_
 rcases Bool.eq_false_or_eq_true (decide (((ni:Int)) < (1:Int))) with hb1 | hb1
 ·
  have hp1 : ((ni:Int)) < (1:Int) := of_decide_eq_true hb1
  refine AG 11 18 false _ rfl rfl hb1 rfl ?_
  refine AG 11 18 false _ rfl rfl hb1 rfl ?_
  refine AG 11 18 false _ rfl rfl hb1 rfl ?_
  refine AA _ (BD _ rfl hb1 rfl) rfl ?_
  refine AI (AC (B3 _ rfl rfl ?_))
  refine AH (AB (AA _ (AE rfl) rfl ?_))
  refine AI (AC (BI (A1 (BH (.bool false) (res1 Tryd.results85 (BC rfl)) fun w1 hw1 => ?_))))
  refine ⟨_, [], rfl, ⟨congrArg Value.bool (Eq.symm (decide_eq_false (fun h => ?_))), rfl⟩, hw1.sub (by simp) (by simp)⟩
  first | (have := h.1; omega) | (have := h.2.1; omega) | exact h.2.2 i (by omega) (.inl ‹_›) | exact h.2.2 i (by omega) (.inr ⟨by omega, ‹_›⟩) | exact h.2.2 i (by omega) (.inl ((shr32 _).1 ‹_›))
 ·
  have hp1 : ¬ (((ni:Int)) < (1:Int)) := of_decide_eq_false hb1
  refine AP 11 18 false _ _ rfl rfl hb1 (AF rfl) rfl ?_
  refine AP 11 18 false _ (I64 ni) rfl rfl hb1 (DY BX rfl) rfl ?_
  refine AP 11 18 false _ (.bool (decide ((256:Int) < ((ni:Int))))) rfl rfl hb1 (AR rfl rfl fun _ => DD _ _) rfl ?_
  refine AA _ (A3 _ rfl hb1 rfl) rfl ?_
  refine AI (AC (B9 (decide ((256:Int) < ((ni:Int)))) rfl (fun hb2 => ?_) (fun hb2 => ?_)))
  ·
   have hp2 : (256:Int) < ((ni:Int)) := of_decide_eq_true hb2
   refine AH (AB (AA _ (AE rfl) rfl ?_))
   refine AI (AC (BI (A1 (BH (.bool false) (res1 Tryd.results85 (BC rfl)) fun w1 hw1 => ?_))))
   refine ⟨_, [], rfl, ⟨congrArg Value.bool (Eq.symm (decide_eq_false (fun h => ?_))), rfl⟩, hw1.sub (by simp) (by simp)⟩
   first | (have := h.1; omega) | (have := h.2.1; omega) | exact h.2.2 i (by omega) (.inl ‹_›) | exact h.2.2 i (by omega) (.inr ⟨by omega, ‹_›⟩) | exact h.2.2 i (by omega) (.inl ((shr32 _).1 ‹_›))
  ·
   have hp2 : ¬ ((256:Int) < ((ni:Int))) := of_decide_eq_false hb2
   refine BF (AC (AH (AH (AB (AA _ (AF rfl) rfl ?_)))))
   refine AA (I64 ni) (DY BX rfl) rfl ?_
   refine AA _ (AF rfl) rfl ?_
   refine AI (AC (B5 (EM (ι := Nat) (fun i => [(0, I64 32), (1, SL ai ni ci), (23, SL ai ni ci), (24, I64 ni), (25, I64 i)]) (fun i => []) (fun i => i ≤ ni ∧ ∀ k, k < i → ¬ IdxBad l k) (fun i => ni - i) 0 ⟨by omega, fun k hk => absurd hk (by omega)⟩ (Sub.all rfl) rfl ?_)))
   rintro i ⟨hx1, hx2⟩
   show JC _ _ _ [(0, I64 32), (1, SL ai ni ci), (23, SL ai ni ci), (24, I64 ni), (25, I64 i)] []
   refine AH (AB (AA (.bool (decide (((i:Int)) < ((ni:Int))))) (AR rfl rfl fun _ => CH _ _) rfl ?_))
   refine AI (AC (AH (B9 (decide (((i:Int)) < ((ni:Int)))) rfl (fun hb3 => ?_) (fun hb3 => ?_))))
   ·
    have hp3 : ((i:Int)) < ((ni:Int)) := of_decide_eq_true hb3
    refine BF (AC (AH (B5 (AH (AB (AA _ (AF rfl) rfl ?_))))))
    obtain ⟨bz1, oz1, hz1, hm1⟩ := RdV.pos hv (by rw [cu64_length, hl]; omega)
    refine AA (Ptr bz1 (i + oz1)) (EA 22 1 (i + oz1) BX A9 rfl hz1 rfl (by omega) (by omega) (by omega)) rfl ?_
    refine AA (U64 (g64 l i)) (AO rfl (A0 BN (DB (hm1.mem (by simp)) (Seg.get (g64_get (i := i) (by rw [hl]; omega))) (by first | omega | (simp; done) | (simp; omega))))) rfl ?_
    refine AA _ (AE rfl) rfl ?_
    refine AA _ (AE rfl) rfl ?_
    refine AI (AC (AH (AB (AA _ (AF rfl) rfl ?_))))
    refine AA _ (AF rfl) rfl ?_
    refine AA (U64 ((g64 l i) >>> (32:UInt64))) (AR rfl rfl fun _ => E8 (g64 l i) _ _ 32 (by decide) rfl) rfl ?_
    refine AA (.bool (decide (((g64 l i) >>> (32:UInt64)) ≠ (0:UInt64)))) (AR rfl rfl fun _ => bin_neq_u64 ((g64 l i) >>> (32:UInt64)) (0:UInt64)) rfl ?_
    refine AA _ (AF rfl) rfl ?_
    rcases Bool.eq_false_or_eq_true (decide (((g64 l i) >>> (32:UInt64)) ≠ (0:UInt64))) with hb4 | hb4
    ·
     have hp4 : ((g64 l i) >>> (32:UInt64)) ≠ (0:UInt64) := of_decide_eq_true hb4
     refine AG 4 34 false _ rfl rfl hb4 rfl ?_
     refine AG 4 34 false _ rfl rfl hb4 rfl ?_
     refine AG 4 34 false _ rfl rfl hb4 rfl ?_
     refine C8 7 37 true rfl rfl rfl ?_
     refine C8 7 37 true rfl rfl rfl ?_
     refine C8 7 37 true rfl rfl rfl ?_
     refine C8 7 37 true rfl rfl rfl ?_
     refine C8 7 37 true rfl rfl rfl ?_
     refine C8 7 37 true rfl rfl rfl ?_
     refine C8 7 37 true rfl rfl rfl ?_
     refine AG 4 34 false _ rfl rfl hb4 rfl ?_
     refine AA _ (BD _ rfl hb4 rfl) rfl ?_
     refine AI (AC (B3 _ rfl rfl ?_))
     refine AH (AB (AA _ (AE rfl) rfl ?_))
     refine AI (AC (BI (CD (A1 (A1 (CD (A1 (BH (.bool false) (res1 Tryd.results85 (BC rfl)) fun w1 hw1 => ?_))))))))
     refine ⟨_, [], rfl, ⟨congrArg Value.bool (Eq.symm (decide_eq_false (fun h => ?_))), rfl⟩, hw1.sub (by simp) (by simp)⟩
     first | (have := h.1; omega) | (have := h.2.1; omega) | exact h.2.2 i (by omega) (.inl ‹_›) | exact h.2.2 i (by omega) (.inr ⟨by omega, ‹_›⟩) | exact h.2.2 i (by omega) (.inl ((shr32 _).1 ‹_›))
    ·
     have hp4 : ¬ (((g64 l i) >>> (32:UInt64)) ≠ (0:UInt64)) := of_decide_eq_false hb4
     refine AP 4 34 false _ _ rfl rfl hb4 (AF rfl) rfl ?_
     refine AP 4 34 false _ (.bool (decide ((0:Int) < ((i:Int))))) rfl rfl hb4 (AR rfl rfl fun _ => DD _ _) rfl ?_
     refine AP 4 34 false _ _ rfl rfl hb4 (AF rfl) rfl ?_
     rcases Bool.eq_false_or_eq_true (decide ((0:Int) < ((i:Int)))) with hb5 | hb5
     ·
      have hp5 : (0:Int) < ((i:Int)) := of_decide_eq_true hb5
      refine AP 7 37 true _ _ rfl rfl hb5 (AF rfl) rfl ?_
      refine AP 7 37 true _ _ rfl rfl hb5 (AF rfl) rfl ?_
      refine AP 7 37 true _ (I64 ((i:Int) - 1)) rfl rfl hb5 (AR rfl rfl fun _ => EG _ _ ((i:Int) - 1) (by omega) (by omega)) rfl ?_
      refine AP 7 37 true _ (Ptr bz1 (i + oz1 - 1)) rfl rfl hb5 (EA 22 1 (i + oz1 - 1) BX A9 rfl hz1 rfl (by omega) (by omega) (by omega)) rfl ?_
      refine AP 7 37 true _ (U64 (g64 l (i - 1))) rfl rfl hb5 (AO rfl (A0 BN (DB (hm1.mem (by simp)) (Seg.get (g64_get (i := (i - 1)) (by rw [hl]; omega))) (by first | omega | (simp; done) | (simp; omega))))) rfl ?_
      refine AP 7 37 true _ _ rfl rfl hb5 (AF rfl) rfl ?_
      refine AP 7 37 true _ (.bool (decide ((g64 l i) ≤ (g64 l (i - 1))))) rfl rfl hb5 (AR rfl rfl fun _ => bin_geq_u64 (g64 l (i - 1)) (g64 l i)) rfl ?_
      refine AP 4 34 false _ _ rfl rfl hb4 (BD _ rfl hb5 rfl) rfl ?_
      refine AA _ (A3 _ rfl hb4 rfl) rfl ?_
      refine AI (AC (B9 (decide ((g64 l i) ≤ (g64 l (i - 1)))) rfl (fun hb6 => ?_) (fun hb6 => ?_)))
      ·
       have hp6 : (g64 l i) ≤ (g64 l (i - 1)) := of_decide_eq_true hb6
       refine AH (AB (AA _ (AE rfl) rfl ?_))
       refine AI (AC (BI (CD (A1 (A1 (CD (A1 (BH (.bool false) (res1 Tryd.results85 (BC rfl)) fun w1 hw1 => ?_))))))))
       refine ⟨_, [], rfl, ⟨congrArg Value.bool (Eq.symm (decide_eq_false (fun h => ?_))), rfl⟩, hw1.sub (by simp) (by simp)⟩
       first | (have := h.1; omega) | (have := h.2.1; omega) | exact h.2.2 i (by omega) (.inl ‹_›) | exact h.2.2 i (by omega) (.inr ⟨by omega, ‹_›⟩) | exact h.2.2 i (by omega) (.inl ((shr32 _).1 ‹_›))
      ·
       have hp6 : ¬ ((g64 l i) ≤ (g64 l (i - 1))) := of_decide_eq_false hb6
       refine BF (BS (AC (AB (AA (I64 ((i:Int) + 1)) (AR rfl rfl fun _ => DQ _ _ ((i:Int) + 1) (by omega) (by omega)) rfl ?_))))
       refine AA _ (AF rfl) rfl ?_
       refine AI (D0 (EV (i + 1) ⟨by omega, idx_step hx2 (fun hq => by rcases hq with hq | ⟨hq1, hq2⟩ <;> first | contradiction | omega | exact absurd ((shr32 _).2 hq) ‹_›)⟩ (by first | (simp; omega) | simp | (dsimp only; omega) | omega) (Sub.all rfl) rfl))
     ·
      have hp5 : ¬ ((0:Int) < ((i:Int))) := of_decide_eq_false hb5
      refine AG 7 37 true _ rfl rfl hb5 rfl ?_
      refine AG 7 37 true _ rfl rfl hb5 rfl ?_
      refine AG 7 37 true _ rfl rfl hb5 rfl ?_
      refine AG 7 37 true _ rfl rfl hb5 rfl ?_
      refine AG 7 37 true _ rfl rfl hb5 rfl ?_
      refine AG 7 37 true _ rfl rfl hb5 rfl ?_
      refine AG 7 37 true _ rfl rfl hb5 rfl ?_
      refine AP 4 34 false _ _ rfl rfl hb4 (A3 _ rfl hb5 rfl) rfl ?_
      refine AA _ (A3 _ rfl hb4 rfl) rfl ?_
      refine AI (AC (BP _ rfl rfl ?_))
      refine BF (BS (AC (AB (AA (I64 ((i:Int) + 1)) (AR rfl rfl fun _ => DQ _ _ ((i:Int) + 1) (by omega) (by omega)) rfl ?_))))
      refine AA _ (AF rfl) rfl ?_
      refine AI (D0 (EV (i + 1) ⟨by omega, idx_step hx2 (fun hq => by rcases hq with hq | ⟨hq1, hq2⟩ <;> first | contradiction | omega | exact absurd ((shr32 _).2 hq) ‹_›)⟩ (by first | (simp; omega) | simp | (dsimp only; omega) | omega) (Sub.all rfl) rfl))
   ·
    have hp3 : ¬ (((i:Int)) < ((ni:Int))) := of_decide_eq_false hb3
    refine ED (BJ (BJ (C1 (AC (AH (AB (AA _ (AE rfl) rfl ?_)))))))
    refine AI (AC (BI (BH (.bool true) (res1 Tryd.results85 (BC rfl)) fun w1 hw1 => ?_)))
    have e1 : i = ni := by omega
    subst e1
    exact ⟨_, [], rfl, ⟨congrArg Value.bool (Eq.symm (decide_eq_true ⟨by omega, by omega, by rw [hl]; exact hx2⟩)), rfl⟩, hw1.sub (by simp) (by simp)⟩
attribute [local irreducible] RightB
theorem right_c (i e : UInt64) (w : World) : Calls Tryd.prog 133 #[U64 i, U64 e] w (Post w [] (fun v L => v = .bool (RightB i e) ∧ L = [])) := by
 refine enter w [] 15 [] [U64 i, U64 e] Tryd.func133 rfl rfl (by simp) (BW (by simp) (by simp) (by simp)) ?_
 show JC _ _ _ [(0, U64 i), (1, U64 e)] _
 refine AH (AB (AA _ (AE rfl) rfl ?_))
 refine AI (AC (AH (AB (AA _ (AF rfl) rfl ?_))))
 refine AA (.bool (decide (i < (4294967296:UInt64)))) (AR rfl rfl fun _ => bin_lss_u64 i (4294967296:UInt64)) rfl ?_
 refine AA _ (AF rfl) rfl ?_
 rcases Bool.eq_false_or_eq_true (decide (i < (4294967296:UInt64))) with hb1 | hb1
 ·
  have hp1 : i < (4294967296:UInt64) := of_decide_eq_true hb1
  refine AP 2 7 true _ _ rfl rfl hb1 (AF rfl) rfl ?_
  refine AP 2 7 true _ (.bool (decide ((1:UInt64) ≤ e))) rfl rfl hb1 (AR rfl rfl fun _ => bin_geq_u64 e (1:UInt64)) rfl ?_
  refine AA _ (BD _ rfl hb1 rfl) rfl ?_
  refine AA _ (AF rfl) rfl ?_
  rcases Bool.eq_false_or_eq_true (decide ((1:UInt64) ≤ e)) with hb2 | hb2
  ·
   have hp2 : (1:UInt64) ≤ e := of_decide_eq_true hb2
   refine AP 6 11 true _ _ rfl rfl hb2 (AF rfl) rfl ?_
   refine AP 6 11 true _ (.bool (decide (e < (18446744073709551615:UInt64)))) rfl rfl hb2 (AR rfl rfl fun _ => bin_lss_u64 e (18446744073709551615:UInt64)) rfl ?_
   refine AA _ (BD _ rfl hb2 rfl) rfl ?_
   refine AA _ (AE rfl) rfl ?_
   refine AI (AC (BI (BH (.bool (decide (e < (18446744073709551615:UInt64)))) (res1 Tryd.results133 (BC rfl)) fun w1 hw1 => ?_)))
   refine ⟨_, [], rfl, ⟨congrArg Value.bool ?_, rfl⟩, hw1.sub (by simp) (by simp)⟩
   unfold RightB
   simp [*]
  ·
   have hp2 : ¬ ((1:UInt64) ≤ e) := of_decide_eq_false hb2
   refine AG 6 11 true _ rfl rfl hb2 rfl ?_
   refine AG 6 11 true _ rfl rfl hb2 rfl ?_
   refine AA _ (A3 _ rfl hb2 rfl) rfl ?_
   refine AA _ (AE rfl) rfl ?_
   refine AI (AC (BI (BH (.bool false) (res1 Tryd.results133 (BC rfl)) fun w1 hw1 => ?_)))
   refine ⟨_, [], rfl, ⟨congrArg Value.bool ?_, rfl⟩, hw1.sub (by simp) (by simp)⟩
   unfold RightB
   simp [*]
 ·
  have hp1 : ¬ (i < (4294967296:UInt64)) := of_decide_eq_false hb1
  refine AG 2 7 true _ rfl rfl hb1 rfl ?_
  refine AG 2 7 true _ rfl rfl hb1 rfl ?_
  refine AA _ (A3 _ rfl hb1 rfl) rfl ?_
  refine AA _ (AF rfl) rfl ?_
  refine AG 6 11 true _ rfl rfl rfl rfl ?_
  refine AG 6 11 true _ rfl rfl rfl rfl ?_
  refine AA _ (A3 _ rfl rfl rfl) rfl ?_
  refine AA _ (AE rfl) rfl ?_
  refine AI (AC (BI (BH (.bool false) (res1 Tryd.results133 (BC rfl)) fun w1 hw1 => ?_)))
  refine ⟨_, [], rfl, ⟨congrArg Value.bool ?_, rfl⟩, hw1.sub (by simp) (by simp)⟩
  unfold RightB
  simp [*]
theorem odd_c (ob : Nat) (kd : Int) (ai : Option Addr) (ni ci : Nat) (l : List UInt64) (sa : Option Addr) (ns sc : Nat) (ls : List SealR) (bl : UInt64) (e : UInt64) (d t : List UInt8)  (w : World) (hd : d.length = 32) (ht : t.length = 16) (hpos : 0 < ns) (hls : ls.length = ns) (hnn : ns ≤ 2000000) (hnd : ns ≤ sc) (hcn : sc ≤ maxLen) (hs : RdV w sa (ls.flatMap sealC)) (hO : RdA w ob 0 [I64 (kd), SL ai ni ci, SL sa ns sc, U64 bl])  : Calls Tryd.prog 132 #[.agg ([U64 e] ++ cu8 d ++ cu8 t).toArray, Ptr ob 0] w (Post w [] (fun v L => v = .bool (oddB (headE ls) e) ∧ L = [])) := by
 have hmx : maxLen = 9223372036854775807 := rfl
 refine enter (P := Tryd.prog) (f := 132) (fn := Tryd.f132) w [] 18 [] [.agg ([U64 e] ++ cu8 d ++ cu8 t).toArray, Ptr ob 0] Tryd.func132 rfl rfl (by simp) (BW (by simp) (by simp) (by simp)) ?_
 show JC _ _ _ [(0, .agg ([U64 e] ++ cu8 d ++ cu8 t).toArray), (1, Ptr ob 0)] _
 refine AH (AB (A4 (C5 (.agg ([U64 e] ++ cu8 d ++ cu8 t).toArray) ([U64 e] ++ cu8 d ++ cu8 t) rfl (by first | rfl | simp)) rfl ?_))
 rintro v1 L1 ⟨nb1, hnb1, rfl, rfl⟩
 show JL _ _ _ _ ((2, Ptr nb1 0) :: _) [⟨nb1, [U64 e] ++ cu8 d ++ cu8 t, 161, (0, 0)⟩]
 refine AA _ (AE rfl) rfl ?_
 refine AI (AC (AH ?_))
 rcases Bool.eq_false_or_eq_true (RightB (0:UInt64) e) with hb1 | hb1
 ·
  refine DC 18 2 [(0, Ptr nb1 0), (1, U64 e)] CA rfl (by decide +kernel) ?_
  refine CW ⟨[], [0, 1], [], [0, 1], [2]⟩ 2 _ rfl rfl (by decide +kernel) rfl ⟨⟨_, rfl, AL rfl (AD 0 22 1 CN rfl A9 rfl rfl)⟩, ⟨_, rfl, AL rfl (AO rfl (A0 BN (AU 0 rfl (AJ (AJ (Seg.head))))))⟩, trivial⟩ rfl (BO rfl (A2 133 [U64 0, U64 e] (.bool (RightB (0:UInt64) e)) (AS _ Tryd.call133 rfl) (fun w1 hw1 => right_c (0:UInt64) e w1 ))) ?_
  rintro v1 L1 ⟨rfl, rfl⟩
  obtain ⟨x1, hx1⟩ : ∃ x, ls[0]? = some x := ⟨_, List.getElem?_eq_getElem (by rw [hls]; omega)⟩
  obtain ⟨bz1, oz1, hz1, hm1⟩ := rows_at FM (by decide) hs hx1
  refine ⟨[(3, .bool (!(RightB (0:UInt64) e))), (4, .bool (!(RightB (0:UInt64) e))), (5, Ptr nb1 0), (6, U64 e), (7, Ptr ob 2), (8, SL sa ns sc), (9, Ptr bz1 oz1), (10, Ptr bz1 oz1), (11, U64 x1.e), (12, .bool (decide (e ≠ x1.e))), (13, .bool (decide (e ≠ x1.e))), (14, .bool (decide (e ≠ x1.e)))], ?_⟩
  show DP _ _ _ _ _ _ _ _ [_]
  refine DU ⟨[2], [0, 1, 3, 4, 5, 6, 7, 8, 9, 10, 11, 12, 13, 14], [0, 1], [3, 4, 5, 6, 7, 8, 9, 10, 11, 12, 13, 14], []⟩ rfl rfl (by decide +kernel) rfl ⟨⟨_, rfl, AL rfl (DG rfl)⟩, CG rfl rfl rfl, ⟨_, rfl, C3 4 8 false _ rfl rfl rfl (by rw [show (RightB (0:UInt64) e) = true from hb1] <;> rfl) (AD 0 22 1 CN rfl A9 rfl rfl)⟩, ⟨_, rfl, C3 4 8 false _ rfl rfl rfl (by rw [show (RightB (0:UInt64) e) = true from hb1] <;> rfl) (AO rfl (A0 BN (AU 0 rfl (AJ (AJ (Seg.head))))))⟩, ⟨_, rfl, C3 4 8 false _ rfl rfl rfl (by rw [show (RightB (0:UInt64) e) = true from hb1] <;> rfl) (AD 2 24 1 AZ rfl DE rfl rfl)⟩, ⟨_, rfl, C3 4 8 false _ rfl rfl rfl (by rw [show (RightB (0:UInt64) e) = true from hb1] <;> rfl) (AO rfl (A0 D9 (DB (hO.mem (by simp)) (AK (AK (Seg.head))) (by first | omega | (simp; done) | (simp; omega)))))⟩, ⟨_, rfl, C3 4 8 false _ rfl rfl rfl (by rw [show (RightB (0:UInt64) e) = true from hb1] <;> rfl) (EA 161 49 oz1 C4 B1 rfl hz1 rfl (by omega) (by omega) (by omega))⟩, ⟨_, rfl, C3 4 8 false _ rfl rfl rfl (by rw [show (RightB (0:UInt64) e) = true from hb1] <;> rfl) (AD 0 22 1 CN rfl A9 rfl rfl)⟩, ⟨_, rfl, C3 4 8 false _ rfl rfl rfl (by rw [show (RightB (0:UInt64) e) = true from hb1] <;> rfl) (AO rfl (A0 BN (DB (hm1.mem (by simp)) (AJ (AJ (Seg.head))) (by first | omega | (simp; done) | (simp; omega)))))⟩, ⟨_, rfl, C3 4 8 false _ rfl rfl rfl (by rw [show (RightB (0:UInt64) e) = true from hb1] <;> rfl) (AR rfl rfl fun _ => bin_neq_u64 e x1.e)⟩, ⟨_, rfl, AL rfl (A3 _ rfl (by rw [show (RightB (0:UInt64) e) = true from hb1] <;> rfl) rfl)⟩, ⟨_, rfl, AL rfl (AE rfl)⟩, trivial⟩ ?_
  refine C6 (F' := [(3, .bool (decide (e ≠ x1.e)))]) (by kernel_rfl) ?_
  refine AC (BI (BH (.bool (decide (e ≠ x1.e))) (res1 Tryd.results132 (BC rfl)) fun w1 hw1 => ?_))
  refine ⟨_, [], rfl, ⟨congrArg Value.bool ?_, rfl⟩, hw1.sub (by simp) (by simp)⟩
  first | (simp [oddB, *]; done) | (rw [headE_of hx1]; simp [oddB, *]; done)
 ·
  refine DC 18 2 [(0, Ptr nb1 0), (1, U64 e)] CA rfl (by decide +kernel) ?_
  refine CW ⟨[], [0, 1], [], [0, 1], [2]⟩ 2 _ rfl rfl (by decide +kernel) rfl ⟨⟨_, rfl, AL rfl (AD 0 22 1 CN rfl A9 rfl rfl)⟩, ⟨_, rfl, AL rfl (AO rfl (A0 BN (AU 0 rfl (AJ (AJ (Seg.head))))))⟩, trivial⟩ rfl (BO rfl (A2 133 [U64 0, U64 e] (.bool (RightB (0:UInt64) e)) (AS _ Tryd.call133 rfl) (fun w1 hw1 => right_c (0:UInt64) e w1 ))) ?_
  rintro v1 L1 ⟨rfl, rfl⟩
  refine ⟨[(3, .bool (!(RightB (0:UInt64) e))), (4, .bool (!(RightB (0:UInt64) e))), (5, undef), (6, undef), (7, undef), (8, undef), (9, undef), (10, undef), (11, undef), (12, undef), (13, .bool true), (14, .bool true)], ?_⟩
  show DP _ _ _ _ _ _ _ _ [_]
  refine DU ⟨[2], [0, 1, 3, 4, 5, 6, 7, 8, 9, 10, 11, 12, 13, 14], [0, 1], [3, 4, 5, 6, 7, 8, 9, 10, 11, 12, 13, 14], []⟩ rfl rfl (by decide +kernel) rfl ⟨⟨_, rfl, AL rfl (DG rfl)⟩, CG rfl rfl rfl, ⟨_, rfl, DN 4 8 false _ rfl rfl rfl (by rw [show (RightB (0:UInt64) e) = false from hb1] <;> rfl)⟩, ⟨_, rfl, DN 4 8 false _ rfl rfl rfl (by rw [show (RightB (0:UInt64) e) = false from hb1] <;> rfl)⟩, ⟨_, rfl, DN 4 8 false _ rfl rfl rfl (by rw [show (RightB (0:UInt64) e) = false from hb1] <;> rfl)⟩, ⟨_, rfl, DN 4 8 false _ rfl rfl rfl (by rw [show (RightB (0:UInt64) e) = false from hb1] <;> rfl)⟩, ⟨_, rfl, DN 4 8 false _ rfl rfl rfl (by rw [show (RightB (0:UInt64) e) = false from hb1] <;> rfl)⟩, ⟨_, rfl, DN 4 8 false _ rfl rfl rfl (by rw [show (RightB (0:UInt64) e) = false from hb1] <;> rfl)⟩, ⟨_, rfl, DN 4 8 false _ rfl rfl rfl (by rw [show (RightB (0:UInt64) e) = false from hb1] <;> rfl)⟩, ⟨_, rfl, DN 4 8 false _ rfl rfl rfl (by rw [show (RightB (0:UInt64) e) = false from hb1] <;> rfl)⟩, ⟨_, rfl, AL rfl (BD _ rfl (by rw [show (RightB (0:UInt64) e) = false from hb1] <;> rfl) rfl)⟩, ⟨_, rfl, AL rfl (AE rfl)⟩, trivial⟩ ?_
  refine C6 (F' := [(3, .bool true)]) (by kernel_rfl) ?_
  refine AC (BI (BH (.bool true) (res1 Tryd.results132 (BC rfl)) fun w1 hw1 => ?_))
  refine ⟨_, [], rfl, ⟨congrArg Value.bool ?_, rfl⟩, hw1.sub (by simp) (by simp)⟩
  first | (simp [oddB, *]; done) | (rw [headE_of hx1]; simp [oddB, *]; done)
theorem ixOdd_c (ob : Nat) (kd : Int) (ai : Option Addr) (ni ci : Nat) (l : List UInt64) (sa : Option Addr) (ns sc : Nat) (ls : List SealR) (bl : UInt64)  (w : World) (hls : ls.length = ns) (hnn : ns ≤ 2000000) (hnd : ns ≤ sc) (hcn : sc ≤ maxLen) (hs : RdV w sa (ls.flatMap sealC)) (hO : RdA w ob 0 [I64 (kd), SL ai ni ci, SL sa ns sc, U64 bl])  : Calls Tryd.prog 158 #[SL sa ns sc, .func (.func 132) #[] #[Ptr ob 0]] w (Post w [] (fun v L => v = I64 (findIx (fun x => oddB (headE ls) (SealR.e x)) ls) ∧ L = [])) := by
 have hmx : maxLen = 9223372036854775807 := rfl
 refine enter w [] 19 [] [SL sa ns sc, .func (.func 132) #[] #[Ptr ob 0]] Tryd.func158 rfl rfl (by simp) (BW (by simp) (by simp) (by simp)) ?_
 show JC _ _ _ [(0, SL sa ns sc), (1, .func (.func 132) #[] #[Ptr ob 0])] _
 refine AH (AB (AA _ (AE rfl) rfl ?_))
 refine AI (AC (AH (AH (AB (AA _ (AF rfl) rfl ?_)))))
 refine AA (I64 ns) (DY C4 rfl) rfl ?_
 refine AA _ (AF rfl) rfl ?_
 refine AI (AC (B5 (EM (ι := Nat) (fun i => [(0, SL sa ns sc), (1, .func (.func 132) #[] #[Ptr ob 0]), (7, I64 ns), (8, I64 i)]) (fun i => []) (fun i => i ≤ ns ∧ ∀ k, k < i → ∀ y, ls[k]? = some y → (fun x => oddB (headE ls) (SealR.e x)) y = false) (fun i => ns - i) 0 ⟨by omega, fun k hk => absurd hk (by omega)⟩ (Sub.all rfl) rfl ?_)))
 rintro i ⟨hi1, hi2⟩
 show JC _ _ _ [(0, SL sa ns sc), (1, .func (.func 132) #[] #[Ptr ob 0]), (7, I64 ns), (8, I64 i)] []
 refine AH (AB (AA (.bool (decide (((i:Int)) < ((ns:Int))))) (AR rfl rfl fun _ => CH _ _) rfl ?_))
 refine AI (AC (AH (B9 (decide (((i:Int)) < ((ns:Int)))) rfl (fun hb1 => ?_) (fun hb1 => ?_))))
 ·
  have hp1 : ((i:Int)) < ((ns:Int)) := of_decide_eq_true hb1
  refine BF (AC (AH (B5 (AH (AB (AA _ (AF rfl) rfl ?_))))))
  refine AA _ (AE rfl) rfl ?_
  refine AI (AC (AH (AB (AA _ (AF rfl) rfl ?_))))
  refine AA _ (AF rfl) rfl ?_
  refine AA _ (AF rfl) rfl ?_
  obtain ⟨x1, hx1⟩ : ∃ x, ls[i]? = some x := ⟨_, List.getElem?_eq_getElem (by rw [hls]; omega)⟩
  obtain ⟨bz1, oz1, hz1, hm1⟩ := rows_at FM (by decide) hs hx1
  refine AA (Ptr bz1 (49*i + oz1)) (EA 161 49 (49*i + oz1) C4 B1 rfl hz1 rfl (by omega) (by omega) (by omega)) rfl ?_
  refine AA (.agg ([U64 x1.e] ++ cu8 x1.d ++ cu8 x1.t).toArray) (AO rfl (BU D5 B1 (by simp [x1.hd, x1.ht]) (DB (hm1.mem (by simp)) (AQ _) (by first | omega | (simp; done) | (simp; omega))))) rfl ?_
  refine A7 (A2 132 [.agg ([U64 x1.e] ++ cu8 x1.d ++ cu8 x1.t).toArray, Ptr ob 0] (.bool (oddB (headE ls) x1.e)) (Cl_clo [.agg ([U64 x1.e] ++ cu8 x1.d ++ cu8 x1.t).toArray] [Ptr ob 0] Tryd.call132 rfl rfl) (fun w1 hw1 => odd_c ob kd ai ni ci l sa ns sc ls bl x1.e x1.d x1.t w1 x1.hd x1.ht (by omega) hls hnn hnd hcn (C2 hw1 rfl hs) (RdA_at hw1 hO (by simp) (by simp)))) rfl ?_
  show JL _ _ _ _ ((16, .bool (oddB (headE ls) x1.e)) :: _) []
  refine AI (AC (B9 (oddB (headE ls) x1.e) rfl (fun hb2 => ?_) (fun hb2 => ?_)))
  ·
   refine AH (AB (AA _ (AF rfl) rfl ?_))
   refine AA _ (AE rfl) rfl ?_
   refine AI (AC (BI (CD (A1 (A1 (CD (A1 (BH (I64 i) (res1 Tryd.results158 (BC rfl)) fun w1 hw1 => ?_))))))))
   have e1 : findIx (fun x => oddB (headE ls) (SealR.e x)) ls = i := findIx_at hx1 (by assumption) hi2
   exact ⟨_, [], rfl, ⟨by rw [e1], rfl⟩, hw1.sub (by simp) (by simp)⟩
  ·
   refine BF (BS (AC (AB (AA (I64 ((i:Int) + 1)) (AR rfl rfl fun _ => DQ _ _ ((i:Int) + 1) (by omega) (by omega)) rfl ?_))))
   refine AA _ (AF rfl) rfl ?_
   refine AI (D0 (EV (i + 1) ⟨by omega, find_step hx1 (by assumption) hi2⟩ (by first | (simp; omega) | simp | (dsimp only; omega) | omega) (Sub.all rfl) rfl))
 ·
  have hp1 : ¬ (((i:Int)) < ((ns:Int))) := of_decide_eq_false hb1
  refine ED (BJ (BJ (C1 (AC (AH (AB (AA _ (AE rfl) rfl ?_)))))))
  refine AI (AC (BI (BH (I64 (-1:Int)) (res1 Tryd.results158 (BC rfl)) fun w1 hw1 => ?_)))
  have e1 : findIx (fun x => oddB (headE ls) (SealR.e x)) ls = -1 := findIx_no (by rw [hls]; intro k hk; exact hi2 k (by omega))
  exact ⟨_, [], rfl, ⟨by rw [e1], rfl⟩, hw1.sub (by simp) (by simp)⟩
theorem cfOdd_c (ob : Nat) (kd : Int) (ai : Option Addr) (ni ci : Nat) (l : List UInt64) (sa : Option Addr) (ns sc : Nat) (ls : List SealR) (bl : UInt64)  (w : World) (hls : ls.length = ns) (hnn : ns ≤ 2000000) (hnd : ns ≤ sc) (hcn : sc ≤ maxLen) (hs : RdV w sa (ls.flatMap sealC)) (hO : RdA w ob 0 [I64 (kd), SL ai ni ci, SL sa ns sc, U64 bl])  : Calls Tryd.prog 134 #[SL sa ns sc, .func (.func 132) #[] #[Ptr ob 0]] w (Post w [] (fun v L => v = .bool (ls.any (fun x => oddB (headE ls) (SealR.e x))) ∧ L = [])) := by
 refine enter w [] 9 [] [SL sa ns sc, .func (.func 132) #[] #[Ptr ob 0]] Tryd.func134 rfl rfl (by simp) (BW (by simp) (by simp) (by simp)) ?_
 show JC _ _ _ [(0, SL sa ns sc), (1, .func (.func 132) #[] #[Ptr ob 0])] _
 refine AH (AB (AA _ (AE rfl) rfl ?_))
 refine AI (AC (AH (AB (AA _ (AF rfl) rfl ?_))))
 refine AA _ (AF rfl) rfl ?_
 refine A7 (A2 158 [SL sa ns sc, .func (.func 132) #[] #[Ptr ob 0]] (I64 ((findIx (fun x => oddB (headE ls) (SealR.e x)) ls))) (AS _ Tryd.call158 rfl) (fun w1 hw1 => ixOdd_c ob kd ai ni ci l sa ns sc ls bl w1 hls hnn hnd hcn (C2 hw1 rfl hs) (RdA_at hw1 hO (by simp) (by simp)))) rfl ?_
 show JL _ _ _ _ ((7, I64 ((findIx (fun x => oddB (headE ls) (SealR.e x)) ls))) :: _) []
 refine AA (.bool (decide ((0:Int) ≤ ((findIx (fun x => oddB (headE ls) (SealR.e x)) ls))))) (AR rfl rfl fun _ => EZ _ _) rfl ?_
 refine AA _ (AE rfl) rfl ?_
 refine AI (AC (BI (BH (.bool (decide ((0:Int) ≤ ((findIx (fun x => oddB (headE ls) (SealR.e x)) ls))))) (res1 Tryd.results134 (BC rfl)) fun w1 hw1 => ?_)))
 exact ⟨_, [], rfl, ⟨congrArg Value.bool (findIx_ge _ _), rfl⟩, hw1.sub (by simp) (by simp)⟩
attribute [local irreducible] oddB
theorem right13_c (kd : Int) (ai : Option Addr) (ni ci : Nat) (l : List UInt64) (sa : Option Addr) (ns sc : Nat) (ls : List SealR) (bl : UInt64)  (w : World) (hl : l.length = ni) (hnm : ni ≤ 2000000) (hnc : ni ≤ ci) (hcm : ci ≤ maxLen) (hv : RdV w ai (cu64 l)) (hls : ls.length = ns) (hnn : ns ≤ 2000000) (hnd : ns ≤ sc) (hcn : sc ≤ maxLen) (hs : RdV w sa (ls.flatMap sealC))  : Calls Tryd.prog 69 #[.agg #[I64 (kd), SL ai ni ci, SL sa ns sc, U64 bl]] w (Post w [] (fun v L => v = .bool (RightO kd l ls bl) ∧ L = [])) := by
 have hmx : maxLen = 9223372036854775807 := rfl
 refine enter (P := Tryd.prog) (f := 69) (fn := Tryd.f69) w [] 69 [] [.agg #[I64 (kd), SL ai ni ci, SL sa ns sc, U64 bl]] Tryd.func69 rfl rfl (by simp) (BW (by simp) (by simp) (by simp)) ?_
 show JC _ _ _ [(0, .agg #[I64 (kd), SL ai ni ci, SL sa ns sc, U64 bl])] _
 refine AH (AB (A4 (C5 (.agg #[I64 (kd), SL ai ni ci, SL sa ns sc, U64 bl]) ([I64 (kd), SL ai ni ci, SL sa ns sc, U64 bl]) rfl (by first | rfl | simp)) rfl ?_))
 rintro v1 L1 ⟨nb1, hnb1, rfl, rfl⟩
 show JL _ _ _ _ ((1, Ptr nb1 0) :: _) [⟨nb1, [I64 (kd), SL ai ni ci, SL sa ns sc, U64 bl], 26, (0, 0)⟩]
 refine AA _ (AE rfl) rfl ?_
 refine AI (AC (AH (AB (AA (.func (.func 132) #[] #[Ptr nb1 0]) (Ev_makeFunc (vs := [Ptr nb1 0]) rfl (fun _ _ => rfl)) rfl ?_))))
 refine AA _ (AE rfl) rfl ?_
 refine AI (AC (AH (AH (AB (AA (Ptr nb1 0) (AD 0 3 1 AZ rfl AT rfl rfl) rfl ?_)))))
 refine AA (I64 (kd)) (AO rfl (A0 AY (AU 0 rfl (Seg.head)))) rfl ?_
 refine AI (AC (B5 (AH (AB (AA (.bool (decide ((kd) = (1:Int)))) (AR rfl rfl fun _ => BK _ _) rfl ?_)))))
 refine AA _ (AE rfl) rfl ?_
 refine AI (AC (B9 (decide ((kd) = (1:Int))) rfl (fun hb1 => ?_) (fun hb1 => ?_)))
 ·
  have hp1 : (kd) = (1:Int) := of_decide_eq_true hb1
  refine AH (AB (AA (Ptr nb1 3) (AD 3 22 1 AZ rfl A9 rfl rfl) rfl ?_))
  refine AA (U64 bl) (AO rfl (A0 BN (AU 0 rfl (AK (AK (AK (Seg.head))))))) rfl ?_
  refine AA (.bool (decide (bl = (0:UInt64)))) (AR rfl rfl fun _ => E9 bl (0:UInt64)) rfl ?_
  refine AA _ (AF rfl) rfl ?_
  rcases Bool.eq_false_or_eq_true (decide (bl = (0:UInt64))) with hb2 | hb2
  ·
   have hp2 : bl = (0:UInt64) := of_decide_eq_true hb2
   refine AP 3 12 true _ (Ptr nb1 1) rfl rfl hb2 (AD 1 23 1 AZ rfl B2 rfl rfl) rfl ?_
   refine AP 3 12 true _ (SL ai ni ci) rfl rfl hb2 (AO rfl (A0 CQ (AU 0 rfl (AK (Seg.head))))) rfl ?_
   refine DL 3 12 true _ rfl rfl hb2 (A2 85 [I64 32, SL ai ni ci] (.bool (decide (RightI l))) (AS _ Tryd.call85 rfl) (fun w1 hw1 => pright_c ai ni ci l w1 hl (by omega) (by omega) (by omega) (C2 hw1 rfl hv))) rfl ?_
   rintro v1 L1 ⟨rfl, rfl⟩
   show JL _ _ _ _ ((15, .bool (decide (RightI l))) :: _) [_]
   refine AA _ (BD _ rfl hb2 rfl) rfl ?_
   refine AA _ (AF rfl) rfl ?_
   rcases Bool.eq_false_or_eq_true (decide (RightI l)) with hb3 | hb3
   ·
    have hp3 : RightI l := of_decide_eq_true hb3
    refine AP 8 17 true _ (Ptr nb1 2) rfl rfl hb3 (AD 2 24 1 AZ rfl DE rfl rfl) rfl ?_
    refine AP 8 17 true _ (SL sa ns sc) rfl rfl hb3 (AO rfl (A0 D9 (AU 0 rfl (AK (AK (Seg.head)))))) rfl ?_
    refine AP 8 17 true _ (I64 ns) rfl rfl hb3 (DY C4 rfl) rfl ?_
    refine AP 8 17 true _ (Ptr nb1 1) rfl rfl hb3 (AD 1 23 1 AZ rfl B2 rfl rfl) rfl ?_
    refine AP 8 17 true _ (SL ai ni ci) rfl rfl hb3 (AO rfl (A0 CQ (AU 0 rfl (AK (Seg.head))))) rfl ?_
    refine AP 8 17 true _ (I64 ni) rfl rfl hb3 (DY BX rfl) rfl ?_
    refine AP 8 17 true _ (.bool (decide (((ns:Int)) = ((ni:Int))))) rfl rfl hb3 (AR rfl rfl fun _ => BK _ _) rfl ?_
    refine AA _ (BD _ rfl hb3 rfl) rfl ?_
    refine AA _ (AF rfl) rfl ?_
    rcases Bool.eq_false_or_eq_true (decide (((ns:Int)) = ((ni:Int)))) with hb4 | hb4
    ·
     have hp4 : ((ns:Int)) = ((ni:Int)) := of_decide_eq_true hb4
     refine AP 17 26 true _ (Ptr nb1 2) rfl rfl hb4 (AD 2 24 1 AZ rfl DE rfl rfl) rfl ?_
     refine AP 17 26 true _ (SL sa ns sc) rfl rfl hb4 (AO rfl (A0 D9 (AU 0 rfl (AK (AK (Seg.head)))))) rfl ?_
     refine AP 17 26 true _ _ rfl rfl hb4 (AF rfl) rfl ?_
     refine DL 17 26 true _ rfl rfl hb4 (A2 134 [SL sa ns sc, .func (.func 132) #[] #[Ptr nb1 0]] (.bool (ls.any (fun x => oddB (headE ls) (SealR.e x)))) (AS _ Tryd.call134 rfl) (fun w1 hw1 => cfOdd_c nb1 (kd) ai ni ci l sa ns sc ls bl w1 hls (by omega) (by omega) (by omega) (C2 hw1 rfl hs) (RdA.of hw1 (AU 0 rfl (AQ _)) (by simp)))) rfl ?_
     rintro v1 L1 ⟨rfl, rfl⟩
     show JL _ _ _ _ ((30, .bool (ls.any (fun x => oddB (headE ls) (SealR.e x)))) :: _) [_]
     refine AP 17 26 true _ (.bool (!(ls.any (fun x => oddB (headE ls) (SealR.e x))))) rfl rfl hb4 (DG rfl) rfl ?_
     refine AA _ (BD _ rfl hb4 rfl) rfl ?_
     refine AA _ (AE rfl) rfl ?_
     refine AI (AC (BI (CD (A1 (B4 [false] ?_)))))
     show JQ _ _ _ _ []
     refine BH (.bool (!(ls.any (fun x => oddB (headE ls) (SealR.e x))))) (res1 EN (BC rfl)) fun w1 hw1 => ?_
     refine ⟨_, [], rfl, ⟨congrArg Value.bool ?_, rfl⟩, hw1.sub (by simp) (by simp)⟩
     unfold RightO
     rw [hl, hls]
     first | (simp [*]; done) | (simp [*]; omega)
    ·
     have hp4 : ¬ (((ns:Int)) = ((ni:Int))) := of_decide_eq_false hb4
     refine AG 17 26 true _ rfl rfl hb4 rfl ?_
     refine AG 17 26 true _ rfl rfl hb4 rfl ?_
     refine AG 17 26 true _ rfl rfl hb4 rfl ?_
     refine AG 17 26 true _ rfl rfl hb4 rfl ?_
     refine AG 17 26 true _ rfl rfl hb4 rfl ?_
     refine AA _ (A3 _ rfl hb4 rfl) rfl ?_
     refine AA _ (AE rfl) rfl ?_
     refine AI (AC (BI (CD (A1 (B4 [false] ?_)))))
     show JQ _ _ _ _ []
     refine BH (.bool false) (res1 EN (BC rfl)) fun w1 hw1 => ?_
     refine ⟨_, [], rfl, ⟨congrArg Value.bool ?_, rfl⟩, hw1.sub (by simp) (by simp)⟩
     unfold RightO
     rw [hl, hls]
     first | (simp [*]; done) | (simp [*]; omega)
   ·
    have hp3 : ¬ (RightI l) := of_decide_eq_false hb3
    refine AG 8 17 true _ rfl rfl hb3 rfl ?_
    refine AG 8 17 true _ rfl rfl hb3 rfl ?_
    refine AG 8 17 true _ rfl rfl hb3 rfl ?_
    refine AG 8 17 true _ rfl rfl hb3 rfl ?_
    refine AG 8 17 true _ rfl rfl hb3 rfl ?_
    refine AG 8 17 true _ rfl rfl hb3 rfl ?_
    refine AG 8 17 true _ rfl rfl hb3 rfl ?_
    refine AA _ (A3 _ rfl hb3 rfl) rfl ?_
    refine AA _ (AF rfl) rfl ?_
    refine AG 17 26 true _ rfl rfl rfl rfl ?_
    refine AG 17 26 true _ rfl rfl rfl rfl ?_
    refine AG 17 26 true _ rfl rfl rfl rfl ?_
    refine AG 17 26 true _ rfl rfl rfl rfl ?_
    refine AG 17 26 true _ rfl rfl rfl rfl ?_
    refine AA _ (A3 _ rfl rfl rfl) rfl ?_
    refine AA _ (AE rfl) rfl ?_
    refine AI (AC (BI (CD (A1 (B4 [false] ?_)))))
    show JQ _ _ _ _ []
    refine BH (.bool false) (res1 EN (BC rfl)) fun w1 hw1 => ?_
    refine ⟨_, [], rfl, ⟨congrArg Value.bool ?_, rfl⟩, hw1.sub (by simp) (by simp)⟩
    unfold RightO
    rw [hl, hls]
    first | (simp [*]; done) | (simp [*]; omega)
  ·
   have hp2 : ¬ (bl = (0:UInt64)) := of_decide_eq_false hb2
   refine AG 3 12 true _ rfl rfl hb2 rfl ?_
   refine AG 3 12 true _ rfl rfl hb2 rfl ?_
   refine AG 3 12 true _ rfl rfl hb2 rfl ?_
   refine AA _ (A3 _ rfl hb2 rfl) rfl ?_
   refine AA _ (AF rfl) rfl ?_
   refine AG 8 17 true _ rfl rfl rfl rfl ?_
   refine AG 8 17 true _ rfl rfl rfl rfl ?_
   refine AG 8 17 true _ rfl rfl rfl rfl ?_
   refine AG 8 17 true _ rfl rfl rfl rfl ?_
   refine AG 8 17 true _ rfl rfl rfl rfl ?_
   refine AG 8 17 true _ rfl rfl rfl rfl ?_
   refine AG 8 17 true _ rfl rfl rfl rfl ?_
   refine AA _ (A3 _ rfl rfl rfl) rfl ?_
   refine AA _ (AF rfl) rfl ?_
   refine AG 17 26 true _ rfl rfl rfl rfl ?_
   refine AG 17 26 true _ rfl rfl rfl rfl ?_
   refine AG 17 26 true _ rfl rfl rfl rfl ?_
   refine AG 17 26 true _ rfl rfl rfl rfl ?_
   refine AG 17 26 true _ rfl rfl rfl rfl ?_
   refine AA _ (A3 _ rfl rfl rfl) rfl ?_
   refine AA _ (AE rfl) rfl ?_
   refine AI (AC (BI (CD (A1 (B4 [false] ?_)))))
   show JQ _ _ _ _ []
   refine BH (.bool false) (res1 EN (BC rfl)) fun w1 hw1 => ?_
   refine ⟨_, [], rfl, ⟨congrArg Value.bool ?_, rfl⟩, hw1.sub (by simp) (by simp)⟩
   unfold RightO
   rw [hl, hls]
   first | (simp [*]; done) | (simp [*]; omega)
 ·
  have hp1 : ¬ ((kd) = (1:Int)) := of_decide_eq_false hb1
  refine AH (AB (AA (.bool (decide ((kd) = (2:Int)))) (AR rfl rfl fun _ => BK _ _) rfl ?_))
  refine AA _ (AE rfl) rfl ?_
  refine AI (AC (B9 (decide ((kd) = (2:Int))) rfl (fun hb5 => ?_) (fun hb5 => ?_)))
  ·
   have hp5 : (kd) = (2:Int) := of_decide_eq_true hb5
   refine AH (AB (AA (Ptr nb1 3) (AD 3 22 1 AZ rfl A9 rfl rfl) rfl ?_))
   refine AA (U64 bl) (AO rfl (A0 BN (AU 0 rfl (AK (AK (AK (Seg.head))))))) rfl ?_
   refine AA (.bool (decide (bl = (0:UInt64)))) (AR rfl rfl fun _ => E9 bl (0:UInt64)) rfl ?_
   refine AA _ (AF rfl) rfl ?_
   rcases Bool.eq_false_or_eq_true (decide (bl = (0:UInt64))) with hb6 | hb6
   ·
    have hp6 : bl = (0:UInt64) := of_decide_eq_true hb6
    refine AP 3 38 true _ (Ptr nb1 1) rfl rfl hb6 (AD 1 23 1 AZ rfl B2 rfl rfl) rfl ?_
    refine AP 3 38 true _ (SL ai ni ci) rfl rfl hb6 (AO rfl (A0 CQ (AU 0 rfl (AK (Seg.head))))) rfl ?_
    refine DL 3 38 true _ rfl rfl hb6 (A2 85 [I64 32, SL ai ni ci] (.bool (decide (RightI l))) (AS _ Tryd.call85 rfl) (fun w1 hw1 => pright_c ai ni ci l w1 hl (by omega) (by omega) (by omega) (C2 hw1 rfl hv))) rfl ?_
    rintro v1 L1 ⟨rfl, rfl⟩
    show JL _ _ _ _ ((41, .bool (decide (RightI l))) :: _) [_]
    refine AA _ (BD _ rfl hb6 rfl) rfl ?_
    refine AA _ (AF rfl) rfl ?_
    rcases Bool.eq_false_or_eq_true (decide (RightI l)) with hb7 | hb7
    ·
     have hp7 : RightI l := of_decide_eq_true hb7
     refine AP 8 43 true _ (Ptr nb1 2) rfl rfl hb7 (AD 2 24 1 AZ rfl DE rfl rfl) rfl ?_
     refine AP 8 43 true _ (SL sa ns sc) rfl rfl hb7 (AO rfl (A0 D9 (AU 0 rfl (AK (AK (Seg.head)))))) rfl ?_
     refine AP 8 43 true _ (I64 ns) rfl rfl hb7 (DY C4 rfl) rfl ?_
     refine AP 8 43 true _ (.bool (decide (((ns:Int)) = (0:Int)))) rfl rfl hb7 (AR rfl rfl fun _ => BK _ _) rfl ?_
     refine AA _ (BD _ rfl hb7 rfl) rfl ?_
     refine AA _ (AE rfl) rfl ?_
     refine AI (AC (BI (CD (A1 (B4 [false] ?_)))))
     show JQ _ _ _ _ []
     refine BH (.bool (decide (((ns:Int)) = (0:Int)))) (res1 EN (BC rfl)) fun w1 hw1 => ?_
     refine ⟨_, [], rfl, ⟨congrArg Value.bool ?_, rfl⟩, hw1.sub (by simp) (by simp)⟩
     unfold RightO
     rw [hl, hls]
     first | (simp [*]; done) | (simp [*]; omega)
    ·
     have hp7 : ¬ (RightI l) := of_decide_eq_false hb7
     refine AG 8 43 true _ rfl rfl hb7 rfl ?_
     refine AG 8 43 true _ rfl rfl hb7 rfl ?_
     refine AG 8 43 true _ rfl rfl hb7 rfl ?_
     refine AG 8 43 true _ rfl rfl hb7 rfl ?_
     refine AA _ (A3 _ rfl hb7 rfl) rfl ?_
     refine AA _ (AE rfl) rfl ?_
     refine AI (AC (BI (CD (A1 (B4 [false] ?_)))))
     show JQ _ _ _ _ []
     refine BH (.bool false) (res1 EN (BC rfl)) fun w1 hw1 => ?_
     refine ⟨_, [], rfl, ⟨congrArg Value.bool ?_, rfl⟩, hw1.sub (by simp) (by simp)⟩
     unfold RightO
     rw [hl, hls]
     first | (simp [*]; done) | (simp [*]; omega)
   ·
    have hp6 : ¬ (bl = (0:UInt64)) := of_decide_eq_false hb6
    refine AG 3 38 true _ rfl rfl hb6 rfl ?_
    refine AG 3 38 true _ rfl rfl hb6 rfl ?_
    refine AG 3 38 true _ rfl rfl hb6 rfl ?_
    refine AA _ (A3 _ rfl hb6 rfl) rfl ?_
    refine AA _ (AF rfl) rfl ?_
    refine AG 8 43 true _ rfl rfl rfl rfl ?_
    refine AG 8 43 true _ rfl rfl rfl rfl ?_
    refine AG 8 43 true _ rfl rfl rfl rfl ?_
    refine AG 8 43 true _ rfl rfl rfl rfl ?_
    refine AA _ (A3 _ rfl rfl rfl) rfl ?_
    refine AA _ (AE rfl) rfl ?_
    refine AI (AC (BI (CD (A1 (B4 [false] ?_)))))
    show JQ _ _ _ _ []
    refine BH (.bool false) (res1 EN (BC rfl)) fun w1 hw1 => ?_
    refine ⟨_, [], rfl, ⟨congrArg Value.bool ?_, rfl⟩, hw1.sub (by simp) (by simp)⟩
    unfold RightO
    rw [hl, hls]
    first | (simp [*]; done) | (simp [*]; omega)
  ·
   have hp5 : ¬ ((kd) = (2:Int)) := of_decide_eq_false hb5
   refine AH (AB (AA (.bool (decide ((kd) = (3:Int)))) (AR rfl rfl fun _ => BK _ _) rfl ?_))
   refine AA _ (AE rfl) rfl ?_
   refine AI (AC (B9 (decide ((kd) = (3:Int))) rfl (fun hb8 => ?_) (fun hb8 => ?_)))
   ·
    have hp8 : (kd) = (3:Int) := of_decide_eq_true hb8
    refine AH (AB (AA (Ptr nb1 1) (AD 1 23 1 AZ rfl B2 rfl rfl) rfl ?_))
    refine AA (SL ai ni ci) (AO rfl (A0 CQ (AU 0 rfl (AK (Seg.head))))) rfl ?_
    refine AA (I64 ni) (DY BX rfl) rfl ?_
    refine AA (Ptr nb1 2) (AD 2 24 1 AZ rfl DE rfl rfl) rfl ?_
    refine AA (SL sa ns sc) (AO rfl (A0 D9 (AU 0 rfl (AK (AK (Seg.head)))))) rfl ?_
    refine AA (I64 ns) (DY C4 rfl) rfl ?_
    refine AA (I64 ((ni:Int) + (ns:Int))) (AR rfl rfl fun _ => DQ _ _ ((ni:Int) + (ns:Int)) (by omega) (by omega)) rfl ?_
    refine AA (.bool (decide (((ni:Int) + (ns:Int)) = (0:Int)))) (AR rfl rfl fun _ => BK _ _) rfl ?_
    refine AA _ (AF rfl) rfl ?_
    rcases Bool.eq_false_or_eq_true (decide (((ni:Int) + (ns:Int)) = (0:Int))) with hb9 | hb9
    ·
     have hp9 : ((ni:Int) + (ns:Int)) = (0:Int) := of_decide_eq_true hb9
     refine AP 8 59 true _ (Ptr nb1 3) rfl rfl hb9 (AD 3 22 1 AZ rfl A9 rfl rfl) rfl ?_
     refine AP 8 59 true _ (U64 bl) rfl rfl hb9 (AO rfl (A0 BN (AU 0 rfl (AK (AK (AK (Seg.head))))))) rfl ?_
     refine AP 8 59 true _ (.bool (decide ((1:UInt64) ≤ bl))) rfl rfl hb9 (AR rfl rfl fun _ => bin_geq_u64 bl (1:UInt64)) rfl ?_
     refine AA _ (BD _ rfl hb9 rfl) rfl ?_
     refine AA _ (AF rfl) rfl ?_
     rcases Bool.eq_false_or_eq_true (decide ((1:UInt64) ≤ bl)) with hb10 | hb10
     ·
      have hp10 : (1:UInt64) ≤ bl := of_decide_eq_true hb10
      refine AP 13 64 true _ (Ptr nb1 3) rfl rfl hb10 (AD 3 22 1 AZ rfl A9 rfl rfl) rfl ?_
      refine AP 13 64 true _ (U64 bl) rfl rfl hb10 (AO rfl (A0 BN (AU 0 rfl (AK (AK (AK (Seg.head))))))) rfl ?_
      refine AP 13 64 true _ (.bool (decide (bl ≤ (4294967296:UInt64)))) rfl rfl hb10 (AR rfl rfl fun _ => bin_leq_u64 bl (4294967296:UInt64)) rfl ?_
      refine AA _ (BD _ rfl hb10 rfl) rfl ?_
      refine AA _ (AE rfl) rfl ?_
      refine AI (AC (BI (CD (A1 (B4 [false] ?_)))))
      show JQ _ _ _ _ []
      refine BH (.bool (decide (bl ≤ (4294967296:UInt64)))) (res1 EN (BC rfl)) fun w1 hw1 => ?_
      refine ⟨_, [], rfl, ⟨congrArg Value.bool ?_, rfl⟩, hw1.sub (by simp) (by simp)⟩
      unfold RightO
      rw [hl, hls]
      first | (simp [*]; done) | (simp [*]; omega)
     ·
      have hp10 : ¬ ((1:UInt64) ≤ bl) := of_decide_eq_false hb10
      refine AG 13 64 true _ rfl rfl hb10 rfl ?_
      refine AG 13 64 true _ rfl rfl hb10 rfl ?_
      refine AG 13 64 true _ rfl rfl hb10 rfl ?_
      refine AA _ (A3 _ rfl hb10 rfl) rfl ?_
      refine AA _ (AE rfl) rfl ?_
      refine AI (AC (BI (CD (A1 (B4 [false] ?_)))))
      show JQ _ _ _ _ []
      refine BH (.bool false) (res1 EN (BC rfl)) fun w1 hw1 => ?_
      refine ⟨_, [], rfl, ⟨congrArg Value.bool ?_, rfl⟩, hw1.sub (by simp) (by simp)⟩
      unfold RightO
      rw [hl, hls]
      first | (simp [*]; done) | (simp [*]; omega)
    ·
     have hp9 : ¬ (((ni:Int) + (ns:Int)) = (0:Int)) := of_decide_eq_false hb9
     refine AG 8 59 true _ rfl rfl hb9 rfl ?_
     refine AG 8 59 true _ rfl rfl hb9 rfl ?_
     refine AG 8 59 true _ rfl rfl hb9 rfl ?_
     refine AA _ (A3 _ rfl hb9 rfl) rfl ?_
     refine AA _ (AF rfl) rfl ?_
     refine AG 13 64 true _ rfl rfl rfl rfl ?_
     refine AG 13 64 true _ rfl rfl rfl rfl ?_
     refine AG 13 64 true _ rfl rfl rfl rfl ?_
     refine AA _ (A3 _ rfl rfl rfl) rfl ?_
     refine AA _ (AE rfl) rfl ?_
     refine AI (AC (BI (CD (A1 (B4 [false] ?_)))))
     show JQ _ _ _ _ []
     refine BH (.bool false) (res1 EN (BC rfl)) fun w1 hw1 => ?_
     refine ⟨_, [], rfl, ⟨congrArg Value.bool ?_, rfl⟩, hw1.sub (by simp) (by simp)⟩
     unfold RightO
     rw [hl, hls]
     first | (simp [*]; done) | (simp [*]; omega)
   ·
    have hp8 : ¬ ((kd) = (3:Int)) := of_decide_eq_false hb8
    refine BF (BS (AC (AH (AB (AA _ (AE rfl) rfl ?_)))))
    refine AI (AC (BI (B4 [false] ?_)))
    show JQ _ _ _ _ []
    refine BH (.bool false) (res1 EN (BC rfl)) fun w1 hw1 => ?_
    refine ⟨_, [], rfl, ⟨congrArg Value.bool ?_, rfl⟩, hw1.sub (by simp) (by simp)⟩
    unfold RightO
    rw [hl, hls]
    first | (simp [*]; done) | (simp [*]; omega)
end Go.Proofs.YtkdpdgpphpngeaaDoor
namespace Go.Proofs.YtkdpdgpphpngeaaDoor
open Go Go.Sx
open Go.Value renaming slice → SL
attribute [local irreducible] mid zr8 numK valK constL initL putL RightB
theorem eq64_c (ai : Option Addr) (ni ci : Nat) (l : List UInt64) (ai2 : Option Addr) (ni2 ci2 : Nat) (l2 : List UInt64)  (w : World) (hl : l.length = ni) (hnm : ni ≤ 2000000) (hnc : ni ≤ ci) (hcm : ci ≤ maxLen) (hv : RdV w ai (cu64 l)) (hl2 : l2.length = ni2) (hnm2 : ni2 ≤ 2000000) (hnc2 : ni2 ≤ ci2) (hcm2 : ci2 ≤ maxLen) (hv2 : RdV w ai2 (cu64 l2))  : Calls Tryd.prog 115 #[SL ai ni ci, SL ai2 ni2 ci2] w (Post w [] (fun v L => v = .bool (decide (l = l2)) ∧ L = [])) := by
 have hmx : maxLen = 9223372036854775807 := rfl
 refine enter w [] 26 [] [SL ai ni ci, SL ai2 ni2 ci2] Tryd.func115 rfl rfl (by simp) (BW (by simp) (by simp) (by simp)) ?_
 show JC _ _ _ [(0, SL ai ni ci), (1, SL ai2 ni2 ci2)] _
 refine AH (AB (AA _ (AE rfl) rfl ?_))
 refine AI (AC (AH (AH (AB (AA _ (AF rfl) rfl ?_)))))
 refine AA (I64 ni) (DY BX rfl) rfl ?_
 refine AA _ (AF rfl) rfl ?_
 refine AA (I64 ni2) (DY BX rfl) rfl ?_
 refine AA (.bool (decide (((ni:Int)) ≠ ((ni2:Int))))) (AR rfl rfl fun _ => FO _ _) rfl ?_
 refine AI (AC (B9 (decide (((ni:Int)) ≠ ((ni2:Int)))) rfl (fun hb1 => ?_) (fun hb1 => ?_)))
 ·
  have hp1 : ((ni:Int)) ≠ ((ni2:Int)) := of_decide_eq_true hb1
  refine AH (AB (AA _ (AE rfl) rfl ?_))
  refine AI (AC (BI (A1 (BH (.bool false) (res1 Tryd.results115 (BC rfl)) fun w1 hw1 => ?_))))
  refine ⟨_, [], rfl, ⟨congrArg Value.bool ?_, rfl⟩, hw1.sub (by simp) (by simp)⟩
  refine (decide_eq_false (fun h => ?_)).symm
  first | (have := congrArg List.length h; omega) | exact list_ne (g64_at (i := i) (by omega)) (g64_at (i := i) (by omega)) (by assumption) h
 ·
  have hp1 : ¬ (((ni:Int)) ≠ ((ni2:Int))) := of_decide_eq_false hb1
  refine BF (AC (AH (AH (AB (AA _ (AF rfl) rfl ?_)))))
  refine AA (I64 ni) (DY BX rfl) rfl ?_
  refine AA _ (AF rfl) rfl ?_
  refine AI (AC (B5 (EM (ι := Nat) (fun i => [(0, SL ai ni ci), (1, SL ai2 ni2 ci2), (12, I64 ni), (13, I64 i)]) (fun i => []) (fun i => i ≤ ni ∧ ∀ k, k < i → ∀ x y, l[k]? = some x → l2[k]? = some y → x = y) (fun i => ni - i) 0 ⟨by omega, fun k hk => absurd hk (by omega)⟩ (Sub.all rfl) rfl ?_)))
  rintro i ⟨hi1, hi2⟩
  show JC _ _ _ [(0, SL ai ni ci), (1, SL ai2 ni2 ci2), (12, I64 ni), (13, I64 i)] []
  refine AH (AB (AA (.bool (decide (((i:Int)) < ((ni:Int))))) (AR rfl rfl fun _ => CH _ _) rfl ?_))
  refine AI (AC (AH (B9 (decide (((i:Int)) < ((ni:Int)))) rfl (fun hb2 => ?_) (fun hb2 => ?_))))
  ·
   have hp2 : ((i:Int)) < ((ni:Int)) := of_decide_eq_true hb2
   refine BF (AC (AH (B5 (AH (AB (AA _ (AF rfl) rfl ?_))))))
   refine AA _ (AE rfl) rfl ?_
   refine AI (AC (AH ?_))
   obtain ⟨bz1, oz1, hz1, hm1⟩ := RdV.pos hv (by rw [cu64_length, hl]; omega)
   obtain ⟨bz2, oz2, hz2, hm2⟩ := RdV.pos hv2 (by rw [cu64_length, hl2]; omega)
   refine DC 26 1 [(0, SL ai ni ci), (1, I64 i), (2, Ptr bz1 (i + oz1)), (3, U64 (g64 l i)), (4, SL ai2 ni2 ci2), (5, I64 i), (6, Ptr bz2 (i + oz2)), (7, U64 (g64 l2 i)), (8, .bool (decide ((g64 l i) ≠ (g64 l2 i))))] CA rfl (by decide +kernel) ?_
   refine DU ⟨[], [0, 1, 2, 3, 4, 5, 6, 7, 8], [], [0, 1, 2, 3, 4, 5, 6, 7, 8], []⟩ rfl rfl (by decide +kernel) rfl ⟨CG rfl rfl rfl, CG rfl rfl rfl, ⟨_, rfl, AL rfl (EA 22 1 (i + oz1) BX A9 rfl hz1 rfl (by omega) (by omega) (by omega))⟩, ⟨_, rfl, AL rfl (AO rfl (A0 BN (DB (hm1.mem (by simp)) (Seg.get (g64_get (i := i) (by rw [hl]; omega))) (by first | omega | (simp; done) | (simp; omega)))))⟩, CG rfl rfl rfl, CG rfl rfl rfl, ⟨_, rfl, AL rfl (EA 22 1 (i + oz2) BX A9 rfl hz2 rfl (by omega) (by omega) (by omega))⟩, ⟨_, rfl, AL rfl (AO rfl (A0 BN (DB (hm2.mem (by simp)) (Seg.get (g64_get (i := i) (by rw [hl2]; omega))) (by first | omega | (simp; done) | (simp; omega)))))⟩, ⟨_, rfl, AL rfl (AR rfl rfl fun _ => bin_neq_u64 (g64 l i) (g64 l2 i))⟩, trivial⟩ ?_
   refine C6 (F' := [(16, SL ai ni ci), (17, I64 i), (18, Ptr bz1 (i + oz1)), (19, U64 (g64 l i)), (20, SL ai2 ni2 ci2), (21, I64 i), (22, Ptr bz2 (i + oz2)), (23, U64 (g64 l2 i)), (24, .bool (decide ((g64 l i) ≠ (g64 l2 i)))), (0, SL ai ni ci), (1, SL ai2 ni2 ci2), (12, I64 ni), (13, I64 i), (14, .bool (decide (((i:Int)) < ((ni:Int))))), (15, I64 i), (5, I64 i)]) (by kernel_rfl) ?_
   refine AC (B9 (decide ((g64 l i) ≠ (g64 l2 i))) rfl (fun hb3 => ?_) (fun hb3 => ?_))
   ·
    have hp3 : (g64 l i) ≠ (g64 l2 i) := of_decide_eq_true hb3
    refine AH (AB (AA _ (AE rfl) rfl ?_))
    refine AI (AC (BI (CD (A1 (A1 (CD (A1 (BH (.bool false) (res1 Tryd.results115 (BC rfl)) fun w1 hw1 => ?_))))))))
    refine ⟨_, [], rfl, ⟨congrArg Value.bool ?_, rfl⟩, hw1.sub (by simp) (by simp)⟩
    refine (decide_eq_false (fun h => ?_)).symm
    first | (have := congrArg List.length h; omega) | exact list_ne (g64_at (i := i) (by omega)) (g64_at (i := i) (by omega)) (by assumption) h
   ·
    have hp3 : ¬ ((g64 l i) ≠ (g64 l2 i)) := of_decide_eq_false hb3
    refine BF (BS (AC (AB (AA (I64 ((i:Int) + 1)) (AR rfl rfl fun _ => DQ _ _ ((i:Int) + 1) (by omega) (by omega)) rfl ?_))))
    refine AA _ (AF rfl) rfl ?_
    refine AI (D0 (EV (i + 1) ⟨by omega, eq_step (g64_at (i := i) (by omega)) (g64_at (i := i) (by omega)) (Classical.not_not.1 (by assumption)) hi2⟩ (by first | (simp; omega) | simp | (dsimp only; omega) | omega) (Sub.all rfl) rfl))
  ·
   have hp2 : ¬ (((i:Int)) < ((ni:Int))) := of_decide_eq_false hb2
   refine ED (BJ (BJ (C1 (AC (AH (AB (AA _ (AE rfl) rfl ?_)))))))
   refine AI (AC (BI (BH (.bool true) (res1 Tryd.results115 (BC rfl)) fun w1 hw1 => ?_)))
   refine ⟨_, [], rfl, ⟨congrArg Value.bool ?_, rfl⟩, hw1.sub (by simp) (by simp)⟩
   exact (decide_eq_true (list_eq (by omega) (by rw [hl]; intro k hk; exact hi2 k (by omega)))).symm
theorem eqS_c (sa : Option Addr) (ns sc : Nat) (ls : List SealR) (sa2 : Option Addr) (ns2 sc2 : Nat) (ls2 : List SealR)  (w : World) (hls : ls.length = ns) (hnn : ns ≤ 2000000) (hnd : ns ≤ sc) (hcn : sc ≤ maxLen) (hs : RdV w sa (ls.flatMap sealC)) (hls2 : ls2.length = ns2) (hnn2 : ns2 ≤ 2000000) (hnd2 : ns2 ≤ sc2) (hcn2 : sc2 ≤ maxLen) (hs2 : RdV w sa2 (ls2.flatMap sealC))  : Calls Tryd.prog 116 #[SL sa ns sc, SL sa2 ns2 sc2] w (Post w [] (fun v L => v = .bool (decide (ls = ls2)) ∧ L = [])) := by
 have hmx : maxLen = 9223372036854775807 := rfl
 refine enter w [] 26 [] [SL sa ns sc, SL sa2 ns2 sc2] Tryd.func116 rfl rfl (by simp) (BW (by simp) (by simp) (by simp)) ?_
 show JC _ _ _ [(0, SL sa ns sc), (1, SL sa2 ns2 sc2)] _
 refine AH (AB (AA _ (AE rfl) rfl ?_))
 refine AI (AC (AH (AH (AB (AA _ (AF rfl) rfl ?_)))))
 refine AA (I64 ns) (DY C4 rfl) rfl ?_
 refine AA _ (AF rfl) rfl ?_
 refine AA (I64 ns2) (DY C4 rfl) rfl ?_
 refine AA (.bool (decide (((ns:Int)) ≠ ((ns2:Int))))) (AR rfl rfl fun _ => FO _ _) rfl ?_
 refine AI (AC (B9 (decide (((ns:Int)) ≠ ((ns2:Int)))) rfl (fun hb1 => ?_) (fun hb1 => ?_)))
 ·
  have hp1 : ((ns:Int)) ≠ ((ns2:Int)) := of_decide_eq_true hb1
  refine AH (AB (AA _ (AE rfl) rfl ?_))
  refine AI (AC (BI (A1 (BH (.bool false) (res1 Tryd.results116 (BC rfl)) fun w1 hw1 => ?_))))
  refine ⟨_, [], rfl, ⟨congrArg Value.bool ?_, rfl⟩, hw1.sub (by simp) (by simp)⟩
  refine (decide_eq_false (fun h => ?_)).symm
  first | (have := congrArg List.length h; omega) | exact absurd h h
 ·
  have hp1 : ¬ (((ns:Int)) ≠ ((ns2:Int))) := of_decide_eq_false hb1
  refine BF (AC (AH (AH (AB (AA _ (AF rfl) rfl ?_)))))
  refine AA (I64 ns) (DY C4 rfl) rfl ?_
  refine AA _ (AF rfl) rfl ?_
  refine AI (AC (B5 (EM (ι := Nat) (fun i => [(0, SL sa ns sc), (1, SL sa2 ns2 sc2), (12, I64 ns), (13, I64 i)]) (fun i => []) (fun i => i ≤ ns ∧ ∀ k, k < i → ∀ x y, ls[k]? = some x → ls2[k]? = some y → x = y) (fun i => ns - i) 0 ⟨by omega, fun k hk => absurd hk (by omega)⟩ (Sub.all rfl) rfl ?_)))
  rintro i ⟨hi1, hi2⟩
  show JC _ _ _ [(0, SL sa ns sc), (1, SL sa2 ns2 sc2), (12, I64 ns), (13, I64 i)] []
  refine AH (AB (AA (.bool (decide (((i:Int)) < ((ns:Int))))) (AR rfl rfl fun _ => CH _ _) rfl ?_))
  refine AI (AC (AH (B9 (decide (((i:Int)) < ((ns:Int)))) rfl (fun hb2 => ?_) (fun hb2 => ?_))))
  ·
   have hp2 : ((i:Int)) < ((ns:Int)) := of_decide_eq_true hb2
   refine BF (AC (AH (B5 (AH (AB (AA _ (AF rfl) rfl ?_))))))
   refine AA _ (AE rfl) rfl ?_
   refine AI (AC (AH ?_))
   obtain ⟨x1, hx1⟩ : ∃ x, ls[i]? = some x := ⟨_, List.getElem?_eq_getElem (by rw [hls]; omega)⟩
   obtain ⟨bz1, oz1, hz1, hm1⟩ := rows_at FM (by decide) hs hx1
   obtain ⟨x2, hx2⟩ : ∃ x, ls2[i]? = some x := ⟨_, List.getElem?_eq_getElem (by rw [hls2]; omega)⟩
   obtain ⟨bz2, oz2, hz2, hm2⟩ := rows_at FM (by decide) hs2 hx2
   refine DC 26 1 [(0, SL sa ns sc), (1, I64 i), (2, Ptr bz1 (49*i + oz1)), (3, .agg ([U64 x1.e] ++ cu8 x1.d ++ cu8 x1.t).toArray), (4, SL sa2 ns2 sc2), (5, I64 i), (6, Ptr bz2 (49*i + oz2)), (7, .agg ([U64 x2.e] ++ cu8 x2.d ++ cu8 x2.t).toArray), (8, .bool (!(decide (x1.e = x2.e ∧ x1.d = x2.d ∧ x1.t = x2.t))))] CA rfl (by decide +kernel) ?_
   refine DU ⟨[], [0, 1, 2, 3, 4, 5, 6, 7, 8], [], [0, 1, 2, 3, 4, 5, 6, 7, 8], []⟩ rfl rfl (by decide +kernel) rfl ⟨CG rfl rfl rfl, CG rfl rfl rfl, ⟨_, rfl, AL rfl (EA 161 49 (49*i + oz1) C4 B1 rfl hz1 rfl (by omega) (by omega) (by omega))⟩, ⟨_, rfl, AL rfl (AO rfl (BU D5 B1 (by simp [x1.hd, x1.ht]) (DB (hm1.mem (by simp)) (AQ _) (by first | omega | (simp; done) | (simp; omega)))))⟩, CG rfl rfl rfl, CG rfl rfl rfl, ⟨_, rfl, AL rfl (EA 161 49 (49*i + oz2) C4 B1 rfl hz2 rfl (by omega) (by omega) (by omega))⟩, ⟨_, rfl, AL rfl (AO rfl (BU D5 B1 (by simp [x2.hd, x2.ht]) (DB (hm2.mem (by simp)) (AQ _) (by first | omega | (simp; done) | (simp; omega)))))⟩, ⟨_, rfl, AL rfl (C7 _ _ _ rfl rfl (fun _ => eqGuard_agg _ _ _ _ _ _ (by kernel_rfl)) (neq_struct (x1.e = x2.e ∧ x1.d = x2.d ∧ x1.t = x2.t) (EqV.struct (d := 9999) (by kernel_rfl) (by kernel_rfl) (by kernel_rfl) (EqRs.cons 22 0 (U64 x1.e) (U64 x2.e) _ _ _ (PartV.one BN (AJ (AJ (Seg.head)))) (PartV.one BN (AJ (AJ (Seg.head)))) (EqV.u64 (d := 9998) AW x1.e x2.e) (EqRs.cons 159 1 (.agg (cu8 x1.d).toArray) (.agg (cu8 x2.d).toArray) _ _ _ (PartV.agg Tryd.isAgg159 Tryd.sizeOf159 (Seg.cut (AJ (Seg.right 1 0 rfl rfl (AQ _))) (EW x1.hd) (by omega))) (PartV.agg Tryd.isAgg159 Tryd.sizeOf159 (Seg.cut (AJ (Seg.right 1 0 rfl rfl (AQ _))) (EW x2.hd) (by omega))) (EqV.arr8 (d := 9997) Tryd.underlying159 DI Tryd.isAgg5 Tryd.cells5 Tryd.has5 (by simp [x1.hd]) (by simp [x2.hd])) (EqRs.last 27 33 (.agg (cu8 x1.t).toArray) (.agg (cu8 x2.t).toArray) _ (PartV.agg Tryd.isAgg27 CI (Seg.cut (Seg.right 33 0 (by simp [x1.hd]) rfl (AQ _)) (EW x1.ht) (by omega))) (PartV.agg Tryd.isAgg27 CI (Seg.cut (Seg.right 33 0 (by simp [x2.hd]) rfl (AQ _)) (EW x2.ht) (by omega))) (EqV.arr8 (d := 9997) CF DI Tryd.isAgg5 Tryd.cells5 Tryd.has5 (by simp [x1.ht]) (by simp [x2.ht])))))) (by first | rfl | (simp only [Bool.decide_and, Bool.and_assoc]; done) | (simp only [Bool.beq_eq_decide_eq, Bool.decide_and, Bool.and_assoc]; done) | (simp [Bool.and_assoc]; done))))⟩, trivial⟩ ?_
   refine C6 (F' := [(16, SL sa ns sc), (17, I64 i), (18, Ptr bz1 (49*i + oz1)), (19, .agg ([U64 x1.e] ++ cu8 x1.d ++ cu8 x1.t).toArray), (20, SL sa2 ns2 sc2), (21, I64 i), (22, Ptr bz2 (49*i + oz2)), (23, .agg ([U64 x2.e] ++ cu8 x2.d ++ cu8 x2.t).toArray), (24, .bool (!(decide (x1.e = x2.e ∧ x1.d = x2.d ∧ x1.t = x2.t)))), (0, SL sa ns sc), (1, SL sa2 ns2 sc2), (12, I64 ns), (13, I64 i), (14, .bool (decide (((i:Int)) < ((ns:Int))))), (15, I64 i), (5, I64 i)]) (by kernel_rfl) ?_
   refine AC (B9 (!(decide (x1.e = x2.e ∧ x1.d = x2.d ∧ x1.t = x2.t))) rfl (fun hb3 => ?_) (fun hb3 => ?_))
   ·
    have hb4 : (decide (x1.e = x2.e ∧ x1.d = x2.d ∧ x1.t = x2.t)) = false := by first | simpa using hb3 | exact Eq.mp (Bool.not_eq_true' _) hb3
    have hp4 : ¬ (x1.e = x2.e ∧ x1.d = x2.d ∧ x1.t = x2.t) := of_decide_eq_false hb4
    refine AH (AB (AA _ (AE rfl) rfl ?_))
    refine AI (AC (BI (CD (A1 (A1 (CD (A1 (BH (.bool false) (res1 Tryd.results116 (BC rfl)) fun w1 hw1 => ?_))))))))
    refine ⟨_, [], rfl, ⟨congrArg Value.bool ?_, rfl⟩, hw1.sub (by simp) (by simp)⟩
    refine (decide_eq_false (fun h => ?_)).symm
    first | (have := congrArg List.length h; omega) | exact list_ne hx1 hx2 (fun e => (by assumption : ¬ _) ((SealR.eq_iff _ _).1 e)) h
   ·
    have hb5 : (decide (x1.e = x2.e ∧ x1.d = x2.d ∧ x1.t = x2.t)) = true := by first | simpa using hb3 | exact Eq.mp (Bool.not_eq_false' _) hb3
    have hp5 : x1.e = x2.e ∧ x1.d = x2.d ∧ x1.t = x2.t := of_decide_eq_true hb5
    refine BF (BS (AC (AB (AA (I64 ((i:Int) + 1)) (AR rfl rfl fun _ => DQ _ _ ((i:Int) + 1) (by omega) (by omega)) rfl ?_))))
    refine AA _ (AF rfl) rfl ?_
    refine AI (D0 (EV (i + 1) ⟨by omega, eq_step hx1 hx2 ((SealR.eq_iff _ _).2 (by first | assumption | exact Classical.not_not.1 (by assumption))) hi2⟩ (by first | (simp; omega) | simp | (dsimp only; omega) | omega) (Sub.all rfl) rfl))
  ·
   have hp2 : ¬ (((i:Int)) < ((ns:Int))) := of_decide_eq_false hb2
   refine ED (BJ (BJ (C1 (AC (AH (AB (AA _ (AE rfl) rfl ?_)))))))
   refine AI (AC (BI (BH (.bool true) (res1 Tryd.results116 (BC rfl)) fun w1 hw1 => ?_)))
   refine ⟨_, [], rfl, ⟨congrArg Value.bool ?_, rfl⟩, hw1.sub (by simp) (by simp)⟩
   exact (decide_eq_true (list_eq (by omega) (by rw [hls]; intro k hk; exact hi2 k (by omega)))).symm
theorem same13_c (pv ep : UInt64) (kd : Int) (ai : Option Addr) (ni ci : Nat) (l : List UInt64) (sa : Option Addr) (ns sc : Nat) (ls : List SealR) (bl : UInt64) (tg : List UInt8) (pv2 ep2 : UInt64) (kd2 : Int) (ai2 : Option Addr) (ni2 ci2 : Nat) (l2 : List UInt64) (sa2 : Option Addr) (ns2 sc2 : Nat) (ls2 : List SealR) (bl2 : UInt64) (tg2 : List UInt8)  (w : World) (hl : l.length = ni) (hnm : ni ≤ 2000000) (hnc : ni ≤ ci) (hcm : ci ≤ maxLen) (hv : RdV w ai (cu64 l)) (hls : ls.length = ns) (hnn : ns ≤ 2000000) (hnd : ns ≤ sc) (hcn : sc ≤ maxLen) (hs : RdV w sa (ls.flatMap sealC)) (htg : tg.length = 16) (hl2 : l2.length = ni2) (hnm2 : ni2 ≤ 2000000) (hnc2 : ni2 ≤ ci2) (hcm2 : ci2 ≤ maxLen) (hv2 : RdV w ai2 (cu64 l2)) (hls2 : ls2.length = ns2) (hnn2 : ns2 ≤ 2000000) (hnd2 : ns2 ≤ sc2) (hcn2 : sc2 ≤ maxLen) (hs2 : RdV w sa2 (ls2.flatMap sealC)) (htg2 : tg2.length = 16)  : Calls Tryd.prog 49 #[.agg ([U64 pv, U64 ep, I64 (kd), SL ai ni ci, SL sa ns sc, U64 bl] ++ cu8 tg).toArray, .agg ([U64 pv2, U64 ep2, I64 (kd2), SL ai2 ni2 ci2, SL sa2 ns2 sc2, U64 bl2] ++ cu8 tg2).toArray] w (Post w [] (fun v L => v = .bool (decide (pv = pv2 ∧ ep = ep2 ∧ tg = tg2 ∧ kd = kd2 ∧ bl = bl2 ∧ l = l2 ∧ ls = ls2)) ∧ L = [])) := by
 have hmx : maxLen = 9223372036854775807 := rfl
 refine enter (P := Tryd.prog) (f := 49) (fn := Tryd.f49) w [] 58 [] [.agg ([U64 pv, U64 ep, I64 (kd), SL ai ni ci, SL sa ns sc, U64 bl] ++ cu8 tg).toArray, .agg ([U64 pv2, U64 ep2, I64 (kd2), SL ai2 ni2 ci2, SL sa2 ns2 sc2, U64 bl2] ++ cu8 tg2).toArray] Tryd.func49 rfl rfl (by simp) (BW (by simp) (by simp) (by simp)) ?_
 show JC _ _ _ [(0, .agg ([U64 pv, U64 ep, I64 (kd), SL ai ni ci, SL sa ns sc, U64 bl] ++ cu8 tg).toArray), (1, .agg ([U64 pv2, U64 ep2, I64 (kd2), SL ai2 ni2 ci2, SL sa2 ns2 sc2, U64 bl2] ++ cu8 tg2).toArray)] _
 refine AH (AB (A4 (C5 (.agg ([U64 pv, U64 ep, I64 (kd), SL ai ni ci, SL sa ns sc, U64 bl] ++ cu8 tg).toArray) ([U64 pv, U64 ep, I64 (kd), SL ai ni ci, SL sa ns sc, U64 bl] ++ cu8 tg) rfl (by first | rfl | simp)) rfl ?_))
 rintro v1 L1 ⟨nb1, hnb1, rfl, rfl⟩
 show JL _ _ _ _ ((2, Ptr nb1 0) :: _) [⟨nb1, [U64 pv, U64 ep, I64 (kd), SL ai ni ci, SL sa ns sc, U64 bl] ++ cu8 tg, 29, (0, 0)⟩]
 refine A4 (C5 (.agg ([U64 pv2, U64 ep2, I64 (kd2), SL ai2 ni2 ci2, SL sa2 ns2 sc2, U64 bl2] ++ cu8 tg2).toArray) ([U64 pv2, U64 ep2, I64 (kd2), SL ai2 ni2 ci2, SL sa2 ns2 sc2, U64 bl2] ++ cu8 tg2) rfl (by first | rfl | simp)) rfl ?_
 rintro v1 L1 ⟨nb2, hnb2, rfl, rfl⟩
 show JL _ _ _ _ ((3, Ptr nb2 0) :: _) [_, ⟨nb2, [U64 pv2, U64 ep2, I64 (kd2), SL ai2 ni2 ci2, SL sa2 ns2 sc2, U64 bl2] ++ cu8 tg2, 29, (0, 0)⟩]
 refine AA _ (AE rfl) rfl ?_
 refine AI (AC (AH (DC 58 5 [(0, Ptr nb1 2), (1, .agg #[I64 (kd), SL ai ni ci, SL sa ns sc, U64 bl]), (2, Ptr nb2 2), (3, .agg #[I64 (kd2), SL ai2 ni2 ci2, SL sa2 ns2 sc2, U64 bl2])] CA rfl (by decide +kernel) ?_)))
 refine DP_two ⟨[], [0, 1, 2, 3], [], [0, 1, 2, 3], [4, 5]⟩ 4 5 _ _ rfl rfl (by decide +kernel) rfl ⟨⟨_, rfl, AL rfl (AD 2 26 4 AV rfl BL rfl rfl)⟩, ⟨_, rfl, AL rfl (AO rfl (BU EK BL rfl (AU 0 rfl (D6 (p := [U64 pv, U64 ep]) (q := cu8 tg) (vs := [I64 (kd), SL ai ni ci, SL sa ns sc, U64 bl]) (by first | rfl | (simp only [List.append_assoc, List.nil_append, List.append_nil, List.cons_append]; done)) rfl))))⟩, ⟨_, rfl, AL rfl (AD 2 26 4 AV rfl BL rfl rfl)⟩, ⟨_, rfl, AL rfl (AO rfl (BU EK BL rfl (AU 1 rfl (D6 (p := [U64 pv2, U64 ep2]) (q := cu8 tg2) (vs := [I64 (kd2), SL ai2 ni2 ci2, SL sa2 ns2 sc2, U64 bl2]) (by first | rfl | (simp only [List.append_assoc, List.nil_append, List.append_nil, List.cons_append]; done)) rfl))))⟩, trivial⟩ rfl rfl (BO rfl (C0 _ ([I64 0, SL none 0 0, SL none 0 0, U64 0]) Tryd.zeroValue26 (by kernel_rfl))) (BO rfl (C0 _ ([I64 0, SL none 0 0, SL none 0 0, U64 0]) Tryd.zeroValue26 (by kernel_rfl))) ?_ ?_
 ·
  rintro v1 L1 ⟨nb3, hnb3, rfl, rfl⟩
  refine ⟨[], ?_⟩
  show DP _ _ _ _ _ _ _ _ [_, _, ⟨nb3, [I64 0, SL none 0 0, SL none 0 0, U64 0], 26, (0, 0)⟩]
  refine CW ⟨[4], [0, 1, 2, 3], [], [0, 1, 2, 3], [5]⟩ 5 _ rfl rfl (by decide +kernel) rfl ⟨⟨_, rfl, AL rfl (AD 2 26 4 AV rfl BL rfl rfl)⟩, ⟨_, rfl, AL rfl (AO rfl (BU EK BL rfl (AU 0 rfl (D6 (p := [U64 pv, U64 ep]) (q := cu8 tg) (vs := [I64 (kd), SL ai ni ci, SL sa ns sc, U64 bl]) (by first | rfl | (simp only [List.append_assoc, List.nil_append, List.append_nil, List.cons_append]; done)) rfl))))⟩, ⟨_, rfl, AL rfl (AD 2 26 4 AV rfl BL rfl rfl)⟩, ⟨_, rfl, AL rfl (AO rfl (BU EK BL rfl (AU 1 rfl (D6 (p := [U64 pv2, U64 ep2]) (q := cu8 tg2) (vs := [I64 (kd2), SL ai2 ni2 ci2, SL sa2 ns2 sc2, U64 bl2]) (by first | rfl | (simp only [List.append_assoc, List.nil_append, List.append_nil, List.cons_append]; done)) rfl))))⟩, trivial⟩ rfl (BO rfl (C0 _ ([I64 0, SL none 0 0, SL none 0 0, U64 0]) Tryd.zeroValue26 (by kernel_rfl))) ?_
  rintro v1 L1 ⟨nb5, hnb5, rfl, rfl⟩
  refine ⟨[], ?_⟩
  show DP _ _ _ _ _ _ _ _ [_, _, _, ⟨nb5, [I64 0, SL none 0 0, SL none 0 0, U64 0], 26, (0, 0)⟩]
  refine EH ⟨[4, 5], [0, 1, 2, 3], [], [0, 1, 2, 3], [6]⟩ 6 rfl rfl (by decide +kernel) rfl ⟨⟨_, rfl, AL rfl (AD 2 26 4 AV rfl BL rfl rfl)⟩, ⟨_, rfl, AL rfl (AO rfl (BU EK BL rfl (AU 0 rfl (D6 (p := [U64 pv, U64 ep]) (q := cu8 tg) (vs := [I64 (kd), SL ai ni ci, SL sa ns sc, U64 bl]) (by first | rfl | (simp only [List.append_assoc, List.nil_append, List.append_nil, List.cons_append]; done)) rfl))))⟩, ⟨_, rfl, AL rfl (AD 2 26 4 AV rfl BL rfl rfl)⟩, ⟨_, rfl, AL rfl (AO rfl (BU EK BL rfl (AU 1 rfl (D6 (p := [U64 pv2, U64 ep2]) (q := cu8 tg2) (vs := [I64 (kd2), SL ai2 ni2 ci2, SL sa2 ns2 sc2, U64 bl2]) (by first | rfl | (simp only [List.append_assoc, List.nil_append, List.append_nil, List.cons_append]; done)) rfl))))⟩, trivial⟩ rfl (BO rfl (BQ 2 nb3 4 ([I64 0, SL none 0 0, SL none 0 0, U64 0]) 26 ([I64 (kd), SL ai ni ci, SL sa ns sc, U64 bl]) rfl rfl rfl BL rfl (by simp [Value.oneCell']) (Nat.le_of_ble_eq_true rfl) (BT (by simp [])))) ?_
  show DP _ _ _ _ _ _ _ _ [_, _, ⟨nb3, [I64 (kd), SL ai ni ci, SL sa ns sc, U64 bl], 26, (0, 0)⟩, _]
  refine EH ⟨[4, 5, 6], [0, 1, 2, 3], [0, 1], [2, 3], [7]⟩ 7 rfl rfl (by decide +kernel) rfl ⟨⟨_, rfl, AL rfl (AD 2 26 4 AV rfl BL rfl rfl)⟩, ⟨_, rfl, AL rfl (AO rfl (BU EK BL rfl (AU 1 rfl (D6 (p := [U64 pv2, U64 ep2]) (q := cu8 tg2) (vs := [I64 (kd2), SL ai2 ni2 ci2, SL sa2 ns2 sc2, U64 bl2]) (by first | rfl | (simp only [List.append_assoc, List.nil_append, List.append_nil, List.cons_append]; done)) rfl))))⟩, trivial⟩ rfl (BO rfl (BQ 3 nb5 4 ([I64 0, SL none 0 0, SL none 0 0, U64 0]) 26 ([I64 (kd2), SL ai2 ni2 ci2, SL sa2 ns2 sc2, U64 bl2]) rfl rfl rfl BL rfl (by simp [Value.oneCell']) (Nat.le_of_ble_eq_true rfl) (BT (by simp [])))) ?_
  show DP _ _ _ _ _ _ _ _ [_, _, _, ⟨nb5, [I64 (kd2), SL ai2 ni2 ci2, SL sa2 ns2 sc2, U64 bl2], 26, (0, 0)⟩]
  refine DU ⟨[4, 5, 6, 7], [0, 1, 2, 3], [0, 1, 2, 3], [], []⟩ rfl rfl (by decide +kernel) rfl trivial ?_
  refine C6 (F' := [(5, Ptr nb3 0), (6, Ptr nb5 0), (2, Ptr nb1 0), (3, Ptr nb2 0), (4, .bool false)]) (by kernel_rfl) ?_
  refine AC (AH (AB (AA (Ptr nb1 0) (AD 0 22 1 AV rfl A9 rfl rfl) rfl ?_)))
  refine AA (U64 pv) (AO rfl (A0 BN (AU 0 rfl (AJ (Seg.head))))) rfl ?_
  refine AA (Ptr nb2 0) (AD 0 22 1 AV rfl A9 rfl rfl) rfl ?_
  refine AA (U64 pv2) (AO rfl (A0 BN (AU 1 rfl (AJ (Seg.head))))) rfl ?_
  refine AA (.bool (decide (pv = pv2))) (AR rfl rfl fun _ => E9 pv pv2) rfl ?_
  refine AA _ (AF rfl) rfl ?_
  rcases Bool.eq_false_or_eq_true (decide (pv = pv2)) with hb1 | hb1
  ·
   have hp1 : pv = pv2 := of_decide_eq_true hb1
   refine AP 5 16 true _ (Ptr nb1 1) rfl rfl hb1 (AD 1 22 1 AV rfl A9 rfl rfl) rfl ?_
   refine AP 5 16 true _ (U64 ep) rfl rfl hb1 (AO rfl (A0 BN (AU 0 rfl (AJ (AK (Seg.head)))))) rfl ?_
   refine AP 5 16 true _ (Ptr nb2 1) rfl rfl hb1 (AD 1 22 1 AV rfl A9 rfl rfl) rfl ?_
   refine AP 5 16 true _ (U64 ep2) rfl rfl hb1 (AO rfl (A0 BN (AU 1 rfl (AJ (AK (Seg.head)))))) rfl ?_
   refine AP 5 16 true _ (.bool (decide (ep = ep2))) rfl rfl hb1 (AR rfl rfl fun _ => E9 ep ep2) rfl ?_
   refine AA _ (BD _ rfl hb1 rfl) rfl ?_
   refine AA _ (AF rfl) rfl ?_
   rcases Bool.eq_false_or_eq_true (decide (ep = ep2)) with hb2 | hb2
   ·
    have hp2 : ep = ep2 := of_decide_eq_true hb2
    refine AP 12 23 true _ (Ptr nb1 6) rfl rfl hb2 (AD 6 27 16 AV rfl CI rfl rfl) rfl ?_
    refine AP 12 23 true _ (.agg (cu8 tg).toArray) rfl rfl hb2 (AO rfl (BU Tryd.isAgg27 CI (EW htg) (AU 0 rfl (Seg.right 6 0 rfl rfl (AQ _))))) rfl ?_
    refine AP 12 23 true _ (Ptr nb2 6) rfl rfl hb2 (AD 6 27 16 AV rfl CI rfl rfl) rfl ?_
    refine AP 12 23 true _ (.agg (cu8 tg2).toArray) rfl rfl hb2 (AO rfl (BU Tryd.isAgg27 CI (EW htg2) (AU 1 rfl (Seg.right 6 0 rfl rfl (AQ _))))) rfl ?_
    refine AP 12 23 true _ (.bool (decide (tg = tg2))) rfl rfl hb2 (C7 _ _ _ rfl rfl (fun _ => eqGuard_agg _ _ _ _ _ _ (by kernel_rfl)) fun _ => eql_arr8 CF DI Tryd.isAgg5 Tryd.cells5 Tryd.has5 (by simp [htg]) (by simp [htg2])) rfl ?_
    refine AA _ (BD _ rfl hb2 rfl) rfl ?_
    refine AA _ (AF rfl) rfl ?_
    rcases Bool.eq_false_or_eq_true (decide (tg = tg2)) with hb3 | hb3
    ·
     have hp3 : tg = tg2 := of_decide_eq_true hb3
     refine AP 19 30 true _ (Ptr nb3 0) rfl rfl hb3 (AD 0 3 1 AZ rfl AT rfl rfl) rfl ?_
     refine AP 19 30 true _ (I64 (kd)) rfl rfl hb3 (AO rfl (A0 AY (AU 2 rfl (Seg.head)))) rfl ?_
     refine AP 19 30 true _ (Ptr nb5 0) rfl rfl hb3 (AD 0 3 1 AZ rfl AT rfl rfl) rfl ?_
     refine AP 19 30 true _ (I64 (kd2)) rfl rfl hb3 (AO rfl (A0 AY (AU 3 rfl (Seg.head)))) rfl ?_
     refine AP 19 30 true _ (.bool (decide ((kd) = (kd2)))) rfl rfl hb3 (AR rfl rfl fun _ => BK _ _) rfl ?_
     refine AA _ (BD _ rfl hb3 rfl) rfl ?_
     refine AA _ (AF rfl) rfl ?_
     rcases Bool.eq_false_or_eq_true (decide ((kd) = (kd2))) with hb4 | hb4
     ·
      have hp4 : (kd) = (kd2) := of_decide_eq_true hb4
      refine AP 26 37 true _ (Ptr nb3 3) rfl rfl hb4 (AD 3 22 1 AZ rfl A9 rfl rfl) rfl ?_
      refine AP 26 37 true _ (U64 bl) rfl rfl hb4 (AO rfl (A0 BN (AU 2 rfl (AK (AK (AK (Seg.head))))))) rfl ?_
      refine AP 26 37 true _ (Ptr nb5 3) rfl rfl hb4 (AD 3 22 1 AZ rfl A9 rfl rfl) rfl ?_
      refine AP 26 37 true _ (U64 bl2) rfl rfl hb4 (AO rfl (A0 BN (AU 3 rfl (AK (AK (AK (Seg.head))))))) rfl ?_
      refine AP 26 37 true _ (.bool (decide (bl = bl2))) rfl rfl hb4 (AR rfl rfl fun _ => E9 bl bl2) rfl ?_
      refine AA _ (BD _ rfl hb4 rfl) rfl ?_
      refine AA _ (AF rfl) rfl ?_
      rcases Bool.eq_false_or_eq_true (decide (bl = bl2)) with hb5 | hb5
      ·
       have hp5 : bl = bl2 := of_decide_eq_true hb5
       refine AP 33 44 true _ (Ptr nb3 1) rfl rfl hb5 (AD 1 23 1 AZ rfl B2 rfl rfl) rfl ?_
       refine AP 33 44 true _ (SL ai ni ci) rfl rfl hb5 (AO rfl (A0 CQ (AU 2 rfl (AK (Seg.head))))) rfl ?_
       refine AP 33 44 true _ (Ptr nb5 1) rfl rfl hb5 (AD 1 23 1 AZ rfl B2 rfl rfl) rfl ?_
       refine AP 33 44 true _ (SL ai2 ni2 ci2) rfl rfl hb5 (AO rfl (A0 CQ (AU 3 rfl (AK (Seg.head))))) rfl ?_
       refine DL 33 44 true _ rfl rfl hb5 (A2 115 [SL ai ni ci, SL ai2 ni2 ci2] (.bool (decide (l = l2))) (AS _ Tryd.call115 rfl) (fun w1 hw1 => eq64_c ai ni ci l ai2 ni2 ci2 l2 w1 hl (by omega) (by omega) (by omega) (C2 hw1 rfl hv) hl2 (by omega) (by omega) (by omega) (C2 hw1 rfl hv2))) rfl ?_
       rintro v1 L1 ⟨rfl, rfl⟩
       show JL _ _ _ _ ((49, .bool (decide (l = l2))) :: _) [_, _, _, _]
       refine AA _ (BD _ rfl hb5 rfl) rfl ?_
       refine AA _ (AF rfl) rfl ?_
       rcases Bool.eq_false_or_eq_true (decide (l = l2)) with hb6 | hb6
       ·
        have hp6 : l = l2 := of_decide_eq_true hb6
        refine AP 40 51 true _ (Ptr nb3 2) rfl rfl hb6 (AD 2 24 1 AZ rfl DE rfl rfl) rfl ?_
        refine AP 40 51 true _ (SL sa ns sc) rfl rfl hb6 (AO rfl (A0 D9 (AU 2 rfl (AK (AK (Seg.head)))))) rfl ?_
        refine AP 40 51 true _ (Ptr nb5 2) rfl rfl hb6 (AD 2 24 1 AZ rfl DE rfl rfl) rfl ?_
        refine AP 40 51 true _ (SL sa2 ns2 sc2) rfl rfl hb6 (AO rfl (A0 D9 (AU 3 rfl (AK (AK (Seg.head)))))) rfl ?_
        refine DL 40 51 true _ rfl rfl hb6 (A2 116 [SL sa ns sc, SL sa2 ns2 sc2] (.bool (decide (ls = ls2))) (AS _ Tryd.call116 rfl) (fun w1 hw1 => eqS_c sa ns sc ls sa2 ns2 sc2 ls2 w1 hls (by omega) (by omega) (by omega) (C2 hw1 rfl hs) hls2 (by omega) (by omega) (by omega) (C2 hw1 rfl hs2))) rfl ?_
        rintro v1 L1 ⟨rfl, rfl⟩
        show JL _ _ _ _ ((56, .bool (decide (ls = ls2))) :: _) [_, _, _, _]
        refine AA _ (BD _ rfl hb6 rfl) rfl ?_
        refine AA _ (AE rfl) rfl ?_
        refine AI (AC (BI (B4 [false, false, false, false] ?_)))
        show JQ _ _ _ _ []
        refine BH (.bool (decide (ls = ls2))) (res1 D8 (BC rfl)) fun w1 hw1 => ?_
        refine ⟨_, [], rfl, ⟨congrArg Value.bool ?_, rfl⟩, hw1.sub (by simp) (by simp)⟩
        first | (simp [*]; done) | (simp_all; done)
       ·
        have hp6 : ¬ (l = l2) := of_decide_eq_false hb6
        refine AG 40 51 true _ rfl rfl hb6 rfl ?_
        refine AG 40 51 true _ rfl rfl hb6 rfl ?_
        refine AG 40 51 true _ rfl rfl hb6 rfl ?_
        refine AG 40 51 true _ rfl rfl hb6 rfl ?_
        refine AG 40 51 true _ rfl rfl hb6 rfl ?_
        refine AA _ (A3 _ rfl hb6 rfl) rfl ?_
        refine AA _ (AE rfl) rfl ?_
        refine AI (AC (BI (B4 [false, false, false, false] ?_)))
        show JQ _ _ _ _ []
        refine BH (.bool false) (res1 D8 (BC rfl)) fun w1 hw1 => ?_
        refine ⟨_, [], rfl, ⟨congrArg Value.bool ?_, rfl⟩, hw1.sub (by simp) (by simp)⟩
        first | (simp [*]; done) | (simp_all; done)
      ·
       have hp5 : ¬ (bl = bl2) := of_decide_eq_false hb5
       refine AG 33 44 true _ rfl rfl hb5 rfl ?_
       refine AG 33 44 true _ rfl rfl hb5 rfl ?_
       refine AG 33 44 true _ rfl rfl hb5 rfl ?_
       refine AG 33 44 true _ rfl rfl hb5 rfl ?_
       refine AG 33 44 true _ rfl rfl hb5 rfl ?_
       refine AA _ (A3 _ rfl hb5 rfl) rfl ?_
       refine AA _ (AF rfl) rfl ?_
       refine AG 40 51 true _ rfl rfl rfl rfl ?_
       refine AG 40 51 true _ rfl rfl rfl rfl ?_
       refine AG 40 51 true _ rfl rfl rfl rfl ?_
       refine AG 40 51 true _ rfl rfl rfl rfl ?_
       refine AG 40 51 true _ rfl rfl rfl rfl ?_
       refine AA _ (A3 _ rfl rfl rfl) rfl ?_
       refine AA _ (AE rfl) rfl ?_
       refine AI (AC (BI (B4 [false, false, false, false] ?_)))
       show JQ _ _ _ _ []
       refine BH (.bool false) (res1 D8 (BC rfl)) fun w1 hw1 => ?_
       refine ⟨_, [], rfl, ⟨congrArg Value.bool ?_, rfl⟩, hw1.sub (by simp) (by simp)⟩
       first | (simp [*]; done) | (simp_all; done)
     ·
      have hp4 : ¬ ((kd) = (kd2)) := of_decide_eq_false hb4
      refine AG 26 37 true _ rfl rfl hb4 rfl ?_
      refine AG 26 37 true _ rfl rfl hb4 rfl ?_
      refine AG 26 37 true _ rfl rfl hb4 rfl ?_
      refine AG 26 37 true _ rfl rfl hb4 rfl ?_
      refine AG 26 37 true _ rfl rfl hb4 rfl ?_
      refine AA _ (A3 _ rfl hb4 rfl) rfl ?_
      refine AA _ (AF rfl) rfl ?_
      refine AG 33 44 true _ rfl rfl rfl rfl ?_
      refine AG 33 44 true _ rfl rfl rfl rfl ?_
      refine AG 33 44 true _ rfl rfl rfl rfl ?_
      refine AG 33 44 true _ rfl rfl rfl rfl ?_
      refine AG 33 44 true _ rfl rfl rfl rfl ?_
      refine AA _ (A3 _ rfl rfl rfl) rfl ?_
      refine AA _ (AF rfl) rfl ?_
      refine AG 40 51 true _ rfl rfl rfl rfl ?_
      refine AG 40 51 true _ rfl rfl rfl rfl ?_
      refine AG 40 51 true _ rfl rfl rfl rfl ?_
      refine AG 40 51 true _ rfl rfl rfl rfl ?_
      refine AG 40 51 true _ rfl rfl rfl rfl ?_
      refine AA _ (A3 _ rfl rfl rfl) rfl ?_
      refine AA _ (AE rfl) rfl ?_
      refine AI (AC (BI (B4 [false, false, false, false] ?_)))
      show JQ _ _ _ _ []
      refine BH (.bool false) (res1 D8 (BC rfl)) fun w1 hw1 => ?_
      refine ⟨_, [], rfl, ⟨congrArg Value.bool ?_, rfl⟩, hw1.sub (by simp) (by simp)⟩
      first | (simp [*]; done) | (simp_all; done)
    ·
     have hp3 : ¬ (tg = tg2) := of_decide_eq_false hb3
     refine AG 19 30 true _ rfl rfl hb3 rfl ?_
     refine AG 19 30 true _ rfl rfl hb3 rfl ?_
     refine AG 19 30 true _ rfl rfl hb3 rfl ?_
     refine AG 19 30 true _ rfl rfl hb3 rfl ?_
     refine AG 19 30 true _ rfl rfl hb3 rfl ?_
     refine AA _ (A3 _ rfl hb3 rfl) rfl ?_
     refine AA _ (AF rfl) rfl ?_
     refine AG 26 37 true _ rfl rfl rfl rfl ?_
     refine AG 26 37 true _ rfl rfl rfl rfl ?_
     refine AG 26 37 true _ rfl rfl rfl rfl ?_
     refine AG 26 37 true _ rfl rfl rfl rfl ?_
     refine AG 26 37 true _ rfl rfl rfl rfl ?_
     refine AA _ (A3 _ rfl rfl rfl) rfl ?_
     refine AA _ (AF rfl) rfl ?_
     refine AG 33 44 true _ rfl rfl rfl rfl ?_
     refine AG 33 44 true _ rfl rfl rfl rfl ?_
     refine AG 33 44 true _ rfl rfl rfl rfl ?_
     refine AG 33 44 true _ rfl rfl rfl rfl ?_
     refine AG 33 44 true _ rfl rfl rfl rfl ?_
     refine AA _ (A3 _ rfl rfl rfl) rfl ?_
     refine AA _ (AF rfl) rfl ?_
     refine AG 40 51 true _ rfl rfl rfl rfl ?_
     refine AG 40 51 true _ rfl rfl rfl rfl ?_
     refine AG 40 51 true _ rfl rfl rfl rfl ?_
     refine AG 40 51 true _ rfl rfl rfl rfl ?_
     refine AG 40 51 true _ rfl rfl rfl rfl ?_
     refine AA _ (A3 _ rfl rfl rfl) rfl ?_
     refine AA _ (AE rfl) rfl ?_
     refine AI (AC (BI (B4 [false, false, false, false] ?_)))
     show JQ _ _ _ _ []
     refine BH (.bool false) (res1 D8 (BC rfl)) fun w1 hw1 => ?_
     refine ⟨_, [], rfl, ⟨congrArg Value.bool ?_, rfl⟩, hw1.sub (by simp) (by simp)⟩
     first | (simp [*]; done) | (simp_all; done)
   ·
    have hp2 : ¬ (ep = ep2) := of_decide_eq_false hb2
    refine AG 12 23 true _ rfl rfl hb2 rfl ?_
    refine AG 12 23 true _ rfl rfl hb2 rfl ?_
    refine AG 12 23 true _ rfl rfl hb2 rfl ?_
    refine AG 12 23 true _ rfl rfl hb2 rfl ?_
    refine AG 12 23 true _ rfl rfl hb2 rfl ?_
    refine AA _ (A3 _ rfl hb2 rfl) rfl ?_
    refine AA _ (AF rfl) rfl ?_
    refine AG 19 30 true _ rfl rfl rfl rfl ?_
    refine AG 19 30 true _ rfl rfl rfl rfl ?_
    refine AG 19 30 true _ rfl rfl rfl rfl ?_
    refine AG 19 30 true _ rfl rfl rfl rfl ?_
    refine AG 19 30 true _ rfl rfl rfl rfl ?_
    refine AA _ (A3 _ rfl rfl rfl) rfl ?_
    refine AA _ (AF rfl) rfl ?_
    refine AG 26 37 true _ rfl rfl rfl rfl ?_
    refine AG 26 37 true _ rfl rfl rfl rfl ?_
    refine AG 26 37 true _ rfl rfl rfl rfl ?_
    refine AG 26 37 true _ rfl rfl rfl rfl ?_
    refine AG 26 37 true _ rfl rfl rfl rfl ?_
    refine AA _ (A3 _ rfl rfl rfl) rfl ?_
    refine AA _ (AF rfl) rfl ?_
    refine AG 33 44 true _ rfl rfl rfl rfl ?_
    refine AG 33 44 true _ rfl rfl rfl rfl ?_
    refine AG 33 44 true _ rfl rfl rfl rfl ?_
    refine AG 33 44 true _ rfl rfl rfl rfl ?_
    refine AG 33 44 true _ rfl rfl rfl rfl ?_
    refine AA _ (A3 _ rfl rfl rfl) rfl ?_
    refine AA _ (AF rfl) rfl ?_
    refine AG 40 51 true _ rfl rfl rfl rfl ?_
    refine AG 40 51 true _ rfl rfl rfl rfl ?_
    refine AG 40 51 true _ rfl rfl rfl rfl ?_
    refine AG 40 51 true _ rfl rfl rfl rfl ?_
    refine AG 40 51 true _ rfl rfl rfl rfl ?_
    refine AA _ (A3 _ rfl rfl rfl) rfl ?_
    refine AA _ (AE rfl) rfl ?_
    refine AI (AC (BI (B4 [false, false, false, false] ?_)))
    show JQ _ _ _ _ []
    refine BH (.bool false) (res1 D8 (BC rfl)) fun w1 hw1 => ?_
    refine ⟨_, [], rfl, ⟨congrArg Value.bool ?_, rfl⟩, hw1.sub (by simp) (by simp)⟩
    first | (simp [*]; done) | (simp_all; done)
  ·
   have hp1 : ¬ (pv = pv2) := of_decide_eq_false hb1
   refine AG 5 16 true _ rfl rfl hb1 rfl ?_
   refine AG 5 16 true _ rfl rfl hb1 rfl ?_
   refine AG 5 16 true _ rfl rfl hb1 rfl ?_
   refine AG 5 16 true _ rfl rfl hb1 rfl ?_
   refine AG 5 16 true _ rfl rfl hb1 rfl ?_
   refine AA _ (A3 _ rfl hb1 rfl) rfl ?_
   refine AA _ (AF rfl) rfl ?_
   refine AG 12 23 true _ rfl rfl rfl rfl ?_
   refine AG 12 23 true _ rfl rfl rfl rfl ?_
   refine AG 12 23 true _ rfl rfl rfl rfl ?_
   refine AG 12 23 true _ rfl rfl rfl rfl ?_
   refine AG 12 23 true _ rfl rfl rfl rfl ?_
   refine AA _ (A3 _ rfl rfl rfl) rfl ?_
   refine AA _ (AF rfl) rfl ?_
   refine AG 19 30 true _ rfl rfl rfl rfl ?_
   refine AG 19 30 true _ rfl rfl rfl rfl ?_
   refine AG 19 30 true _ rfl rfl rfl rfl ?_
   refine AG 19 30 true _ rfl rfl rfl rfl ?_
   refine AG 19 30 true _ rfl rfl rfl rfl ?_
   refine AA _ (A3 _ rfl rfl rfl) rfl ?_
   refine AA _ (AF rfl) rfl ?_
   refine AG 26 37 true _ rfl rfl rfl rfl ?_
   refine AG 26 37 true _ rfl rfl rfl rfl ?_
   refine AG 26 37 true _ rfl rfl rfl rfl ?_
   refine AG 26 37 true _ rfl rfl rfl rfl ?_
   refine AG 26 37 true _ rfl rfl rfl rfl ?_
   refine AA _ (A3 _ rfl rfl rfl) rfl ?_
   refine AA _ (AF rfl) rfl ?_
   refine AG 33 44 true _ rfl rfl rfl rfl ?_
   refine AG 33 44 true _ rfl rfl rfl rfl ?_
   refine AG 33 44 true _ rfl rfl rfl rfl ?_
   refine AG 33 44 true _ rfl rfl rfl rfl ?_
   refine AG 33 44 true _ rfl rfl rfl rfl ?_
   refine AA _ (A3 _ rfl rfl rfl) rfl ?_
   refine AA _ (AF rfl) rfl ?_
   refine AG 40 51 true _ rfl rfl rfl rfl ?_
   refine AG 40 51 true _ rfl rfl rfl rfl ?_
   refine AG 40 51 true _ rfl rfl rfl rfl ?_
   refine AG 40 51 true _ rfl rfl rfl rfl ?_
   refine AG 40 51 true _ rfl rfl rfl rfl ?_
   refine AA _ (A3 _ rfl rfl rfl) rfl ?_
   refine AA _ (AE rfl) rfl ?_
   refine AI (AC (BI (B4 [false, false, false, false] ?_)))
   show JQ _ _ _ _ []
   refine BH (.bool false) (res1 D8 (BC rfl)) fun w1 hw1 => ?_
   refine ⟨_, [], rfl, ⟨congrArg Value.bool ?_, rfl⟩, hw1.sub (by simp) (by simp)⟩
   first | (simp [*]; done) | (simp_all; done)
 ·
  rintro v1 L1 ⟨nb4, hnb4, rfl, rfl⟩
  refine ⟨[], ?_⟩
  show DP _ _ _ _ _ _ _ _ [_, _, ⟨nb4, [I64 0, SL none 0 0, SL none 0 0, U64 0], 26, (0, 0)⟩]
  refine CW ⟨[5], [0, 1, 2, 3], [], [0, 1, 2, 3], [4]⟩ 4 _ rfl rfl (by decide +kernel) rfl ⟨⟨_, rfl, AL rfl (AD 2 26 4 AV rfl BL rfl rfl)⟩, ⟨_, rfl, AL rfl (AO rfl (BU EK BL rfl (AU 0 rfl (D6 (p := [U64 pv, U64 ep]) (q := cu8 tg) (vs := [I64 (kd), SL ai ni ci, SL sa ns sc, U64 bl]) (by first | rfl | (simp only [List.append_assoc, List.nil_append, List.append_nil, List.cons_append]; done)) rfl))))⟩, ⟨_, rfl, AL rfl (AD 2 26 4 AV rfl BL rfl rfl)⟩, ⟨_, rfl, AL rfl (AO rfl (BU EK BL rfl (AU 1 rfl (D6 (p := [U64 pv2, U64 ep2]) (q := cu8 tg2) (vs := [I64 (kd2), SL ai2 ni2 ci2, SL sa2 ns2 sc2, U64 bl2]) (by first | rfl | (simp only [List.append_assoc, List.nil_append, List.append_nil, List.cons_append]; done)) rfl))))⟩, trivial⟩ rfl (BO rfl (C0 _ ([I64 0, SL none 0 0, SL none 0 0, U64 0]) Tryd.zeroValue26 (by kernel_rfl))) ?_
  rintro v1 L1 ⟨nb6, hnb6, rfl, rfl⟩
  refine ⟨[], ?_⟩
  show DP _ _ _ _ _ _ _ _ [_, _, _, ⟨nb6, [I64 0, SL none 0 0, SL none 0 0, U64 0], 26, (0, 0)⟩]
  refine EH ⟨[5, 4], [0, 1, 2, 3], [], [0, 1, 2, 3], [6]⟩ 6 rfl rfl (by decide +kernel) rfl ⟨⟨_, rfl, AL rfl (AD 2 26 4 AV rfl BL rfl rfl)⟩, ⟨_, rfl, AL rfl (AO rfl (BU EK BL rfl (AU 0 rfl (D6 (p := [U64 pv, U64 ep]) (q := cu8 tg) (vs := [I64 (kd), SL ai ni ci, SL sa ns sc, U64 bl]) (by first | rfl | (simp only [List.append_assoc, List.nil_append, List.append_nil, List.cons_append]; done)) rfl))))⟩, ⟨_, rfl, AL rfl (AD 2 26 4 AV rfl BL rfl rfl)⟩, ⟨_, rfl, AL rfl (AO rfl (BU EK BL rfl (AU 1 rfl (D6 (p := [U64 pv2, U64 ep2]) (q := cu8 tg2) (vs := [I64 (kd2), SL ai2 ni2 ci2, SL sa2 ns2 sc2, U64 bl2]) (by first | rfl | (simp only [List.append_assoc, List.nil_append, List.append_nil, List.cons_append]; done)) rfl))))⟩, trivial⟩ rfl (BO rfl (BQ 3 nb6 4 ([I64 0, SL none 0 0, SL none 0 0, U64 0]) 26 ([I64 (kd), SL ai ni ci, SL sa ns sc, U64 bl]) rfl rfl rfl BL rfl (by simp [Value.oneCell']) (Nat.le_of_ble_eq_true rfl) (BT (by simp [])))) ?_
  show DP _ _ _ _ _ _ _ _ [_, _, _, ⟨nb6, [I64 (kd), SL ai ni ci, SL sa ns sc, U64 bl], 26, (0, 0)⟩]
  refine EH ⟨[5, 4, 6], [0, 1, 2, 3], [0, 1], [2, 3], [7]⟩ 7 rfl rfl (by decide +kernel) rfl ⟨⟨_, rfl, AL rfl (AD 2 26 4 AV rfl BL rfl rfl)⟩, ⟨_, rfl, AL rfl (AO rfl (BU EK BL rfl (AU 1 rfl (D6 (p := [U64 pv2, U64 ep2]) (q := cu8 tg2) (vs := [I64 (kd2), SL ai2 ni2 ci2, SL sa2 ns2 sc2, U64 bl2]) (by first | rfl | (simp only [List.append_assoc, List.nil_append, List.append_nil, List.cons_append]; done)) rfl))))⟩, trivial⟩ rfl (BO rfl (BQ 2 nb4 4 ([I64 0, SL none 0 0, SL none 0 0, U64 0]) 26 ([I64 (kd2), SL ai2 ni2 ci2, SL sa2 ns2 sc2, U64 bl2]) rfl rfl rfl BL rfl (by simp [Value.oneCell']) (Nat.le_of_ble_eq_true rfl) (BT (by simp [])))) ?_
  show DP _ _ _ _ _ _ _ _ [_, _, ⟨nb4, [I64 (kd2), SL ai2 ni2 ci2, SL sa2 ns2 sc2, U64 bl2], 26, (0, 0)⟩, _]
  refine DU ⟨[5, 4, 6, 7], [0, 1, 2, 3], [0, 1, 2, 3], [], []⟩ rfl rfl (by decide +kernel) rfl trivial ?_
  refine C6 (F' := [(5, Ptr nb6 0), (6, Ptr nb4 0), (2, Ptr nb1 0), (3, Ptr nb2 0), (4, .bool false)]) (by kernel_rfl) ?_
  refine AC (AH (AB (AA (Ptr nb1 0) (AD 0 22 1 AV rfl A9 rfl rfl) rfl ?_)))
  refine AA (U64 pv) (AO rfl (A0 BN (AU 0 rfl (AJ (Seg.head))))) rfl ?_
  refine AA (Ptr nb2 0) (AD 0 22 1 AV rfl A9 rfl rfl) rfl ?_
  refine AA (U64 pv2) (AO rfl (A0 BN (AU 1 rfl (AJ (Seg.head))))) rfl ?_
  refine AA (.bool (decide (pv = pv2))) (AR rfl rfl fun _ => E9 pv pv2) rfl ?_
  refine AA _ (AF rfl) rfl ?_
  rcases Bool.eq_false_or_eq_true (decide (pv = pv2)) with hb7 | hb7
  ·
   have hp7 : pv = pv2 := of_decide_eq_true hb7
   refine AP 5 16 true _ (Ptr nb1 1) rfl rfl hb7 (AD 1 22 1 AV rfl A9 rfl rfl) rfl ?_
   refine AP 5 16 true _ (U64 ep) rfl rfl hb7 (AO rfl (A0 BN (AU 0 rfl (AJ (AK (Seg.head)))))) rfl ?_
   refine AP 5 16 true _ (Ptr nb2 1) rfl rfl hb7 (AD 1 22 1 AV rfl A9 rfl rfl) rfl ?_
   refine AP 5 16 true _ (U64 ep2) rfl rfl hb7 (AO rfl (A0 BN (AU 1 rfl (AJ (AK (Seg.head)))))) rfl ?_
   refine AP 5 16 true _ (.bool (decide (ep = ep2))) rfl rfl hb7 (AR rfl rfl fun _ => E9 ep ep2) rfl ?_
   refine AA _ (BD _ rfl hb7 rfl) rfl ?_
   refine AA _ (AF rfl) rfl ?_
   rcases Bool.eq_false_or_eq_true (decide (ep = ep2)) with hb8 | hb8
   ·
    have hp8 : ep = ep2 := of_decide_eq_true hb8
    refine AP 12 23 true _ (Ptr nb1 6) rfl rfl hb8 (AD 6 27 16 AV rfl CI rfl rfl) rfl ?_
    refine AP 12 23 true _ (.agg (cu8 tg).toArray) rfl rfl hb8 (AO rfl (BU Tryd.isAgg27 CI (EW htg) (AU 0 rfl (Seg.right 6 0 rfl rfl (AQ _))))) rfl ?_
    refine AP 12 23 true _ (Ptr nb2 6) rfl rfl hb8 (AD 6 27 16 AV rfl CI rfl rfl) rfl ?_
    refine AP 12 23 true _ (.agg (cu8 tg2).toArray) rfl rfl hb8 (AO rfl (BU Tryd.isAgg27 CI (EW htg2) (AU 1 rfl (Seg.right 6 0 rfl rfl (AQ _))))) rfl ?_
    refine AP 12 23 true _ (.bool (decide (tg = tg2))) rfl rfl hb8 (C7 _ _ _ rfl rfl (fun _ => eqGuard_agg _ _ _ _ _ _ (by kernel_rfl)) fun _ => eql_arr8 CF DI Tryd.isAgg5 Tryd.cells5 Tryd.has5 (by simp [htg]) (by simp [htg2])) rfl ?_
    refine AA _ (BD _ rfl hb8 rfl) rfl ?_
    refine AA _ (AF rfl) rfl ?_
    rcases Bool.eq_false_or_eq_true (decide (tg = tg2)) with hb9 | hb9
    ·
     have hp9 : tg = tg2 := of_decide_eq_true hb9
     refine AP 19 30 true _ (Ptr nb6 0) rfl rfl hb9 (AD 0 3 1 AZ rfl AT rfl rfl) rfl ?_
     refine AP 19 30 true _ (I64 (kd)) rfl rfl hb9 (AO rfl (A0 AY (AU 3 rfl (Seg.head)))) rfl ?_
     refine AP 19 30 true _ (Ptr nb4 0) rfl rfl hb9 (AD 0 3 1 AZ rfl AT rfl rfl) rfl ?_
     refine AP 19 30 true _ (I64 (kd2)) rfl rfl hb9 (AO rfl (A0 AY (AU 2 rfl (Seg.head)))) rfl ?_
     refine AP 19 30 true _ (.bool (decide ((kd) = (kd2)))) rfl rfl hb9 (AR rfl rfl fun _ => BK _ _) rfl ?_
     refine AA _ (BD _ rfl hb9 rfl) rfl ?_
     refine AA _ (AF rfl) rfl ?_
     rcases Bool.eq_false_or_eq_true (decide ((kd) = (kd2))) with hb10 | hb10
     ·
      have hp10 : (kd) = (kd2) := of_decide_eq_true hb10
      refine AP 26 37 true _ (Ptr nb6 3) rfl rfl hb10 (AD 3 22 1 AZ rfl A9 rfl rfl) rfl ?_
      refine AP 26 37 true _ (U64 bl) rfl rfl hb10 (AO rfl (A0 BN (AU 3 rfl (AK (AK (AK (Seg.head))))))) rfl ?_
      refine AP 26 37 true _ (Ptr nb4 3) rfl rfl hb10 (AD 3 22 1 AZ rfl A9 rfl rfl) rfl ?_
      refine AP 26 37 true _ (U64 bl2) rfl rfl hb10 (AO rfl (A0 BN (AU 2 rfl (AK (AK (AK (Seg.head))))))) rfl ?_
      refine AP 26 37 true _ (.bool (decide (bl = bl2))) rfl rfl hb10 (AR rfl rfl fun _ => E9 bl bl2) rfl ?_
      refine AA _ (BD _ rfl hb10 rfl) rfl ?_
      refine AA _ (AF rfl) rfl ?_
      rcases Bool.eq_false_or_eq_true (decide (bl = bl2)) with hb11 | hb11
      ·
       have hp11 : bl = bl2 := of_decide_eq_true hb11
       refine AP 33 44 true _ (Ptr nb6 1) rfl rfl hb11 (AD 1 23 1 AZ rfl B2 rfl rfl) rfl ?_
       refine AP 33 44 true _ (SL ai ni ci) rfl rfl hb11 (AO rfl (A0 CQ (AU 3 rfl (AK (Seg.head))))) rfl ?_
       refine AP 33 44 true _ (Ptr nb4 1) rfl rfl hb11 (AD 1 23 1 AZ rfl B2 rfl rfl) rfl ?_
       refine AP 33 44 true _ (SL ai2 ni2 ci2) rfl rfl hb11 (AO rfl (A0 CQ (AU 2 rfl (AK (Seg.head))))) rfl ?_
       refine DL 33 44 true _ rfl rfl hb11 (A2 115 [SL ai ni ci, SL ai2 ni2 ci2] (.bool (decide (l = l2))) (AS _ Tryd.call115 rfl) (fun w1 hw1 => eq64_c ai ni ci l ai2 ni2 ci2 l2 w1 hl (by omega) (by omega) (by omega) (C2 hw1 rfl hv) hl2 (by omega) (by omega) (by omega) (C2 hw1 rfl hv2))) rfl ?_
       rintro v1 L1 ⟨rfl, rfl⟩
       show JL _ _ _ _ ((49, .bool (decide (l = l2))) :: _) [_, _, _, _]
       refine AA _ (BD _ rfl hb11 rfl) rfl ?_
       refine AA _ (AF rfl) rfl ?_
       rcases Bool.eq_false_or_eq_true (decide (l = l2)) with hb12 | hb12
       ·
        have hp12 : l = l2 := of_decide_eq_true hb12
        refine AP 40 51 true _ (Ptr nb6 2) rfl rfl hb12 (AD 2 24 1 AZ rfl DE rfl rfl) rfl ?_
        refine AP 40 51 true _ (SL sa ns sc) rfl rfl hb12 (AO rfl (A0 D9 (AU 3 rfl (AK (AK (Seg.head)))))) rfl ?_
        refine AP 40 51 true _ (Ptr nb4 2) rfl rfl hb12 (AD 2 24 1 AZ rfl DE rfl rfl) rfl ?_
        refine AP 40 51 true _ (SL sa2 ns2 sc2) rfl rfl hb12 (AO rfl (A0 D9 (AU 2 rfl (AK (AK (Seg.head)))))) rfl ?_
        refine DL 40 51 true _ rfl rfl hb12 (A2 116 [SL sa ns sc, SL sa2 ns2 sc2] (.bool (decide (ls = ls2))) (AS _ Tryd.call116 rfl) (fun w1 hw1 => eqS_c sa ns sc ls sa2 ns2 sc2 ls2 w1 hls (by omega) (by omega) (by omega) (C2 hw1 rfl hs) hls2 (by omega) (by omega) (by omega) (C2 hw1 rfl hs2))) rfl ?_
        rintro v1 L1 ⟨rfl, rfl⟩
        show JL _ _ _ _ ((56, .bool (decide (ls = ls2))) :: _) [_, _, _, _]
        refine AA _ (BD _ rfl hb12 rfl) rfl ?_
        refine AA _ (AE rfl) rfl ?_
        refine AI (AC (BI (B4 [false, false, false, false] ?_)))
        show JQ _ _ _ _ []
        refine BH (.bool (decide (ls = ls2))) (res1 D8 (BC rfl)) fun w1 hw1 => ?_
        refine ⟨_, [], rfl, ⟨congrArg Value.bool ?_, rfl⟩, hw1.sub (by simp) (by simp)⟩
        first | (simp [*]; done) | (simp_all; done)
       ·
        have hp12 : ¬ (l = l2) := of_decide_eq_false hb12
        refine AG 40 51 true _ rfl rfl hb12 rfl ?_
        refine AG 40 51 true _ rfl rfl hb12 rfl ?_
        refine AG 40 51 true _ rfl rfl hb12 rfl ?_
        refine AG 40 51 true _ rfl rfl hb12 rfl ?_
        refine AG 40 51 true _ rfl rfl hb12 rfl ?_
        refine AA _ (A3 _ rfl hb12 rfl) rfl ?_
        refine AA _ (AE rfl) rfl ?_
        refine AI (AC (BI (B4 [false, false, false, false] ?_)))
        show JQ _ _ _ _ []
        refine BH (.bool false) (res1 D8 (BC rfl)) fun w1 hw1 => ?_
        refine ⟨_, [], rfl, ⟨congrArg Value.bool ?_, rfl⟩, hw1.sub (by simp) (by simp)⟩
        first | (simp [*]; done) | (simp_all; done)
      ·
       have hp11 : ¬ (bl = bl2) := of_decide_eq_false hb11
       refine AG 33 44 true _ rfl rfl hb11 rfl ?_
       refine AG 33 44 true _ rfl rfl hb11 rfl ?_
       refine AG 33 44 true _ rfl rfl hb11 rfl ?_
       refine AG 33 44 true _ rfl rfl hb11 rfl ?_
       refine AG 33 44 true _ rfl rfl hb11 rfl ?_
       refine AA _ (A3 _ rfl hb11 rfl) rfl ?_
       refine AA _ (AF rfl) rfl ?_
       refine AG 40 51 true _ rfl rfl rfl rfl ?_
       refine AG 40 51 true _ rfl rfl rfl rfl ?_
       refine AG 40 51 true _ rfl rfl rfl rfl ?_
       refine AG 40 51 true _ rfl rfl rfl rfl ?_
       refine AG 40 51 true _ rfl rfl rfl rfl ?_
       refine AA _ (A3 _ rfl rfl rfl) rfl ?_
       refine AA _ (AE rfl) rfl ?_
       refine AI (AC (BI (B4 [false, false, false, false] ?_)))
       show JQ _ _ _ _ []
       refine BH (.bool false) (res1 D8 (BC rfl)) fun w1 hw1 => ?_
       refine ⟨_, [], rfl, ⟨congrArg Value.bool ?_, rfl⟩, hw1.sub (by simp) (by simp)⟩
       first | (simp [*]; done) | (simp_all; done)
     ·
      have hp10 : ¬ ((kd) = (kd2)) := of_decide_eq_false hb10
      refine AG 26 37 true _ rfl rfl hb10 rfl ?_
      refine AG 26 37 true _ rfl rfl hb10 rfl ?_
      refine AG 26 37 true _ rfl rfl hb10 rfl ?_
      refine AG 26 37 true _ rfl rfl hb10 rfl ?_
      refine AG 26 37 true _ rfl rfl hb10 rfl ?_
      refine AA _ (A3 _ rfl hb10 rfl) rfl ?_
      refine AA _ (AF rfl) rfl ?_
      refine AG 33 44 true _ rfl rfl rfl rfl ?_
      refine AG 33 44 true _ rfl rfl rfl rfl ?_
      refine AG 33 44 true _ rfl rfl rfl rfl ?_
      refine AG 33 44 true _ rfl rfl rfl rfl ?_
      refine AG 33 44 true _ rfl rfl rfl rfl ?_
      refine AA _ (A3 _ rfl rfl rfl) rfl ?_
      refine AA _ (AF rfl) rfl ?_
      refine AG 40 51 true _ rfl rfl rfl rfl ?_
      refine AG 40 51 true _ rfl rfl rfl rfl ?_
      refine AG 40 51 true _ rfl rfl rfl rfl ?_
      refine AG 40 51 true _ rfl rfl rfl rfl ?_
      refine AG 40 51 true _ rfl rfl rfl rfl ?_
      refine AA _ (A3 _ rfl rfl rfl) rfl ?_
      refine AA _ (AE rfl) rfl ?_
      refine AI (AC (BI (B4 [false, false, false, false] ?_)))
      show JQ _ _ _ _ []
      refine BH (.bool false) (res1 D8 (BC rfl)) fun w1 hw1 => ?_
      refine ⟨_, [], rfl, ⟨congrArg Value.bool ?_, rfl⟩, hw1.sub (by simp) (by simp)⟩
      first | (simp [*]; done) | (simp_all; done)
    ·
     have hp9 : ¬ (tg = tg2) := of_decide_eq_false hb9
     refine AG 19 30 true _ rfl rfl hb9 rfl ?_
     refine AG 19 30 true _ rfl rfl hb9 rfl ?_
     refine AG 19 30 true _ rfl rfl hb9 rfl ?_
     refine AG 19 30 true _ rfl rfl hb9 rfl ?_
     refine AG 19 30 true _ rfl rfl hb9 rfl ?_
     refine AA _ (A3 _ rfl hb9 rfl) rfl ?_
     refine AA _ (AF rfl) rfl ?_
     refine AG 26 37 true _ rfl rfl rfl rfl ?_
     refine AG 26 37 true _ rfl rfl rfl rfl ?_
     refine AG 26 37 true _ rfl rfl rfl rfl ?_
     refine AG 26 37 true _ rfl rfl rfl rfl ?_
     refine AG 26 37 true _ rfl rfl rfl rfl ?_
     refine AA _ (A3 _ rfl rfl rfl) rfl ?_
     refine AA _ (AF rfl) rfl ?_
     refine AG 33 44 true _ rfl rfl rfl rfl ?_
     refine AG 33 44 true _ rfl rfl rfl rfl ?_
     refine AG 33 44 true _ rfl rfl rfl rfl ?_
     refine AG 33 44 true _ rfl rfl rfl rfl ?_
     refine AG 33 44 true _ rfl rfl rfl rfl ?_
     refine AA _ (A3 _ rfl rfl rfl) rfl ?_
     refine AA _ (AF rfl) rfl ?_
     refine AG 40 51 true _ rfl rfl rfl rfl ?_
     refine AG 40 51 true _ rfl rfl rfl rfl ?_
     refine AG 40 51 true _ rfl rfl rfl rfl ?_
     refine AG 40 51 true _ rfl rfl rfl rfl ?_
     refine AG 40 51 true _ rfl rfl rfl rfl ?_
     refine AA _ (A3 _ rfl rfl rfl) rfl ?_
     refine AA _ (AE rfl) rfl ?_
     refine AI (AC (BI (B4 [false, false, false, false] ?_)))
     show JQ _ _ _ _ []
     refine BH (.bool false) (res1 D8 (BC rfl)) fun w1 hw1 => ?_
     refine ⟨_, [], rfl, ⟨congrArg Value.bool ?_, rfl⟩, hw1.sub (by simp) (by simp)⟩
     first | (simp [*]; done) | (simp_all; done)
   ·
    have hp8 : ¬ (ep = ep2) := of_decide_eq_false hb8
    refine AG 12 23 true _ rfl rfl hb8 rfl ?_
    refine AG 12 23 true _ rfl rfl hb8 rfl ?_
    refine AG 12 23 true _ rfl rfl hb8 rfl ?_
    refine AG 12 23 true _ rfl rfl hb8 rfl ?_
    refine AG 12 23 true _ rfl rfl hb8 rfl ?_
    refine AA _ (A3 _ rfl hb8 rfl) rfl ?_
    refine AA _ (AF rfl) rfl ?_
    refine AG 19 30 true _ rfl rfl rfl rfl ?_
    refine AG 19 30 true _ rfl rfl rfl rfl ?_
    refine AG 19 30 true _ rfl rfl rfl rfl ?_
    refine AG 19 30 true _ rfl rfl rfl rfl ?_
    refine AG 19 30 true _ rfl rfl rfl rfl ?_
    refine AA _ (A3 _ rfl rfl rfl) rfl ?_
    refine AA _ (AF rfl) rfl ?_
    refine AG 26 37 true _ rfl rfl rfl rfl ?_
    refine AG 26 37 true _ rfl rfl rfl rfl ?_
    refine AG 26 37 true _ rfl rfl rfl rfl ?_
    refine AG 26 37 true _ rfl rfl rfl rfl ?_
    refine AG 26 37 true _ rfl rfl rfl rfl ?_
    refine AA _ (A3 _ rfl rfl rfl) rfl ?_
    refine AA _ (AF rfl) rfl ?_
    refine AG 33 44 true _ rfl rfl rfl rfl ?_
    refine AG 33 44 true _ rfl rfl rfl rfl ?_
    refine AG 33 44 true _ rfl rfl rfl rfl ?_
    refine AG 33 44 true _ rfl rfl rfl rfl ?_
    refine AG 33 44 true _ rfl rfl rfl rfl ?_
    refine AA _ (A3 _ rfl rfl rfl) rfl ?_
    refine AA _ (AF rfl) rfl ?_
    refine AG 40 51 true _ rfl rfl rfl rfl ?_
    refine AG 40 51 true _ rfl rfl rfl rfl ?_
    refine AG 40 51 true _ rfl rfl rfl rfl ?_
    refine AG 40 51 true _ rfl rfl rfl rfl ?_
    refine AG 40 51 true _ rfl rfl rfl rfl ?_
    refine AA _ (A3 _ rfl rfl rfl) rfl ?_
    refine AA _ (AE rfl) rfl ?_
    refine AI (AC (BI (B4 [false, false, false, false] ?_)))
    show JQ _ _ _ _ []
    refine BH (.bool false) (res1 D8 (BC rfl)) fun w1 hw1 => ?_
    refine ⟨_, [], rfl, ⟨congrArg Value.bool ?_, rfl⟩, hw1.sub (by simp) (by simp)⟩
    first | (simp [*]; done) | (simp_all; done)
  ·
   have hp7 : ¬ (pv = pv2) := of_decide_eq_false hb7
   refine AG 5 16 true _ rfl rfl hb7 rfl ?_
   refine AG 5 16 true _ rfl rfl hb7 rfl ?_
   refine AG 5 16 true _ rfl rfl hb7 rfl ?_
   refine AG 5 16 true _ rfl rfl hb7 rfl ?_
   refine AG 5 16 true _ rfl rfl hb7 rfl ?_
   refine AA _ (A3 _ rfl hb7 rfl) rfl ?_
   refine AA _ (AF rfl) rfl ?_
   refine AG 12 23 true _ rfl rfl rfl rfl ?_
   refine AG 12 23 true _ rfl rfl rfl rfl ?_
   refine AG 12 23 true _ rfl rfl rfl rfl ?_
   refine AG 12 23 true _ rfl rfl rfl rfl ?_
   refine AG 12 23 true _ rfl rfl rfl rfl ?_
   refine AA _ (A3 _ rfl rfl rfl) rfl ?_
   refine AA _ (AF rfl) rfl ?_
   refine AG 19 30 true _ rfl rfl rfl rfl ?_
   refine AG 19 30 true _ rfl rfl rfl rfl ?_
   refine AG 19 30 true _ rfl rfl rfl rfl ?_
   refine AG 19 30 true _ rfl rfl rfl rfl ?_
   refine AG 19 30 true _ rfl rfl rfl rfl ?_
   refine AA _ (A3 _ rfl rfl rfl) rfl ?_
   refine AA _ (AF rfl) rfl ?_
   refine AG 26 37 true _ rfl rfl rfl rfl ?_
   refine AG 26 37 true _ rfl rfl rfl rfl ?_
   refine AG 26 37 true _ rfl rfl rfl rfl ?_
   refine AG 26 37 true _ rfl rfl rfl rfl ?_
   refine AG 26 37 true _ rfl rfl rfl rfl ?_
   refine AA _ (A3 _ rfl rfl rfl) rfl ?_
   refine AA _ (AF rfl) rfl ?_
   refine AG 33 44 true _ rfl rfl rfl rfl ?_
   refine AG 33 44 true _ rfl rfl rfl rfl ?_
   refine AG 33 44 true _ rfl rfl rfl rfl ?_
   refine AG 33 44 true _ rfl rfl rfl rfl ?_
   refine AG 33 44 true _ rfl rfl rfl rfl ?_
   refine AA _ (A3 _ rfl rfl rfl) rfl ?_
   refine AA _ (AF rfl) rfl ?_
   refine AG 40 51 true _ rfl rfl rfl rfl ?_
   refine AG 40 51 true _ rfl rfl rfl rfl ?_
   refine AG 40 51 true _ rfl rfl rfl rfl ?_
   refine AG 40 51 true _ rfl rfl rfl rfl ?_
   refine AG 40 51 true _ rfl rfl rfl rfl ?_
   refine AA _ (A3 _ rfl rfl rfl) rfl ?_
   refine AA _ (AE rfl) rfl ?_
   refine AI (AC (BI (B4 [false, false, false, false] ?_)))
   show JQ _ _ _ _ []
   refine BH (.bool false) (res1 D8 (BC rfl)) fun w1 hw1 => ?_
   refine ⟨_, [], rfl, ⟨congrArg Value.bool ?_, rfl⟩, hw1.sub (by simp) (by simp)⟩
   first | (simp [*]; done) | (simp_all; done)
theorem may13_c (pv ep : UInt64) (kd : Int) (ai : Option Addr) (ni ci : Nat) (l : List UInt64) (sa : Option Addr) (ns sc : Nat) (ls : List SealR) (bl : UInt64) (tg : List UInt8)  (w : World) (hl : l.length = ni) (hnm : ni ≤ 2000000) (hnc : ni ≤ ci) (hcm : ci ≤ maxLen) (hv : RdV w ai (cu64 l)) (hls : ls.length = ns) (hnn : ns ≤ 2000000) (hnd : ns ≤ sc) (hcn : sc ≤ maxLen) (hs : RdV w sa (ls.flatMap sealC)) (htg : tg.length = 16)  : Calls Tryd.prog 128 #[.agg ([U64 pv, U64 ep, I64 (kd), SL ai ni ci, SL sa ns sc, U64 bl] ++ cu8 tg).toArray] w (Post w [] (fun v L => v = errV 50 (mayN pv ep kd l ls bl) ∧ L = [])) := by
 have hmx : maxLen = 9223372036854775807 := rfl
 refine enter (P := Tryd.prog) (f := 128) (fn := Tryd.f128) w [] 37 [] [.agg ([U64 pv, U64 ep, I64 (kd), SL ai ni ci, SL sa ns sc, U64 bl] ++ cu8 tg).toArray] Tryd.func128 rfl rfl (by simp) (BW (by simp) (by simp) (by simp)) ?_
 show JC _ _ _ [(0, .agg ([U64 pv, U64 ep, I64 (kd), SL ai ni ci, SL sa ns sc, U64 bl] ++ cu8 tg).toArray)] _
 refine AH (AB (A4 (C5 (.agg ([U64 pv, U64 ep, I64 (kd), SL ai ni ci, SL sa ns sc, U64 bl] ++ cu8 tg).toArray) ([U64 pv, U64 ep, I64 (kd), SL ai ni ci, SL sa ns sc, U64 bl] ++ cu8 tg) rfl (by first | rfl | simp)) rfl ?_))
 rintro v1 L1 ⟨nb1, hnb1, rfl, rfl⟩
 show JL _ _ _ _ ((1, Ptr nb1 0) :: _) [⟨nb1, [U64 pv, U64 ep, I64 (kd), SL ai ni ci, SL sa ns sc, U64 bl] ++ cu8 tg, 29, (0, 0)⟩]
 refine AA _ (AE rfl) rfl ?_
 refine AI (AC (AH (B5 (AH (AH (AB (AA (Ptr nb1 2) (AD 2 26 4 AV rfl BL rfl rfl) rfl ?_)))))))
 refine AA (.agg #[I64 (kd), SL ai ni ci, SL sa ns sc, U64 bl]) (AO rfl (BU EK BL rfl (AU 0 rfl (D6 (p := [U64 pv, U64 ep]) (q := cu8 tg) (vs := [I64 (kd), SL ai ni ci, SL sa ns sc, U64 bl]) (by first | rfl | (simp only [List.append_assoc, List.nil_append, List.append_nil, List.cons_append]; done)) rfl)))) rfl ?_
 refine A7 (A2 69 [.agg #[I64 (kd), SL ai ni ci, SL sa ns sc, U64 bl]] (.bool (RightO (kd) l ls bl)) (AS _ Tryd.call69 rfl) (fun w1 hw1 => right13_c (kd) ai ni ci l sa ns sc ls bl w1 hl (by omega) (by omega) (by omega) (C2 hw1 rfl hv) hls (by omega) (by omega) (by omega) (C2 hw1 rfl hs))) rfl ?_
 show JL _ _ _ _ ((6, .bool (RightO (kd) l ls bl)) :: _) [_]
 refine AA (.bool (!(RightO (kd) l ls bl))) (DG rfl) rfl ?_
 refine AA _ (AE rfl) rfl ?_
 refine AI (AC (B9 (!(RightO (kd) l ls bl)) rfl (fun hb1 => ?_) (fun hb1 => ?_)))
 ·
  have hb2 : (RightO (kd) l ls bl) = false := by simpa using hb1
  refine BF (AC (B3 _ rfl hb1 ?_))
  refine AH (AB (AA (.iface 50 (I64 2)) (C9 BM rfl rfl) rfl ?_))
  refine AA _ (AE rfl) rfl ?_
  refine AI (AC (BI (CD (A1 (B4 [false] ?_)))))
  show JQ _ _ _ _ []
  refine BH (.iface 50 (I64 2)) (res1 Tryd.results128 (BC rfl)) fun w1 hw1 => ?_
  have e1 : mayN pv ep kd l ls bl = 2 := by
   unfold mayN
   first | rw [if_pos ‹RightO kd l ls bl = true›] | rw [if_neg (by simp [*])]
   all_goals simp [*]
  rw [e1]
  exact ⟨_, [], rfl, ⟨rfl, rfl⟩, hw1.sub (by simp) (by simp)⟩
 ·
  have hb3 : (RightO (kd) l ls bl) = true := by simpa using hb1
  by_cases hk1 : kd = 1
  ·
   have hpos := RightO_pos hb3 hk1
   rw [hls, hl] at hpos
   obtain ⟨x1, hx1⟩ : ∃ x, ls[0]? = some x := ⟨_, List.getElem?_eq_getElem (by rw [hls]; omega)⟩
   obtain ⟨bz1, oz1, hz1, hm1⟩ := rows_at FM (by decide) hs hx1
   refine DC 37 1 [(0, Ptr nb1 2), (1, Ptr nb1 2), (2, I64 (kd)), (3, .bool (decide ((kd) = (1:Int)))), (4, .bool (decide ((kd) = (1:Int)))), (5, Ptr nb1 2), (6, Ptr nb1 4), (7, SL sa ns sc), (8, Ptr bz1 oz1), (9, Ptr bz1 oz1), (10, U64 x1.e), (11, Ptr nb1 1), (12, U64 ep), (13, .bool (decide (x1.e ≠ ep))), (14, .bool (decide (x1.e ≠ ep))), (15, .bool (decide (x1.e ≠ ep)))] CA rfl (by decide +kernel) ?_
   refine DU ⟨[], [0, 1, 2, 3, 4, 5, 6, 7, 8, 9, 10, 11, 12, 13, 14, 15], [], [0, 1, 2, 3, 4, 5, 6, 7, 8, 9, 10, 11, 12, 13, 14, 15], []⟩ rfl rfl (by decide +kernel) rfl ⟨⟨_, rfl, AL rfl (AD 2 26 4 AV rfl BL rfl rfl)⟩, ⟨_, rfl, AL rfl (AD 0 3 1 AZ rfl AT rfl rfl)⟩, ⟨_, rfl, AL rfl (AO rfl (A0 AY (AU 0 rfl (AJ (AK (AK (Seg.head)))))))⟩, ⟨_, rfl, AL rfl (AR rfl rfl fun _ => BK _ _)⟩, CG rfl rfl rfl, ⟨_, rfl, C3 4 12 true _ rfl rfl rfl (decide_eq_true hk1) (AD 2 26 4 AV rfl BL rfl rfl)⟩, ⟨_, rfl, C3 4 12 true _ rfl rfl rfl (decide_eq_true hk1) (AD 2 24 1 AZ rfl DE rfl rfl)⟩, ⟨_, rfl, C3 4 12 true _ rfl rfl rfl (decide_eq_true hk1) (AO rfl (A0 D9 (AU 0 rfl (AJ (AK (AK (AK (AK (Seg.head)))))))))⟩, ⟨_, rfl, C3 4 12 true _ rfl rfl rfl (decide_eq_true hk1) (EA 161 49 oz1 C4 B1 rfl hz1 rfl (by omega) (by omega) (by omega))⟩, ⟨_, rfl, C3 4 12 true _ rfl rfl rfl (decide_eq_true hk1) (AD 0 22 1 CN rfl A9 rfl rfl)⟩, ⟨_, rfl, C3 4 12 true _ rfl rfl rfl (decide_eq_true hk1) (AO rfl (A0 BN (DB (hm1.mem (by simp)) (AJ (AJ (Seg.head))) (by first | omega | (simp; done) | (simp; omega)))))⟩, ⟨_, rfl, C3 4 12 true _ rfl rfl rfl (decide_eq_true hk1) (AD 1 22 1 AV rfl A9 rfl rfl)⟩, ⟨_, rfl, C3 4 12 true _ rfl rfl rfl (decide_eq_true hk1) (AO rfl (A0 BN (AU 0 rfl (AJ (AK (Seg.head))))))⟩, ⟨_, rfl, C3 4 12 true _ rfl rfl rfl (decide_eq_true hk1) (AR rfl rfl fun _ => bin_neq_u64 x1.e ep)⟩, ⟨_, rfl, AL rfl (BD _ rfl (decide_eq_true hk1) rfl)⟩, ⟨_, rfl, AL rfl (AE rfl)⟩, trivial⟩ ?_
   refine C6 (F' := [(3, .bool (decide (x1.e ≠ ep))), (1, Ptr nb1 0), (2, .nilIface)]) (by kernel_rfl) ?_
   refine AC (B9 (decide (x1.e ≠ ep)) rfl (fun hb4 => ?_) (fun hb4 => ?_))
   ·
    have hp4 : x1.e ≠ ep := of_decide_eq_true hb4
    refine AH (AB (AA (.iface 50 (I64 2)) (C9 BM rfl rfl) rfl ?_))
    refine AA _ (AE rfl) rfl ?_
    refine AI (AC (BI (CD (A1 (B4 [false] ?_)))))
    show JQ _ _ _ _ []
    refine BH (.iface 50 (I64 2)) (res1 Tryd.results128 (BC rfl)) fun w1 hw1 => ?_
    have e1 : mayN pv ep kd l ls bl = 2 := by
     unfold mayN
     first | rw [if_pos ‹RightO kd l ls bl = true›] | rw [if_neg (by simp [*])]
     rw [headE_of hx1]
     all_goals simp [*]
    rw [e1]
    exact ⟨_, [], rfl, ⟨rfl, rfl⟩, hw1.sub (by simp) (by simp)⟩
   ·
    have hp4 : ¬ (x1.e ≠ ep) := of_decide_eq_false hb4
    refine AH (AB (AA (Ptr nb1 1) (AD 1 22 1 AV rfl A9 rfl rfl) rfl ?_))
    refine AA (U64 ep) (AO rfl (A0 BN (AU 0 rfl (AJ (AK (Seg.head)))))) rfl ?_
    refine A7 (A2 133 [U64 0, U64 ep] (.bool (RightB (0:UInt64) ep)) (AS _ Tryd.call133 rfl) (fun w1 hw1 => right_c (0:UInt64) ep w1 )) rfl ?_
    show JL _ _ _ _ ((27, .bool (RightB (0:UInt64) ep)) :: _) [_]
    refine AA (.bool (!(RightB (0:UInt64) ep))) (DG rfl) rfl ?_
    refine AA _ (AF rfl) rfl ?_
    rcases Bool.eq_false_or_eq_true (RightB (0:UInt64) ep) with hb5 | hb5
    ·
     refine AP 4 29 false _ (Ptr nb1 0) rfl rfl (by rw [show (RightB (0:UInt64) ep) = true from hb5] <;> rfl) (AD 0 22 1 AV rfl A9 rfl rfl) rfl ?_
     refine AP 4 29 false _ (U64 pv) rfl rfl (by rw [show (RightB (0:UInt64) ep) = true from hb5] <;> rfl) (AO rfl (A0 BN (AU 0 rfl (AJ (Seg.head))))) rfl ?_
     refine AP 4 29 false _ (Ptr nb1 1) rfl rfl (by rw [show (RightB (0:UInt64) ep) = true from hb5] <;> rfl) (AD 1 22 1 AV rfl A9 rfl rfl) rfl ?_
     refine AP 4 29 false _ (U64 ep) rfl rfl (by rw [show (RightB (0:UInt64) ep) = true from hb5] <;> rfl) (AO rfl (A0 BN (AU 0 rfl (AJ (AK (Seg.head)))))) rfl ?_
     refine AP 4 29 false _ (.bool (decide (ep ≤ pv))) rfl rfl (by rw [show (RightB (0:UInt64) ep) = true from hb5] <;> rfl) (AR rfl rfl fun _ => bin_geq_u64 pv ep) rfl ?_
     refine AA _ (A3 _ rfl (by rw [show (RightB (0:UInt64) ep) = true from hb5] <;> rfl) rfl) rfl ?_
     refine AA _ (AE rfl) rfl ?_
     refine AI (AC (B9 (decide (ep ≤ pv)) rfl (fun hb6 => ?_) (fun hb6 => ?_)))
     ·
      have hp6 : ep ≤ pv := of_decide_eq_true hb6
      refine AH (AB (AA (.iface 50 (I64 1)) (C9 BM rfl rfl) rfl ?_))
      refine AA _ (AE rfl) rfl ?_
      refine AI (AC (BI (CD (A1 (B4 [false] ?_)))))
      show JQ _ _ _ _ []
      refine BH (.iface 50 (I64 1)) (res1 Tryd.results128 (BC rfl)) fun w1 hw1 => ?_
      have e1 : mayN pv ep kd l ls bl = 1 := by
       unfold mayN
       first | rw [if_pos ‹RightO kd l ls bl = true›] | rw [if_neg (by simp [*])]
       rw [headE_of hx1]
       all_goals simp [*]
      rw [e1]
      exact ⟨_, [], rfl, ⟨rfl, rfl⟩, hw1.sub (by simp) (by simp)⟩
     ·
      have hp6 : ¬ (ep ≤ pv) := of_decide_eq_false hb6
      refine BF (BS (AC (AH (AB (AA _ (AE rfl) rfl ?_)))))
      refine AI (AC (BI (B4 [false] ?_)))
      show JQ _ _ _ _ []
      refine BH (.nilIface) (res1 Tryd.results128 (BC rfl)) fun w1 hw1 => ?_
      have e1 : mayN pv ep kd l ls bl = 0 := by
       unfold mayN
       first | rw [if_pos ‹RightO kd l ls bl = true›] | rw [if_neg (by simp [*])]
       rw [headE_of hx1]
       all_goals simp [*]
      rw [e1]
      exact ⟨_, [], rfl, ⟨rfl, rfl⟩, hw1.sub (by simp) (by simp)⟩
    ·
     refine AG 4 29 false _ rfl rfl (by rw [show (RightB (0:UInt64) ep) = false from hb5] <;> rfl) rfl ?_
     refine AG 4 29 false _ rfl rfl (by rw [show (RightB (0:UInt64) ep) = false from hb5] <;> rfl) rfl ?_
     refine AG 4 29 false _ rfl rfl (by rw [show (RightB (0:UInt64) ep) = false from hb5] <;> rfl) rfl ?_
     refine AG 4 29 false _ rfl rfl (by rw [show (RightB (0:UInt64) ep) = false from hb5] <;> rfl) rfl ?_
     refine AG 4 29 false _ rfl rfl (by rw [show (RightB (0:UInt64) ep) = false from hb5] <;> rfl) rfl ?_
     refine AA _ (BD _ rfl (by rw [show (RightB (0:UInt64) ep) = false from hb5] <;> rfl) rfl) rfl ?_
     refine AA _ (AE rfl) rfl ?_
     refine AI (AC (B3 _ rfl rfl ?_))
     refine AH (AB (AA (.iface 50 (I64 1)) (C9 BM rfl rfl) rfl ?_))
     refine AA _ (AE rfl) rfl ?_
     refine AI (AC (BI (CD (A1 (B4 [false] ?_)))))
     show JQ _ _ _ _ []
     refine BH (.iface 50 (I64 1)) (res1 Tryd.results128 (BC rfl)) fun w1 hw1 => ?_
     have e1 : mayN pv ep kd l ls bl = 1 := by
      unfold mayN
      first | rw [if_pos ‹RightO kd l ls bl = true›] | rw [if_neg (by simp [*])]
      rw [headE_of hx1]
      all_goals simp [*]
     rw [e1]
     exact ⟨_, [], rfl, ⟨rfl, rfl⟩, hw1.sub (by simp) (by simp)⟩
  ·
   refine DC 37 1 [(0, Ptr nb1 2), (1, Ptr nb1 2), (2, I64 (kd)), (3, .bool (decide ((kd) = (1:Int)))), (4, .bool (decide ((kd) = (1:Int)))), (5, undef), (6, undef), (7, undef), (8, undef), (9, undef), (10, undef), (11, undef), (12, undef), (13, undef), (14, .bool false), (15, .bool false)] CA rfl (by decide +kernel) ?_
   refine DU ⟨[], [0, 1, 2, 3, 4, 5, 6, 7, 8, 9, 10, 11, 12, 13, 14, 15], [], [0, 1, 2, 3, 4, 5, 6, 7, 8, 9, 10, 11, 12, 13, 14, 15], []⟩ rfl rfl (by decide +kernel) rfl ⟨⟨_, rfl, AL rfl (AD 2 26 4 AV rfl BL rfl rfl)⟩, ⟨_, rfl, AL rfl (AD 0 3 1 AZ rfl AT rfl rfl)⟩, ⟨_, rfl, AL rfl (AO rfl (A0 AY (AU 0 rfl (AJ (AK (AK (Seg.head)))))))⟩, ⟨_, rfl, AL rfl (AR rfl rfl fun _ => BK _ _)⟩, CG rfl rfl rfl, ⟨_, rfl, DN 4 12 true _ rfl rfl rfl (decide_eq_false hk1)⟩, ⟨_, rfl, DN 4 12 true _ rfl rfl rfl (decide_eq_false hk1)⟩, ⟨_, rfl, DN 4 12 true _ rfl rfl rfl (decide_eq_false hk1)⟩, ⟨_, rfl, DN 4 12 true _ rfl rfl rfl (decide_eq_false hk1)⟩, ⟨_, rfl, DN 4 12 true _ rfl rfl rfl (decide_eq_false hk1)⟩, ⟨_, rfl, DN 4 12 true _ rfl rfl rfl (decide_eq_false hk1)⟩, ⟨_, rfl, DN 4 12 true _ rfl rfl rfl (decide_eq_false hk1)⟩, ⟨_, rfl, DN 4 12 true _ rfl rfl rfl (decide_eq_false hk1)⟩, ⟨_, rfl, DN 4 12 true _ rfl rfl rfl (decide_eq_false hk1)⟩, ⟨_, rfl, AL rfl (A3 _ rfl (decide_eq_false hk1) rfl)⟩, ⟨_, rfl, AL rfl (AE rfl)⟩, trivial⟩ ?_
   refine C6 (F' := [(3, .bool false), (1, Ptr nb1 0), (2, .nilIface)]) (by kernel_rfl) ?_
   refine AC (BP _ rfl rfl ?_)
   refine AH (AB (AA (Ptr nb1 1) (AD 1 22 1 AV rfl A9 rfl rfl) rfl ?_))
   refine AA (U64 ep) (AO rfl (A0 BN (AU 0 rfl (AJ (AK (Seg.head)))))) rfl ?_
   refine A7 (A2 133 [U64 0, U64 ep] (.bool (RightB (0:UInt64) ep)) (AS _ Tryd.call133 rfl) (fun w1 hw1 => right_c (0:UInt64) ep w1 )) rfl ?_
   show JL _ _ _ _ ((27, .bool (RightB (0:UInt64) ep)) :: _) [_]
   refine AA (.bool (!(RightB (0:UInt64) ep))) (DG rfl) rfl ?_
   refine AA _ (AF rfl) rfl ?_
   rcases Bool.eq_false_or_eq_true (RightB (0:UInt64) ep) with hb7 | hb7
   ·
    refine AP 4 29 false _ (Ptr nb1 0) rfl rfl (by rw [show (RightB (0:UInt64) ep) = true from hb7] <;> rfl) (AD 0 22 1 AV rfl A9 rfl rfl) rfl ?_
    refine AP 4 29 false _ (U64 pv) rfl rfl (by rw [show (RightB (0:UInt64) ep) = true from hb7] <;> rfl) (AO rfl (A0 BN (AU 0 rfl (AJ (Seg.head))))) rfl ?_
    refine AP 4 29 false _ (Ptr nb1 1) rfl rfl (by rw [show (RightB (0:UInt64) ep) = true from hb7] <;> rfl) (AD 1 22 1 AV rfl A9 rfl rfl) rfl ?_
    refine AP 4 29 false _ (U64 ep) rfl rfl (by rw [show (RightB (0:UInt64) ep) = true from hb7] <;> rfl) (AO rfl (A0 BN (AU 0 rfl (AJ (AK (Seg.head)))))) rfl ?_
    refine AP 4 29 false _ (.bool (decide (ep ≤ pv))) rfl rfl (by rw [show (RightB (0:UInt64) ep) = true from hb7] <;> rfl) (AR rfl rfl fun _ => bin_geq_u64 pv ep) rfl ?_
    refine AA _ (A3 _ rfl (by rw [show (RightB (0:UInt64) ep) = true from hb7] <;> rfl) rfl) rfl ?_
    refine AA _ (AE rfl) rfl ?_
    refine AI (AC (B9 (decide (ep ≤ pv)) rfl (fun hb8 => ?_) (fun hb8 => ?_)))
    ·
     have hp8 : ep ≤ pv := of_decide_eq_true hb8
     refine AH (AB (AA (.iface 50 (I64 1)) (C9 BM rfl rfl) rfl ?_))
     refine AA _ (AE rfl) rfl ?_
     refine AI (AC (BI (CD (A1 (B4 [false] ?_)))))
     show JQ _ _ _ _ []
     refine BH (.iface 50 (I64 1)) (res1 Tryd.results128 (BC rfl)) fun w1 hw1 => ?_
     have e1 : mayN pv ep kd l ls bl = 1 := by
      unfold mayN
      first | rw [if_pos ‹RightO kd l ls bl = true›] | rw [if_neg (by simp [*])]
      all_goals simp [*]
     rw [e1]
     exact ⟨_, [], rfl, ⟨rfl, rfl⟩, hw1.sub (by simp) (by simp)⟩
    ·
     have hp8 : ¬ (ep ≤ pv) := of_decide_eq_false hb8
     refine BF (BS (AC (AH (AB (AA _ (AE rfl) rfl ?_)))))
     refine AI (AC (BI (B4 [false] ?_)))
     show JQ _ _ _ _ []
     refine BH (.nilIface) (res1 Tryd.results128 (BC rfl)) fun w1 hw1 => ?_
     have e1 : mayN pv ep kd l ls bl = 0 := by
      unfold mayN
      first | rw [if_pos ‹RightO kd l ls bl = true›] | rw [if_neg (by simp [*])]
      all_goals simp [*]
     rw [e1]
     exact ⟨_, [], rfl, ⟨rfl, rfl⟩, hw1.sub (by simp) (by simp)⟩
   ·
    refine AG 4 29 false _ rfl rfl (by rw [show (RightB (0:UInt64) ep) = false from hb7] <;> rfl) rfl ?_
    refine AG 4 29 false _ rfl rfl (by rw [show (RightB (0:UInt64) ep) = false from hb7] <;> rfl) rfl ?_
    refine AG 4 29 false _ rfl rfl (by rw [show (RightB (0:UInt64) ep) = false from hb7] <;> rfl) rfl ?_
    refine AG 4 29 false _ rfl rfl (by rw [show (RightB (0:UInt64) ep) = false from hb7] <;> rfl) rfl ?_
    refine AG 4 29 false _ rfl rfl (by rw [show (RightB (0:UInt64) ep) = false from hb7] <;> rfl) rfl ?_
    refine AA _ (BD _ rfl (by rw [show (RightB (0:UInt64) ep) = false from hb7] <;> rfl) rfl) rfl ?_
    refine AA _ (AE rfl) rfl ?_
    refine AI (AC (B3 _ rfl rfl ?_))
    refine AH (AB (AA (.iface 50 (I64 1)) (C9 BM rfl rfl) rfl ?_))
    refine AA _ (AE rfl) rfl ?_
    refine AI (AC (BI (CD (A1 (B4 [false] ?_)))))
    show JQ _ _ _ _ []
    refine BH (.iface 50 (I64 1)) (res1 Tryd.results128 (BC rfl)) fun w1 hw1 => ?_
    have e1 : mayN pv ep kd l ls bl = 1 := by
     unfold mayN
     first | rw [if_pos ‹RightO kd l ls bl = true›] | rw [if_neg (by simp [*])]
     all_goals simp [*]
    rw [e1]
    exact ⟨_, [], rfl, ⟨rfl, rfl⟩, hw1.sub (by simp) (by simp)⟩
end Go.Proofs.YtkdpdgpphpngeaaDoor
