import Derived.Test.YtkdpdgpphpngeaaDoorPkB1
set_option linter.unusedVariables false
set_option linter.unusedSimpArgs false
set_option maxRecDepth 100000
namespace Go.Proofs.YtkdpdgpphpngeaaDoor
open Go Go.Sx Go.RowKit
open Go.Value renaming slice → SL
open Go.ChangeShapes Go.WideShapes
structure ItemR where
 b : Bool
 s : SealR
theorem ItemR.eq_iff (x y : ItemR) : x = y ↔ x.b = y.b ∧ x.s.e = y.s.e ∧ x.s.d = y.s.d ∧ x.s.t = y.s.t := by
 refine ⟨fun h => by rw [h]; exact ⟨rfl, rfl, rfl, rfl⟩, fun h => ?_⟩
 obtain ⟨a, s⟩ := x
 obtain ⟨a', s'⟩ := y
 obtain ⟨h1, h2⟩ := h
 have h3 : s = s' := (SealR.eq_iff s s').2 h2
 have h1 : a = a' := h1
 rw [h1, h3]
instance : DecidableEq ItemR := fun x y => decidable_of_iff _ (ItemR.eq_iff x y).symm
def itemC (x : ItemR) : List Value := [.bool x.b] ++ sealC x.s
theorem itemC_eq (x : ItemR) : itemC x = [.bool x.b, U64 x.s.e] ++ cu8 x.s.d ++ cu8 x.s.t := by simp [itemC, sealC]
theorem itemC_len (x : ItemR) : (itemC x).length = 50 := by unfold itemC; rw [List.length_append, FH]; rfl
def plainV (b : Bool) (e : UInt64) (d t : List UInt8) : Bool := b || decide (e = 0 ∧ d = zr8 32 ∧ t = zr8 16)
def plainB (x : ItemR) : Bool := plainV x.b x.s.e x.s.d x.s.t
section
variable {C : Cx} {F : Frm} {L : List Ent}
theorem res4 {fn : Func} {r s q p : ResultVar} {v u x y : Value} (hr : fn.results = #[r, s, q, p]) (h : RV C F L r v) (h' : RV C F L s u) (h2 : RV C F L q x) (h3 : RV C F L p y) :
  ∀ a w, Fr F C a → Hp C.w0 C.M L w → (results fn a.tmps).run C.P w = .ok (.tuple #[v, u, x, y]) w := fun a w ha hw => by
 have e1 := h a w ha hw
 have e2 := h' a w ha hw
 have e3 := h2 a w ha hw
 have e4 := h3 a w ha hw
 simp [results_eq, hr, e1, e2, e3, e4]
theorem one_item (z : ItemR) : ∀ v ∈ itemC z, v.oneCell' = true := by
  intro v hv
  unfold itemC at hv
  simp only [List.mem_append, List.mem_cons, List.not_mem_nil, or_false] at hv
  rcases hv with rfl | hv
  · rfl
  · exact one_seal _ v hv
theorem itrows_len (l : List ItemR) : (l.flatMap itemC).length = l.length * 50 := by
 induction l with
 | nil => rfl
 | cons a l ih => rw [List.flatMap_cons, List.length_append, itemC_len, ih, List.length_cons]; omega
theorem Step_appI {x y : Operand} {ty : TypeId} (t e bytes : Nat) (zv : Value) (m : List Bool) (v : Value) (n : Nat) (l : List ItemR) (z : ItemR) (ao : Option Addr) (c tot : Nat)
    (hu : C.P.underlying t = some (.slice e)) (hi : (C.P.info? e).map (fun i => (i.zero, i.size, i.bytes)) = some (some zv, 50, bytes)) (hzs : zv.cells.size = 50)
    (hx : ev F x = some v)
    (hv : (v = .slice none 0 0 ∧ n = 0 ∧ l = [] ∧ take? m L = []) ∨ (∃ g sp cap, v = Slc g 0 n cap ∧ take? m L = [⟨g, l.flatMap itemC ++ sp, e, (0, 0)⟩] ∧ l.length = n ∧ sp.length = cap * 50 - n * 50 ∧ n ≤ cap ∧ cap ≤ maxLen))
    (hy : ev F y = some (.slice ao 1 c)) (hm : SrcAt C L ao (itemC z)) (hmax : (n + 1) * bytes ≤ 140737488355328) (hmax' : n + 1 ≤ maxLen) (htot : n + 1 = tot) :
    Step C F L (.call { callee := .builtin .append, args := #[x, y], argTypes := #[t, t] }) ty fun v' L' => ∃ g sp cap, (C.w0.heap.size ≤ g ∨ g ∈ C.M) ∧ v' = Slc g 0 tot cap ∧ L' = rest? m L ++ [⟨g, (l ++ [z]).flatMap itemC ++ sp, e, (0, 0)⟩] ∧ (l ++ [z]).length = tot ∧ sp.length = cap * 50 - tot * 50 ∧ tot ≤ cap ∧ cap ≤ maxLen := by
  subst htot
  have hv' : (v = .slice none 0 0 ∧ n = 0 ∧ l.flatMap itemC = [] ∧ take? m L = [] ∧ 0 < 1) ∨ (∃ g sp cap, v = Slc g 0 n cap ∧ take? m L = [⟨g, l.flatMap itemC ++ sp, e, (0, 0)⟩] ∧ (l.flatMap itemC).length = n * 50 ∧ (l.flatMap itemC ++ sp).length = cap * 50 ∧ n ≤ cap ∧ cap ≤ maxLen) := by
    rcases hv with ⟨h1, h2, h3, h4⟩ | ⟨g, sp, cap, h1, h2, h3, h4, h5, h6⟩
    · exact .inl ⟨h1, h2, by rw [h3]; rfl, h4, by omega⟩
    · refine .inr ⟨g, sp, cap, h1, h2, by rw [itrows_len, h3], ?_, h5, h6⟩
      rw [List.length_append, h4, itrows_len, h3]; omega
  have h := Step_append (C := C) (F := F) (L := L) (x := x) (y := y) (ty := ty) t e 50 bytes zv m v n (l.flatMap itemC) (itemC z) ao 1 c hu hi hzs (by decide) hx hv' hy (by rw [itemC_len]) hm (one_item z) hmax hmax'
  intro a w ha hw d pos aft g Kk Q hq
  refine h a w ha hw d pos aft g Kk Q ?_
  rintro v' L' w' ⟨g, sp, cap, h1, h2, h3, h4, h5, h6, h7⟩ hw'
  have e1 : l.flatMap itemC ++ itemC z = (l ++ [z]).flatMap itemC := by rw [List.flatMap_append]; simp
  rw [e1] at h3 h4 h5
  rw [itrows_len] at h4
  refine hq v' L' w' ⟨g, sp, cap, h1, h2, h3, by omega, ?_, h6, h7⟩ hw'
  rw [List.length_append, itrows_len] at h5
  omega
end
theorem take_mid2 (z : List UInt8) (i : Nat) : z.take (32*i) ++ mid z (32*i) 32 = z.take (32*(i + 1)) := by rw [Nat.mul_succ, List.take_add]; rfl
def itB (er rk : Int) : Bool := decide (er = 0) && (decide (rk = 1) || decide (rk = 2))
def chB (er rk : Int) (th : Bool) : Bool := decide (er = 0) && (decide (rk = 4) && th)
def bB (er rk : Int) (th : Bool) : Bool := decide (er = 0) && ((decide (rk = 1) || decide (rk = 2)) || (decide (rk = 3) || (decide (rk = 4) && th)))
def aB (er rk : Int) (th : Bool) : Bool := bB er rk th && decide (rk ≠ 1)
def c1B (er rk : Int) : Bool := decide (1 ≤ rk ∧ rk ≤ 5 ∧ 0 ≤ er ∧ er ≤ 14)
def c2B (it : Bool) (lj : List ItemR) : Bool := if it then decide (1 ≤ lj.length ∧ lj.length ≤ 256) && !(lj.any (fun x => !plainB x)) else decide (lj.length = 0)
def c3B (ch th bt my : Bool) : Bool := if ch then my else (!th && bt)
def c4B (a b : Bool) (na nb : Nat) : Bool := decide (na ≤ 256 ∧ nb ≤ 8192) && ((a || decide (na = 0)) && (b || decide (nb = 0)))
theorem c1_no {er rk : Int} (h : ¬ (1 ≤ rk ∧ rk ≤ 5 ∧ 0 ≤ er ∧ er ≤ 14)) : true = !(c1B er rk) := by rw [show c1B er rk = false from decide_eq_false h]; rfl
theorem c1_last {er rk : Int} (h : 1 ≤ rk ∧ rk ≤ 5 ∧ 0 ≤ er) : decide (14 < er) = !(c1B er rk) := by
 unfold c1B; rw [← decide_not]; exact decide_eq_decide.2 (by omega)
theorem c2_t {it : Bool} {lj : List ItemR} (h : (it && !(c2B true lj)) = true) : c2B it lj = false := by
  cases it
  · simp at h
  · simpa using h
theorem c2_f {it : Bool} {lj : List ItemR} (h : (it && !(c2B true lj)) = false) (hi : it = true) : c2B it lj = true := by
 subst hi; simpa using h
theorem c2_n {lj : List ItemR} {n : Nat} (hl : lj.length = n) : c2B false lj = decide (n = 0) := by subst hl; rfl
theorem c2_e {lj : List ItemR} {n : Nat} (hl : lj.length = n) (h : 1 ≤ n ∧ n ≤ 256) : lj.any (fun x => !plainB x) = !(c2B true lj) := by
 subst hl
 unfold c2B
 rw [if_pos rfl, decide_eq_true h]
 simp
theorem c2_no {lj : List ItemR} {n : Nat} (hl : lj.length = n) (h : ¬ (1 ≤ n ∧ n ≤ 256)) : true = !(c2B true lj) := by
 subst hl
 unfold c2B
 rw [if_pos rfl, decide_eq_false h]
 rfl
theorem c3_t {ch th bt my : Bool} (h : (ch && !my) = true) : c3B ch th bt my = false := by
 cases ch <;> cases my <;> simp_all [c3B]
theorem c3_f {ch th bt my : Bool} (h : (ch && !my) = false) (hc : ch = true) : c3B ch th bt my = true := by
 subst hc; cases my <;> simp_all [c3B]
theorem c3_n {th bt my : Bool} : c3B false th bt my = (!th && bt) := rfl
def repR (rk er : Int) (th : Bool) (lj : List ItemR) (bt my : Bool) (na nb : Nat) : Bool :=
 c1B er rk && (c2B (itB er rk) lj && (c3B (chB er rk th) th bt my && c4B (aB er rk th) (bB er rk th) na nb))
def itmT (x : ItemR) : List UInt8 := if x.b then numK 1 (bitU x.b) 1 ++ putL x.s.e x.s.d x.s.t else numK 1 (bitU x.b) 1
def itmsT (l : List ItemR) : List UInt8 := l.flatMap itmT
theorem itmsT_nil : itmsT [] = [] := rfl
theorem itm_t {x : ItemR} (h : x.b = true) : itmT x = numK 1 (bitU x.b) 1 ++ putL x.s.e x.s.d x.s.t := by unfold itmT; rw [if_pos h]
theorem itm_f {x : ItemR} (h : x.b = false) : itmT x = numK 1 (bitU x.b) 1 := by unfold itmT; rw [if_neg (by rw [h]; decide)]
theorem itms_step {l : List ItemR} {i : Nat} {x : ItemR} (h : l[i]? = some x) : itmsT (l.take i) ++ itmT x = itmsT (l.take (i + 1)) := by
 unfold itmsT
 rw [← take_step h, List.flatMap_append]; simp
theorem itms_le (l : List ItemR) : (itmsT l).length ≤ 57 * l.length := by
  induction l with
  | nil => simp [itmsT]
  | cons a l ih =>
    have h1 : (itmT a).length ≤ 57 := by
      unfold itmT
      split
      · rw [List.length_append, AZ, putL_len a.s.hd a.s.ht]; omega
      · rw [AZ]; omega
    unfold itmsT at ih ⊢
    rw [List.flatMap_cons, List.length_append, List.length_cons]; omega
theorem repR_all {rk er : Int} {th bt my : Bool} {lj : List ItemR} {na nb : Nat} (h : repR rk er th lj bt my na nb = true) : c1B er rk = true ∧ c2B (itB er rk) lj = true ∧ c3B (chB er rk th) th bt my = true ∧ c4B (aB er rk th) (bB er rk th) na nb = true := by
 unfold repR at h
 simpa [Bool.and_eq_true] using h
theorem repR_f {rk er : Int} {th bt my : Bool} {lj : List ItemR} {na nb nj : Nat} (hl : lj.length = nj) (h : repR rk er th lj bt my na nb = true) : 1 ≤ rk ∧ rk ≤ 5 ∧ 0 ≤ er ∧ er ≤ 14 := of_decide_eq_true (repR_all h).1
theorem itB_ne {er rk : Int} (h : er ≠ 0) : itB er rk = false := by unfold itB; rw [decide_eq_false h]; rfl
theorem chB_ne {er rk : Int} {th : Bool} (h : er ≠ 0) : chB er rk th = false := by unfold chB; rw [decide_eq_false h]; rfl
theorem bB_ne {er rk : Int} {th : Bool} (h : er ≠ 0) : bB er rk th = false := by unfold bB; rw [decide_eq_false h]; rfl
theorem aB_ne {er rk : Int} {th : Bool} (h : er ≠ 0) : aB er rk th = false := by unfold aB; rw [bB_ne h]; rfl
theorem c2_len1 {lj : List ItemR} {nj : Nat} (hl : lj.length = nj) (h : c2B true lj = true) : 1 ≤ nj ∧ nj ≤ 256 := by
 subst hl
 unfold c2B at h
 rw [if_pos rfl, Bool.and_eq_true] at h
 exact of_decide_eq_true h.1
theorem c2_len0 {lj : List ItemR} {nj : Nat} (hl : lj.length = nj) (h : c2B false lj = true) : nj = 0 := by
 rw [c2_n hl] at h
 exact of_decide_eq_true h
theorem repR_2 {rk er : Int} {th bt my it : Bool} {lj : List ItemR} {na nb : Nat} (h : repR rk er th lj bt my na nb = true) (hi : itB er rk = it) : c2B it lj = true := by rw [← hi]; exact (repR_all h).2.1
theorem repR_E {rk er : Int} {th bt my : Bool} {lj : List ItemR} {na nb nj : Nat} (hl : lj.length = nj) (hE : er ≠ 0) (h : repR rk er th lj bt my na nb = true) : nj = 0 := c2_len0 hl (repR_2 h (itB_ne hE))
section
variable {H : Type} {enc : TypeId × Value → H} {P : Program} {w : World} {base : Nat} {spare : Nat → Bool} {held : Bool} {sz : Bool} {t : TypeId} {cs : List Value}
theorem TD.slItem {e bo se c64 a32 a16 u8 : TypeId} {fs gs : Array Field} (ht : P.underlying t = some (.slice e)) (hs : P.cellsOf e = 50) (hb : P.bytesOf e ≠ 0) (hst : P.underlying e = some (.struct gs))
  (g0 : (gs[0]?).map (fun f => (f.offset, f.type)) = some (0, bo)) (g1 : (gs[1]?).map (fun f => (f.offset, f.type)) = some (1, se)) (ub : P.underlying bo = some .bool) (cb : P.cellsOf bo = 1) (us : P.underlying se = some (.struct fs)) (cs49 : P.cellsOf se = 49)
  (f0 : (fs[0]?).map (fun f => (f.offset, f.type)) = some (0, c64)) (f1 : (fs[1]?).map (fun f => (f.offset, f.type)) = some (1, a32)) (f2 : (fs[2]?).map (fun f => (f.offset, f.type)) = some (33, a16))
  (uc : P.underlying c64 = some (.int .u64)) (ud : P.underlying a32 = some (.array 32 u8)) (ut : P.underlying a16 = some (.array 16 u8)) (uu : P.underlying u8 = some (.int .u8)) (cc : P.cellsOf c64 = 1) (cd : P.cellsOf a32 = 32) (ct : P.cellsOf a16 = 16) (cu : P.cellsOf u8 = 1)
  (h : TD enc P w base spare held sz t cs) :
  ∃ (ao : Option Addr) (n c : Nat) (ls : List ItemR), cs = [.slice ao n c] ∧ ls.length = n ∧ (ao = none → c = 0) ∧ (n ≤ c ∧ c ≤ maxLen) ∧ RdV w ao (ls.flatMap itemC) := by
 obtain ⟨ao, n, c, al, h1, h2, h3, h4, h5, h6, h7⟩ := TD.rows (f := itemC) (G := fun _ => True) (b := P.bytesOf e) ht hs (by decide) rfl (Nat.pos_of_ne_zero hb) itemC_len (fun cs' hcs => by
  have hl : cs'.length = 50 := (TD.slen hst hcs).trans hs
  obtain ⟨b, e0⟩ := TD.bool ub (DY 0 0 bo 1 hst g0 cb hcs)
  have hq := DY 1 1 se 49 hst g1 cs49 hcs
  obtain ⟨x, e1⟩ := TD.u64 uc (TD.sub (o := 1) (DY 0 0 c64 1 us f0 cc hq) (by decide) (by decide))
  obtain ⟨d, e2, k1⟩ := TD.arr8 ud uu cu cd (TD.sub (o := 2) (DY 1 1 a32 32 us f1 cd hq) (by decide) (by decide))
  obtain ⟨q, e3, k2⟩ := TD.arr8 ut uu cu ct (TD.sub (o := 34) (DY 2 33 a16 16 us f2 ct hq) (by decide) (by decide))
  refine ⟨⟨b, ⟨x, d, q, k1, k2⟩⟩, ?_, trivial⟩
  rw [itemC_eq]
  exact cat_end (EK (EK (EK (cat0 e0) e1 rfl) e2 rfl) e3 rfl) hl) h
 exact ⟨ao, n, c, al, h1, h2, h4, h5, h6⟩
end
end Go.Proofs.YtkdpdgpphpngeaaDoor
namespace Go.Proofs.YtkdpdgpphpngeaaDoor
open Go Go.Sx
open Go.Value renaming slice → SL
attribute [local irreducible] mid zr8 numK valK
theorem leftZ_c (rb e : Nat) (ao : Option Addr) (n c : Nat) (w : World) (hw : RdA w rb 0 [errV 50 e, SL ao n c]) (he : e = 0) : Calls Tryd.prog 61 #[Ptr rb 0] w (Post w [] (fun v L => v = I64 (n : Int) ∧ L = [])) := by
 refine enter w [] 18 [] [Ptr rb 0] Tryd.func61 rfl rfl (by simp) (BZ (by simp) (by simp) (by simp)) ?_
 show JC _ _ _ [(0, Ptr rb 0)] _
 refine AF (AC (AA _ (AE rfl) rfl ?_))
 refine AJ (AD (AF (AF (AC (AA _ (AG rfl) rfl ?_)))))
 refine AA (.bool false) (DM _ _ _ rfl rfl (fun _ => FK ..) fun _ => FR Tryd.underlying110) rfl ?_
 refine AA _ (AG rfl) rfl ?_
 refine AM 2 5 false _ _ rfl rfl rfl (AG rfl) rfl ?_
 refine AM 2 5 false _ _ rfl rfl rfl (CU rfl) rfl ?_
 refine AM 2 5 false _ (Ptr rb 0) rfl rfl rfl (AB 0 147 1 DO rfl Tryd.sizeOf147 rfl rfl) rfl ?_
 refine AM 2 5 false _ (Ptr rb 0) rfl rfl rfl (AB 0 45 1 EV rfl Tryd.sizeOf45 rfl rfl) rfl ?_
 refine AM 2 5 false _ _ rfl rfl rfl (AL rfl (AX Tryd.isAgg45 (C9 (hw.mem (by simp)) (Seg.head) (by first | omega | (simp; done) | (simp; omega))))) rfl ?_
 refine AM 2 5 false _ (.bool (!(decide (e = 0)))) rfl rfl rfl (DM _ _ _ rfl rfl (fun _ => CE ..) fun _ => DW BG _ _) rfl ?_
 refine AA _ (A5 _ rfl rfl rfl) rfl ?_
 refine AJ (AD (BT _ rfl (by rw [show (decide (e = 0)) = true from (decide_eq_true he)] <;> rfl) ?_))
 refine BH (AD (AF (AC (AA _ (AG rfl) rfl ?_))))
 refine AA _ (CU rfl) rfl ?_
 refine AA (Ptr rb 1) (AB 1 43 1 DO rfl CJ rfl rfl) rfl (AA _ (AL rfl (AX D4 (C9 (hw.mem (by simp)) (AH (Seg.head)) (by first | omega | (simp; done) | (simp; omega))))) rfl ?_)
 refine AA (I64 n) (DA BM rfl) rfl (AA _ (AE rfl) rfl ?_)
 refine AJ (AD (BK (BJ (I64 n) (res1 Tryd.results61 (BF rfl)) fun w1 hw1 => ?_)))
 exact ⟨_, [], rfl, ⟨rfl, rfl⟩, hw1.no⟩
theorem leftE_c (rb e : Nat) (sv : Value) (w : World) (hw : RdA w rb 0 [errV 50 e, sv]) (he : e ≠ 0) : Calls Tryd.prog 61 #[Ptr rb 0] w (Post w [] (fun v L => v = I64 0 ∧ L = [])) := by
 refine enter w [] 18 [] [Ptr rb 0] Tryd.func61 rfl rfl (by simp) (BZ (by simp) (by simp) (by simp)) ?_
 show JC _ _ _ [(0, Ptr rb 0)] _
 refine AF (AC (AA _ (AE rfl) rfl ?_))
 refine AJ (AD (AF (AF (AC (AA _ (AG rfl) rfl ?_)))))
 refine AA (.bool false) (DM _ _ _ rfl rfl (fun _ => FK ..) fun _ => FR Tryd.underlying110) rfl ?_
 refine AA _ (AG rfl) rfl ?_
 refine AM 2 5 false _ _ rfl rfl rfl (AG rfl) rfl ?_
 refine AM 2 5 false _ _ rfl rfl rfl (CU rfl) rfl ?_
 refine AM 2 5 false _ (Ptr rb 0) rfl rfl rfl (AB 0 147 1 DO rfl Tryd.sizeOf147 rfl rfl) rfl ?_
 refine AM 2 5 false _ (Ptr rb 0) rfl rfl rfl (AB 0 45 1 EV rfl Tryd.sizeOf45 rfl rfl) rfl ?_
 refine AM 2 5 false _ _ rfl rfl rfl (AL rfl (AX Tryd.isAgg45 (C9 (hw.mem (by simp)) (Seg.head) (by first | omega | (simp; done) | (simp; omega))))) rfl ?_
 refine AM 2 5 false _ (.bool (!(decide (e = 0)))) rfl rfl rfl (DM _ _ _ rfl rfl (fun _ => CE ..) fun _ => DW BG _ _) rfl ?_
 refine AA _ (A5 _ rfl rfl rfl) rfl ?_
 refine AJ (AD (CH _ rfl (by rw [show (decide (e = 0)) = false from (decide_eq_false he)] <;> rfl) ?_))
 refine AF (AC (AA _ (AE rfl) rfl ?_))
 refine AJ (AD (BK (A6 (BJ (I64 0) (res1 Tryd.results61 (BF rfl)) fun w1 hw1 => ?_))))
 exact ⟨_, [], rfl, ⟨rfl, rfl⟩, hw1.no⟩
theorem left_w (rb e : Nat) (ao : Option Addr) (n c : Nat) (w : World) (hw : RdA w rb 0 [errV 50 e, SL ao n c]) : Calls Tryd.prog 61 #[Ptr rb 0] w (Post w [] (fun v L => v = I64 ((leftN e n : Nat) : Int) ∧ L = [])) := by
  by_cases he : e = 0
  · rw [leftN, if_pos he]; exact leftZ_c rb e ao n c w hw he
  · rw [leftN, if_neg he]; exact leftE_c rb e _ w hw he
theorem failRd_c (rb e k : Nat) (sv : Value) (w : World) (h0 : w.heap[rb]? = some (.cells [errV 50 e, sv].toArray 204 (0, 0)))  : Calls Tryd.prog 121 #[Ptr rb 0, errV 50 k] w (Post w [rb] (fun v L => v = .tuple #[] ∧ L = [(Ez rb [errV 50 (erN e k), sv] 204)])) := by
 refine enter w [rb] 11 [(Ez rb [errV 50 e, sv] 204)] [Ptr rb 0, errV 50 k] Tryd.func121 rfl rfl (by simp) (BZ (by simpa using h0) (by simp) (by simp)) ?_
 show JC _ _ _ [(0, Ptr rb 0), (1, errV 50 k)] _
 refine AF (AC (AA _ (AG rfl) rfl ?_))
 refine AA (.bool true) (DM _ _ _ rfl rfl (fun _ => FK ..) fun _ => neq_ptr_nil Tryd.underlying110) rfl ?_
 refine AJ (AD (CH _ rfl rfl ?_))
 refine AC (AA _ (AG rfl) rfl ?_)
 refine AA _ (CU rfl) rfl ?_
 refine AA (Ptr rb 0) (AB 0 147 1 DO rfl Tryd.sizeOf147 rfl rfl) rfl (AA _ (AG rfl) rfl ?_)
 refine A2 (D7 144 [Ptr rb 0, errV 50 k] 0 (Ez rb [errV 50 e, sv] 204) _ (fun v e' l' => v = .tuple #[] ∧ e' = (Ez rb [errV 50 (erN e k), sv] 204) ∧ l' = []) (AV _ Tryd.call144 rfl) rfl (by rintro v l ⟨rfl, rfl⟩; exact ⟨_, _, rfl, rfl, rfl, rfl, rfl⟩) (fun w1 hw1 => failR_c rb e k sv w1 (hw1.en 0 rfl))) rfl ?_
 rintro v1 L1 ⟨_, _, ⟨rfl, rfl, rfl⟩, rfl⟩
 show JL _ _ _ _ ((10, .tuple #[]) :: _) [(Ez rb [errV 50 (erN e k), sv] 204)]
 refine AJ (JQ_end (.tuple #[]) (res0 Tryd.results121 ) fun w1 hw1 => ?_)
 exact ⟨_, _, rfl, ⟨rfl, rfl⟩, hw1⟩
theorem EX (rb e k : Nat) (sv : Value) (w : World) (hk : k ≠ 0) (h0 : w.heap[rb]? = some (.cells [errV 50 e, sv].toArray 204 (0, 0))) : Calls Tryd.prog 121 #[Ptr rb 0, .iface 50 (I64 (k : Int))] w (Post w [rb] (fun v L => v = .tuple #[] ∧ L = [(Ez rb [errV 50 (erN e k), sv] 204)])) := by
 have h := failRd_c rb e k sv w h0
 rw [errV_pos hk] at h
 exact h
theorem rawRB0_c (rb e : Nat) (ao : Option Addr) (n c : Nat) (s : Int) (w : World) (h0 : w.heap[rb]? = some (.cells [errV 50 e, SL ao n c].toArray 204 (0, 0))) (he : e = 0) (hs : s < 0 ∨ (n:Int) < s) : Calls Tryd.prog 127 #[Ptr rb 0, I64 (s)] w (Post w [rb] (fun v L => v = SL none 0 0 ∧ L = [(Ez rb [errV 50 (erN e 2), SL ao n c] 204)])) := by
 refine enter w [rb] 36 [(Ez rb [errV 50 e, SL ao n c] 204)] [Ptr rb 0, I64 (s)] Tryd.func127 rfl rfl (by simp) (BZ (by simpa using h0) (by simp) (by simp)) ?_
 show JC _ _ _ [(0, Ptr rb 0), (1, I64 (s))] _
 refine AF (AC (AA _ (AE rfl) rfl ?_))
 refine AJ (AD (AF (AF (AC (AA _ (AG rfl) rfl ?_)))))
 refine AA (.bool (decide ((s) < (0:Int)))) (AT rfl rfl fun _ => CL _ _) rfl ?_
 refine AA _ (AG rfl) rfl ?_
 rcases Bool.eq_false_or_eq_true (decide ((s) < (0:Int))) with hb1 | hb1
 ·
  have hp1 : (s) < (0:Int) := of_decide_eq_true hb1
  refine A9 4 2 8 false _ rfl rfl hb1 rfl (AA _ (BA _ rfl hb1 rfl) rfl ?_)
  refine AJ (AD (CH _ rfl rfl ?_))
  refine AF (AC (AA _ (AG rfl) rfl ?_))
  refine AA (.iface 50 (I64 2)) (DH BN rfl rfl) rfl ?_
  refine A2 (D7 121 [Ptr rb 0, .iface 50 (I64 2)] 0 (Ez rb [errV 50 e, SL ao n c] 204) _ (fun v e' l' => v = .tuple #[] ∧ e' = (Ez rb [errV 50 (erN e 2), SL ao n c] 204) ∧ l' = []) (AV _ ED rfl) rfl (by rintro v l ⟨rfl, rfl⟩; exact ⟨_, _, rfl, rfl, rfl, rfl, rfl⟩) (fun w1 hw1 => EX rb e 2 (SL ao n c) w1 (by decide) (hw1.en 0 rfl))) rfl ?_
  rintro v1 L1 ⟨_, _, ⟨rfl, rfl, rfl⟩, rfl⟩
  show JL _ _ _ _ ((16, .tuple #[]) :: _) [(Ez rb [errV 50 (erN e 2), SL ao n c] 204)]
  refine AJ (AD (AF (AC (AA _ (AE rfl) rfl ?_))))
  refine AJ (AD (BK (A6 (BJ (SL none 0 0) (res1 Tryd.results127 (BF rfl)) fun w1 hw1 => ?_))))
  exact ⟨_, _, rfl, ⟨rfl, rfl⟩, hw1⟩
 ·
  have hp1 : ¬ ((s) < (0:Int)) := of_decide_eq_false hb1
  refine AM 2 8 false _ _ rfl rfl hb1 (AG rfl) rfl ?_
  refine AM 2 8 false _ _ rfl rfl hb1 (AG rfl) rfl ?_
  refine DC 2 8 false _ rfl rfl hb1 (A3 61 _ (I64 n) (AV _ EA rfl) (fun w1 hw1 => leftZ_c rb e ao n c w1 (RdA.of hw1 (AR 0 rfl (AN _)) (by simp)) he)) rfl ?_
  rintro v1 L1 ⟨rfl, rfl⟩
  show JL _ _ _ _ ((11, I64 n) :: _) [_]
  refine AM 2 8 false _ (.bool (decide (((n:Int)) < (s)))) rfl rfl hb1 (AT rfl rfl fun _ => DJ _ _) rfl ?_
  refine AA _ (A5 _ rfl hb1 rfl) rfl ?_
  refine AJ (AD (CH _ rfl (decide_eq_true (by omega)) ?_))
  refine AF (AC (AA _ (AG rfl) rfl ?_))
  refine AA (.iface 50 (I64 2)) (DH BN rfl rfl) rfl ?_
  refine A2 (D7 121 [Ptr rb 0, .iface 50 (I64 2)] 0 (Ez rb [errV 50 e, SL ao n c] 204) _ (fun v e' l' => v = .tuple #[] ∧ e' = (Ez rb [errV 50 (erN e 2), SL ao n c] 204) ∧ l' = []) (AV _ ED rfl) rfl (by rintro v l ⟨rfl, rfl⟩; exact ⟨_, _, rfl, rfl, rfl, rfl, rfl⟩) (fun w1 hw1 => EX rb e 2 (SL ao n c) w1 (by decide) (hw1.en 0 rfl))) rfl ?_
  rintro v1 L1 ⟨_, _, ⟨rfl, rfl, rfl⟩, rfl⟩
  show JL _ _ _ _ ((16, .tuple #[]) :: _) [(Ez rb [errV 50 (erN e 2), SL ao n c] 204)]
  refine AJ (AD (AF (AC (AA _ (AE rfl) rfl ?_))))
  refine AJ (AD (BK (A6 (BJ (SL none 0 0) (res1 Tryd.results127 (BF rfl)) fun w1 hw1 => ?_))))
  exact ⟨_, _, rfl, ⟨rfl, rfl⟩, hw1⟩
theorem rawRB1_c (rb e : Nat) (sv : Value) (s : Int) (w : World) (h0 : w.heap[rb]? = some (.cells [errV 50 e, sv].toArray 204 (0, 0))) (he : e ≠ 0) (hs : s ≠ 0) : Calls Tryd.prog 127 #[Ptr rb 0, I64 (s)] w (Post w [rb] (fun v L => v = SL none 0 0 ∧ L = [(Ez rb [errV 50 (erN e 2), sv] 204)])) := by
 refine enter w [rb] 36 [(Ez rb [errV 50 e, sv] 204)] [Ptr rb 0, I64 (s)] Tryd.func127 rfl rfl (by simp) (BZ (by simpa using h0) (by simp) (by simp)) ?_
 show JC _ _ _ [(0, Ptr rb 0), (1, I64 (s))] _
 refine AF (AC (AA _ (AE rfl) rfl ?_))
 refine AJ (AD (AF (AF (AC (AA _ (AG rfl) rfl ?_)))))
 refine AA (.bool (decide ((s) < (0:Int)))) (AT rfl rfl fun _ => CL _ _) rfl ?_
 refine AA _ (AG rfl) rfl ?_
 rcases Bool.eq_false_or_eq_true (decide ((s) < (0:Int))) with hb1 | hb1
 ·
  have hp1 : (s) < (0:Int) := of_decide_eq_true hb1
  refine A9 4 2 8 false _ rfl rfl hb1 rfl (AA _ (BA _ rfl hb1 rfl) rfl ?_)
  refine AJ (AD (CH _ rfl rfl ?_))
  refine AF (AC (AA _ (AG rfl) rfl ?_))
  refine AA (.iface 50 (I64 2)) (DH BN rfl rfl) rfl ?_
  refine A2 (D7 121 [Ptr rb 0, .iface 50 (I64 2)] 0 (Ez rb [errV 50 e, sv] 204) _ (fun v e' l' => v = .tuple #[] ∧ e' = (Ez rb [errV 50 (erN e 2), sv] 204) ∧ l' = []) (AV _ ED rfl) rfl (by rintro v l ⟨rfl, rfl⟩; exact ⟨_, _, rfl, rfl, rfl, rfl, rfl⟩) (fun w1 hw1 => EX rb e 2 sv w1 (by decide) (hw1.en 0 rfl))) rfl ?_
  rintro v1 L1 ⟨_, _, ⟨rfl, rfl, rfl⟩, rfl⟩
  show JL _ _ _ _ ((16, .tuple #[]) :: _) [(Ez rb [errV 50 (erN e 2), sv] 204)]
  refine AJ (AD (AF (AC (AA _ (AE rfl) rfl ?_))))
  refine AJ (AD (BK (A6 (BJ (SL none 0 0) (res1 Tryd.results127 (BF rfl)) fun w1 hw1 => ?_))))
  exact ⟨_, _, rfl, ⟨rfl, rfl⟩, hw1⟩
 ·
  have hp1 : ¬ ((s) < (0:Int)) := of_decide_eq_false hb1
  refine AM 2 8 false _ _ rfl rfl hb1 (AG rfl) rfl ?_
  refine AM 2 8 false _ _ rfl rfl hb1 (AG rfl) rfl ?_
  refine DC 2 8 false _ rfl rfl hb1 (A3 61 _ (I64 0) (AV _ EA rfl) (fun w1 hw1 => leftE_c rb e sv w1 (RdA.of hw1 (AR 0 rfl (AN _)) (by simp)) he)) rfl ?_
  rintro v1 L1 ⟨rfl, rfl⟩
  show JL _ _ _ _ ((11, I64 0) :: _) [_]
  refine AM 2 8 false _ (.bool (decide ((0:Int) < (s)))) rfl rfl hb1 (AT rfl rfl fun _ => DJ _ _) rfl ?_
  refine AA _ (A5 _ rfl hb1 rfl) rfl ?_
  refine AJ (AD (CH _ rfl (decide_eq_true (by omega)) ?_))
  refine AF (AC (AA _ (AG rfl) rfl ?_))
  refine AA (.iface 50 (I64 2)) (DH BN rfl rfl) rfl ?_
  refine A2 (D7 121 [Ptr rb 0, .iface 50 (I64 2)] 0 (Ez rb [errV 50 e, sv] 204) _ (fun v e' l' => v = .tuple #[] ∧ e' = (Ez rb [errV 50 (erN e 2), sv] 204) ∧ l' = []) (AV _ ED rfl) rfl (by rintro v l ⟨rfl, rfl⟩; exact ⟨_, _, rfl, rfl, rfl, rfl, rfl⟩) (fun w1 hw1 => EX rb e 2 sv w1 (by decide) (hw1.en 0 rfl))) rfl ?_
  rintro v1 L1 ⟨_, _, ⟨rfl, rfl, rfl⟩, rfl⟩
  show JL _ _ _ _ ((16, .tuple #[]) :: _) [(Ez rb [errV 50 (erN e 2), sv] 204)]
  refine AJ (AD (AF (AC (AA _ (AE rfl) rfl ?_))))
  refine AJ (AD (BK (A6 (BJ (SL none 0 0) (res1 Tryd.results127 (BF rfl)) fun w1 hw1 => ?_))))
  exact ⟨_, _, rfl, ⟨rfl, rfl⟩, hw1⟩
theorem rawROk_c (rb e : Nat) (ao : Option Addr) (n c : Nat) (z : List UInt8) (s n2 c2 : Nat) (w : World) (h0 : w.heap[rb]? = some (.cells [errV 50 e, SL ao n c].toArray 204 (0, 0))) (hz : z.length = n) (hn : n ≤ 2000000000) (hc : n ≤ c) (hcm : c ≤ maxLen) (hr : RdB w [rb] ao z) (he : e = 0) (h1 : 0 < s) (h2 : s ≤ n) (ht1 : s + n2 = n) (ht2 : s + c2 = c) : Calls Tryd.prog 127 #[Ptr rb 0, I64 s] w (Post w [rb] (fun v L => ∃ g sp cap, v = Slc g 0 s cap ∧ L = [(Ez rb [errV 50 e, SL (advA ao c s) n2 c2] 204), (Ez g (cu8 (mid z 0 s) ++ sp) 5)] ∧ sp.length = cap - s ∧ s ≤ cap ∧ cap ≤ maxLen)) := by
 have hsome : ao.isNone = false := by
  obtain ⟨_, _, ha, _⟩ := hr.pos (by omega)
  rw [ha]; rfl
 refine enter w [rb] 36 [(Ez rb [errV 50 e, SL ao n c] 204)] [Ptr rb 0, I64 s] Tryd.func127 rfl rfl (by simp) (BZ (by simpa using h0) (by simp) (by simp)) ?_
 show JC _ _ _ [(0, Ptr rb 0), (1, I64 s)] _
 refine AF (AC (AA _ (AE rfl) rfl ?_))
 refine AJ (AD (AF (AF (AC (AA _ (AG rfl) rfl ?_)))))
 refine AA (.bool (decide (((s:Int)) < (0:Int)))) (AT rfl rfl fun _ => CL _ _) rfl ?_
 refine AA _ (AG rfl) rfl ?_
 refine AM 2 8 false _ _ rfl rfl (decide_eq_false (by omega)) (AG rfl) rfl ?_
 refine AM 2 8 false _ _ rfl rfl (decide_eq_false (by omega)) (AG rfl) rfl ?_
 refine DC 2 8 false _ rfl rfl (decide_eq_false (by omega)) (A3 61 _ (I64 n) (AV _ EA rfl) (fun w1 hw1 => leftZ_c rb e ao n c w1 (RdA.of hw1 (AR 0 rfl (AN _)) (by simp)) he)) rfl ?_
 rintro v1 L1 ⟨rfl, rfl⟩
 show JL _ _ _ _ ((11, I64 n) :: _) [_]
 refine AM 2 8 false _ (.bool (decide (((n:Int)) < ((s:Int))))) rfl rfl (decide_eq_false (by omega)) (AT rfl rfl fun _ => DJ _ _) rfl ?_
 refine AA _ (A5 _ rfl (decide_eq_false (by omega)) rfl) rfl ?_
 refine AJ (AD (BT _ rfl (decide_eq_false (by omega)) ?_))
 refine BH (AD (AF (AF (AC (AA _ (AG rfl) rfl ?_)))))
 refine AA (.bool (decide (((s:Int)) = (0:Int)))) (AT rfl rfl fun _ => BP _ _) rfl ?_
 refine AJ (AD (BT _ rfl (decide_eq_false (by omega)) ?_))
 refine BH (AD (AF (AC (AA _ (AG rfl) rfl ?_))))
 refine AA _ (CU rfl) rfl ?_
 refine AA (Ptr rb 1) (AB 1 43 1 DO rfl CJ rfl rfl) rfl (AA _ (AL rfl (AX D4 (AR 0 rfl (AH (Seg.head))))) rfl ?_)
 refine AA _ (AG rfl) rfl ?_
 have hl1 : (mid z 0 s).length = s := mid_len (by rw [hz]; omega)
 have hr1 := RdB.pre hr s
 refine AA (SL ao s c) (Ev_sliceHi 5 1 s BM B7 rfl rfl (by omega)) rfl ?_
 refine A2 (C6 108 _ _ (AV _ Tryd.call108 rfl) (fun w1 hw1 => sclone_c ao s c (mid z 0 s) w1 hsome hl1 (by omega) (hr1.at (M' := []) hw1 (by simp)))) rfl ?_
 rintro v1 L1 ⟨_, ⟨nb1, sp1, cp1, rfl, rfl, hc1, hc2, hc3⟩, rfl⟩
 show JL _ _ _ _ ((25, Slc nb1 0 s cp1) :: _) [_, (Ez nb1 (cu8 (mid z 0 s) ++ sp1) 5)]
 refine AA _ (AE rfl) rfl ?_
 refine AJ (AD (AF (AC (AA _ (AG rfl) rfl ?_))))
 refine AA _ (AG rfl) rfl (AA _ (CU rfl) rfl ?_)
 refine AA (Ptr rb 1) (AB 1 43 1 DO rfl CJ rfl rfl) rfl (AA _ (AL rfl (AX D4 (AR 0 rfl (AH (Seg.head))))) rfl ?_)
 refine AA _ (AG rfl) rfl ?_
 have hl2 : (z.drop s).length = (n - s) := by rw [List.length_drop, hz] <;> omega
 have hr2 := RdB.adv (c := c) hr s (by rw [hz]; omega) (by rw [hz]; omega)
 refine AA (SL (advA ao c s) (n - s) (c - s)) (Ev_sliceLo 5 s (n - s) (c - s) BM B7 rfl rfl (by omega) (by omega) (by omega) (by omega)) rfl (AA _ (CU rfl) rfl ?_)
 refine AA (Ptr rb 1) (AB 1 43 1 DO rfl CJ rfl rfl) rfl ?_
 refine A7 (C0 0 rb 1 1 _ 204 (SL (advA ao c s) (n - s) (c - s)) ([SL (advA ao c s) (n - s) (c - s)]) ([errV 50 e, SL (advA ao c s) (n - s) (c - s)]) rfl rfl rfl rfl CJ rfl (by simp [Value.oneCell']) (Nat.le_of_ble_eq_true rfl) (rfl)) rfl ?_
 show JL _ _ _ _ _ [_, _]
 refine AJ (AD (AF (AC (AA _ (AG rfl) rfl ?_))))
 refine AA _ (AE rfl) rfl ?_
 refine AJ (AD (BK (BJ (Slc nb1 0 s cp1) (res1 Tryd.results127 (BF rfl)) fun w1 hw1 => ?_)))
 obtain rfl : n2 = (n - s) := by omega
 obtain rfl : c2 = (c - s) := by omega
 exact ⟨_, _, rfl, ⟨nb1, sp1, cp1, rfl, rfl, hc1, hc2, hc3⟩, hw1⟩
theorem numRF_c (rb e : Nat) (sv : Value) (s : Int) (w : World) (h0 : w.heap[rb]? = some (.cells [errV 50 e, sv].toArray 204 (0, 0))) (hs : ¬ Szd s) : Calls Tryd.prog 109 #[Ptr rb 0, I64 (s)] w (Post w [rb] (fun v L => v = U64 0 ∧ L = [(Ez rb [errV 50 (erN e 2), sv] 204)])) := by
 refine enter w [rb] 29 [(Ez rb [errV 50 e, sv] 204)] [Ptr rb 0, I64 (s)] Tryd.func109 rfl rfl (by simp) (BZ (by simpa using h0) (by simp) (by simp)) ?_
 show JC _ _ _ [(0, Ptr rb 0), (1, I64 (s))] _
 refine AF (AC (AA _ (AE rfl) rfl ?_))
 refine AJ (AD (AF (AF (AC (AA _ (AG rfl) rfl ?_)))))
 refine A7 (A3 143 _ (.bool false) (AV _ Tryd.call143 rfl) (fun w1 _ => sizedF_c (s) w1 hs)) rfl ?_
 show JL _ _ _ _ ((9, .bool false) :: _) [_]
 refine AA (.bool (!false)) (D1 rfl) rfl ?_
 refine AJ (AD (CH _ rfl rfl ?_))
 refine AF (AC (AA _ (AG rfl) rfl ?_))
 refine AA (.iface 50 (I64 2)) (DH BN rfl rfl) rfl ?_
 refine A2 (D7 121 [Ptr rb 0, .iface 50 (I64 2)] 0 (Ez rb [errV 50 e, sv] 204) _ (fun v e' l' => v = .tuple #[] ∧ e' = (Ez rb [errV 50 (erN e 2), sv] 204) ∧ l' = []) (AV _ ED rfl) rfl (by rintro v l ⟨rfl, rfl⟩; exact ⟨_, _, rfl, rfl, rfl, rfl, rfl⟩) (fun w1 hw1 => EX rb e 2 sv w1 (by decide) (hw1.en 0 rfl))) rfl ?_
 rintro v1 L1 ⟨_, _, ⟨rfl, rfl, rfl⟩, rfl⟩
 show JL _ _ _ _ ((13, .tuple #[]) :: _) [(Ez rb [errV 50 (erN e 2), sv] 204)]
 refine AJ (AD (AF (AC (AA _ (AE rfl) rfl ?_))))
 refine AJ (AD (BK (A6 (BJ (U64 0) (res1 Tryd.results109 (BF rfl)) fun w1 hw1 => ?_))))
 exact ⟨_, _, rfl, ⟨rfl, rfl⟩, hw1⟩
theorem numRS_c (rb e : Nat) (ao : Option Addr) (n c : Nat) (s : Int) (w : World) (h0 : w.heap[rb]? = some (.cells [errV 50 e, SL ao n c].toArray 204 (0, 0))) (he : e = 0) (hs : Szd s) (hn : (n:Int) < s) : Calls Tryd.prog 109 #[Ptr rb 0, I64 (s)] w (Post w [rb] (fun v L => v = U64 0 ∧ L = [(Ez rb [errV 50 (erN e 2), SL ao n c] 204)])) := by
 refine enter w [rb] 29 [(Ez rb [errV 50 e, SL ao n c] 204)] [Ptr rb 0, I64 (s)] Tryd.func109 rfl rfl (by simp) (BZ (by simpa using h0) (by simp) (by simp)) ?_
 show JC _ _ _ [(0, Ptr rb 0), (1, I64 (s))] _
 refine AF (AC (AA _ (AE rfl) rfl ?_))
 refine AJ (AD (AF (AF (AC (AA _ (AG rfl) rfl ?_)))))
 refine A7 (A3 143 _ (.bool true) (AV _ Tryd.call143 rfl) (fun w1 _ => sizedT_c (s) w1 hs)) rfl ?_
 show JL _ _ _ _ ((9, .bool true) :: _) [_]
 refine AA (.bool (!true)) (D1 rfl) rfl ?_
 refine AJ (AD (BT _ rfl rfl ?_))
 refine BH (AD (AF (AC (AA _ (AE rfl) rfl ?_))))
 refine AJ (AD (AF (AF (AC (AA _ (AG rfl) rfl ?_)))))
 refine AA _ (AG rfl) rfl ?_
 refine A2 (D7 127 [Ptr rb 0, I64 (s)] 0 (Ez rb [errV 50 e, SL ao n c] 204) _ (fun v e' l' => v = SL none 0 0 ∧ e' = (Ez rb [errV 50 (erN e 2), SL ao n c] 204) ∧ l' = []) (AV _ Tryd.call127 rfl) rfl (by rintro v l ⟨rfl, rfl⟩; exact ⟨_, _, rfl, rfl, rfl, rfl, rfl⟩) (fun w1 hw1 => rawRB0_c rb e ao n c (s) w1 (hw1.en 0 rfl) he (.inr hn))) rfl ?_
 rintro v1 L1 ⟨_, _, ⟨rfl, rfl, rfl⟩, rfl⟩
 show JL _ _ _ _ ((16, SL none 0 0) :: _) [(Ez rb [errV 50 (erN e 2), SL ao n c] 204)]
 refine AA (I64 0) (DA BM rfl) rfl (AA _ (AG rfl) rfl ?_)
 refine AJ (AD (B5 (EO (ι := Unit) (fun _ => [(4, U64 0), (16, SL none 0 0), (17, I64 0), (18, I64 0), (5, U64 0)]) (fun _ => [(Ez rb [errV 50 (erN e 2), SL ao n c] 204)]) (fun _ => True) (fun _ => 1) () trivial (Sub.all rfl) rfl ?_)))
 rintro _ _
 show JC _ _ _ [_, _, _, _, _] [_]
 refine AF (AC (AA (.bool (decide ((0:Int) < (0:Int)))) (AT rfl rfl fun _ => CL _ _) rfl ?_))
 refine AJ (AD (AF (BT _ rfl (by decide) ?_)))
 refine EF (BC (BC (CX (AD (AF (AC (AA _ (AG rfl) rfl ?_)))))))
 refine AA _ (AE rfl) rfl ?_
 refine AJ (AD (BK (BJ (U64 0) (res1 Tryd.results109 (BF rfl)) fun w1 hw1 => ?_)))
 exact ⟨_, _, rfl, ⟨rfl, rfl⟩, hw1⟩
theorem numRE_c (rb e : Nat) (sv : Value) (s : Int) (w : World) (h0 : w.heap[rb]? = some (.cells [errV 50 e, sv].toArray 204 (0, 0))) (he : e ≠ 0) (hs : Szd s) : Calls Tryd.prog 109 #[Ptr rb 0, I64 (s)] w (Post w [rb] (fun v L => v = U64 0 ∧ L = [(Ez rb [errV 50 (erN e 2), sv] 204)])) := by
 refine enter w [rb] 29 [(Ez rb [errV 50 e, sv] 204)] [Ptr rb 0, I64 (s)] Tryd.func109 rfl rfl (by simp) (BZ (by simpa using h0) (by simp) (by simp)) ?_
 show JC _ _ _ [(0, Ptr rb 0), (1, I64 (s))] _
 refine AF (AC (AA _ (AE rfl) rfl ?_))
 refine AJ (AD (AF (AF (AC (AA _ (AG rfl) rfl ?_)))))
 refine A7 (A3 143 _ (.bool true) (AV _ Tryd.call143 rfl) (fun w1 _ => sizedT_c (s) w1 hs)) rfl ?_
 show JL _ _ _ _ ((9, .bool true) :: _) [_]
 refine AA (.bool (!true)) (D1 rfl) rfl ?_
 refine AJ (AD (BT _ rfl rfl ?_))
 refine BH (AD (AF (AC (AA _ (AE rfl) rfl ?_))))
 refine AJ (AD (AF (AF (AC (AA _ (AG rfl) rfl ?_)))))
 refine AA _ (AG rfl) rfl ?_
 refine A2 (D7 127 [Ptr rb 0, I64 (s)] 0 (Ez rb [errV 50 e, sv] 204) _ (fun v e' l' => v = SL none 0 0 ∧ e' = (Ez rb [errV 50 (erN e 2), sv] 204) ∧ l' = []) (AV _ Tryd.call127 rfl) rfl (by rintro v l ⟨rfl, rfl⟩; exact ⟨_, _, rfl, rfl, rfl, rfl, rfl⟩) (fun w1 hw1 => rawRB1_c rb e sv (s) w1 (hw1.en 0 rfl) he (by unfold Szd at hs; omega))) rfl ?_
 rintro v1 L1 ⟨_, _, ⟨rfl, rfl, rfl⟩, rfl⟩
 show JL _ _ _ _ ((16, SL none 0 0) :: _) [(Ez rb [errV 50 (erN e 2), sv] 204)]
 refine AA (I64 0) (DA BM rfl) rfl (AA _ (AG rfl) rfl ?_)
 refine AJ (AD (B5 (EO (ι := Unit) (fun _ => [(4, U64 0), (16, SL none 0 0), (17, I64 0), (18, I64 0), (5, U64 0)]) (fun _ => [(Ez rb [errV 50 (erN e 2), sv] 204)]) (fun _ => True) (fun _ => 1) () trivial (Sub.all rfl) rfl ?_)))
 rintro _ _
 show JC _ _ _ [_, _, _, _, _] [_]
 refine AF (AC (AA (.bool (decide ((0:Int) < (0:Int)))) (AT rfl rfl fun _ => CL _ _) rfl ?_))
 refine AJ (AD (AF (BT _ rfl (by decide) ?_)))
 refine EF (BC (BC (CX (AD (AF (AC (AA _ (AG rfl) rfl ?_)))))))
 refine AA _ (AE rfl) rfl ?_
 refine AJ (AD (BK (BJ (U64 0) (res1 Tryd.results109 (BF rfl)) fun w1 hw1 => ?_)))
 exact ⟨_, _, rfl, ⟨rfl, rfl⟩, hw1⟩
theorem numROk_c (rb e : Nat) (ao : Option Addr) (n c : Nat) (z : List UInt8) (k n2 c2 : Nat) (w : World) (h0 : w.heap[rb]? = some (.cells [errV 50 e, SL ao n c].toArray 204 (0, 0))) (hz : z.length = n) (hn : n ≤ 2000000000) (hc : n ≤ c) (hcm : c ≤ maxLen) (hr : RdB w [rb] ao z) (he : e = 0) (hs : Szd (k:Int)) (h2 : k ≤ n) (ht1 : k + n2 = n) (ht2 : k + c2 = c) : Calls Tryd.prog 109 #[Ptr rb 0, I64 k] w (Post w [rb] (fun v L => v = U64 (valK z k) ∧ L = [(Ez rb [errV 50 e, SL (advA ao c k) n2 c2] 204)])) := by
 have hs4 : k = 1 ∨ k = 2 ∨ k = 4 ∨ k = 8 := by have := hs; unfold Szd at this; omega
 refine enter w [rb] 29 [(Ez rb [errV 50 e, SL ao n c] 204)] [Ptr rb 0, I64 k] Tryd.func109 rfl rfl (by simp) (BZ (by simpa using h0) (by simp) (by simp)) ?_
 show JC _ _ _ [(0, Ptr rb 0), (1, I64 k)] _
 refine AF (AC (AA _ (AE rfl) rfl ?_))
 refine AJ (AD (AF (AF (AC (AA _ (AG rfl) rfl ?_)))))
 refine A7 (A3 143 _ (.bool true) (AV _ Tryd.call143 rfl) (fun w1 _ => sizedT_c ((k:Int)) w1 hs)) rfl ?_
 show JL _ _ _ _ ((9, .bool true) :: _) [_]
 refine AA (.bool (!true)) (D1 rfl) rfl ?_
 refine AJ (AD (BT _ rfl rfl ?_))
 refine BH (AD (AF (AC (AA _ (AE rfl) rfl ?_))))
 refine AJ (AD (AF (AF (AC (AA _ (AG rfl) rfl ?_)))))
 refine AA _ (AG rfl) rfl ?_
 have hl1 : (z.drop k).length = (n - k) := by rw [List.length_drop, hz] <;> omega
 have hr1 := RdB.adv (c := c) hr k (by rw [hz]; omega) (by rw [hz]; omega)
 have hl2 : (mid z 0 k).length = k := mid_len (by rw [hz]; omega)
 refine A2 (BD 127 _ [true] [rb] _ (AV _ Tryd.call127 rfl) rfl (fun w1 hw1 => rawROk_c rb e ao n c z k (n - k) (c - k) w1 (hw1.en 0 rfl) hz (by omega) (by omega) (by omega) (hr.at (M' := [rb]) hw1 (hw1.apart [0] _ rfl)) he (by unfold Szd at hs; omega) h2 (by omega) (by omega))) rfl ?_
 rintro v1 L1 ⟨_, ⟨nb1, sp1, cp1, rfl, rfl, hc1, hc2, hc3⟩, rfl⟩
 show JL _ _ _ _ ((16, Slc nb1 0 k cp1) :: _) [(Ez rb [errV 50 e, SL (advA ao c k) (n - k) (c - k)] 204), (Ez nb1 (cu8 (mid z 0 k) ++ sp1) 5)]
 refine AA (I64 k) (DA BM rfl) rfl (AA _ (AG rfl) rfl ?_)
 refine AJ (AD (B5 (EO (ι := Nat × UInt64) (fun ⟨j, y⟩ => [(4, U64 0), (16, Slc nb1 0 k cp1), (17, I64 k), (18, I64 j), (5, U64 y)]) (fun ⟨j, y⟩ => [(Ez rb [errV 50 e, SL (advA ao c k) (n - k) (c - k)] 204), (Ez nb1 (cu8 (mid z 0 k) ++ sp1) 5)]) (fun ⟨j, y⟩ => j ≤ k ∧ y = valK (mid z 0 k) j) (fun ⟨j, y⟩ => k - j) (0, 0) ⟨by omega, by rw [valK]⟩ (Sub.all rfl) rfl ?_)))
 rintro ⟨j, y⟩ ⟨hx1, hx2⟩
 show JC _ _ _ [_, _, _, _, _] [_, _]
 refine AF (AC (AA (.bool (decide (((j:Int)) < ((k:Int))))) (AT rfl rfl fun _ => CL _ _) rfl ?_))
 refine AJ (AD (AF (CC (decide (((j:Int)) < ((k:Int)))) rfl (fun hb1 => ?_) (fun hb1 => ?_))))
 ·
  have hp1 : ((j:Int)) < ((k:Int)) := of_decide_eq_true hb1
  refine BH (AD (AF (B5 (AF (AC (AA (Ptr nb1 j) (Ev_indexSl 5 1 j BM B7 rfl rfl (by omega) (by omega) (by omega)) rfl ?_))))))
  refine AA _ (AL rfl (AX EP (AR 1 rfl (AI (Seg.get (g8_get (i := j) (by rw [hl2]; omega))))))) rfl (AA _ (AE rfl) rfl ?_)
  refine AJ (AD (AC (AA _ (AG rfl) rfl ?_)))
  refine AA (U64 (y <<< (8:UInt64))) (AT rfl rfl fun _ => bin_shl_u64 y _ _ 8 (by decide) rfl) rfl ?_
  refine AA _ (AG rfl) rfl ?_
  refine AA (U64 ((g8 (mid z 0 k) j).toUInt64)) (CV _ _ rfl fun _ => conv_u8_u64 (by rw [CO]; rfl) AU _) rfl ?_
  refine AA (U64 ((y <<< (8:UInt64)) ||| ((g8 (mid z 0 k) j).toUInt64))) (AT rfl rfl fun _ => bin_or_u64 (y <<< (8:UInt64)) ((g8 (mid z 0 k) j).toUInt64)) rfl ?_
  refine AA _ (AE rfl) rfl ?_
  refine AJ (BU (AD (AC (AA (I64 ((j:Int) + 1)) (AT rfl rfl fun _ => DK _ _ ((j:Int) + 1) (by omega) (by omega)) rfl ?_))))
  refine AA _ (AG rfl) rfl ?_
  refine AJ (DU (EZ (j + 1, (y <<< (8:UInt64)) ||| ((g8 (mid z 0 k) j).toUInt64)) ⟨by omega, by rw [valK, ← hx2]⟩ (by first | (simp; omega) | simp | (dsimp only; omega) | omega) (Sub.all rfl) rfl))
 ·
  have hp1 : ¬ (((j:Int)) < ((k:Int))) := of_decide_eq_false hb1
  refine EF (BC (BC (CX (AD (AF (AC (AA _ (AG rfl) rfl ?_)))))))
  refine AA _ (AE rfl) rfl ?_
  refine AJ (AD (BK (CD [true, false] ?_)))
  show JQ _ _ _ _ [_]
  refine BJ (U64 y) (res1 Tryd.results109 (BF rfl)) fun w1 hw1 => ?_
  have e1 : j = k := by omega
  have e2 : valK (mid z 0 k) k = valK z k := valK_congr k fun i hi => by rw [g8_mid hi, Nat.zero_add]
  obtain rfl : n2 = (n - k) := by omega
  obtain rfl : c2 = (c - k) := by omega
  exact ⟨_, _, rfl, ⟨by rw [hx2, e1, e2], rfl⟩, hw1⟩
theorem hasRE_c (rb e : Nat) (sv : Value) (w : World) (h0 : w.heap[rb]? = some (.cells [errV 50 e, sv].toArray 204 (0, 0))) (he : e ≠ 0) : Calls Tryd.prog 152 #[Ptr rb 0] w (Post w [rb] (fun v L => v = .agg (cu8 (zr8 32)).toArray ∧ L = [(Ez rb [errV 50 (erN e 2), sv] 204)])) := by
 refine enter w [rb] 9 [(Ez rb [errV 50 e, sv] 204)] [Ptr rb 0] Tryd.func152 rfl rfl (by simp) (BZ (by simpa using h0) (by simp) (by simp)) ?_
 show JC _ _ _ [(0, Ptr rb 0)] _
 refine AF (AC (A2 (C4 _ (cu8 (zr8 32)) Tryd.zeroValue54 (by kernel_rfl)) rfl ?_))
 rintro v1 L1 ⟨nb1, hnb1, rfl, rfl⟩
 show JL _ _ _ _ (_ :: _) [_, _]
 refine AJ (AD (AF (AC (A2 (C4 _ (cu8 (zr8 32)) Tryd.zeroValue54 (by kernel_rfl)) rfl ?_))))
 rintro v1 L1 ⟨nb2, hnb2, rfl, rfl⟩
 show JL _ _ _ _ (_ :: _) [_, _, _]
 refine AJ (AD (AF (DB 9 3 [(0, Slc nb2 0 32 32), (1, Ptr rb 0)] B6 rfl (by decide +kernel) ?_)))
 refine C2 ⟨[], [0, 1], [], [0, 1], [2]⟩ 2 _ rfl rfl (by decide +kernel) rfl ⟨AP rfl rfl (DV 32 5 1 0 32 0 32 EU B7 rfl rfl rfl (by omega) (by omega) (by omega) (by omega) (by omega) 32 (by omega)), CB rfl rfl rfl, trivial⟩ rfl (BO rfl (D7 127 [Ptr rb 0, I64 32] 0 (Ez rb [errV 50 e, sv] 204) _ (fun v e' l' => v = SL none 0 0 ∧ e' = (Ez rb [errV 50 (erN e 2), sv] 204) ∧ l' = []) (AV _ Tryd.call127 rfl) rfl (by rintro v l ⟨rfl, rfl⟩; exact ⟨_, _, rfl, rfl, rfl, rfl, rfl⟩) (fun w1 hw1 => rawRB1_c rb e sv (32:Int) w1 (hw1.en 0 rfl) he (by decide)))) ?_
 rintro v1 L1 ⟨_, _, ⟨rfl, rfl, rfl⟩, rfl⟩
 refine ⟨[], ?_⟩
 show DP _ _ _ _ _ _ _ _ [(Ez rb [errV 50 (erN e 2), sv] 204), _, _]
 refine EI ⟨[2], [0, 1], [1], [0], [3]⟩ 3 rfl rfl (by decide +kernel) rfl ⟨AP rfl rfl (DV 32 5 1 0 32 0 32 EU B7 rfl rfl rfl (by omega) (by omega) (by omega) (by omega) (by omega) 32 (by omega)), trivial⟩ rfl (BO rfl (E9 43 43 5 2 nb2 0 32 32 (cu8 (zr8 32)) 54 none 0 0 0 [] (cu8 (zr8 32)) BM EH rfl rfl rfl rfl rfl SrcAt.nil (by simp) one_nil (lay_nil _ _))) ?_
 show DP _ _ _ _ _ _ _ _ [_, _, _]
 refine DR ⟨[2, 3], [0, 1], [0, 1], [], []⟩ rfl rfl (by decide +kernel) rfl trivial ?_
 refine C5 (F' := [(2, Ptr nb1 0), (3, Ptr nb2 0)]) (by kernel_rfl) ?_
 refine AD (AF (AC (AA _ (AL rfl (BR Tryd.isAgg54 D2 (EJ (AO 32)) (AR 2 rfl (AN _)))) rfl ?_)))
 refine A7 (BS 1 nb1 32 _ 54 (cu8 (zr8 32)) rfl rfl rfl D2 (EJ (AO 32)) (by first | exact CZ | exact one_u32 | exact one_u64 | (simp [cu8, cu32, cu64, Value.oneCell']; done)) (by simp [(AO 32)]) (BW (by simp [(AO 32), (AO 32)]))) rfl ?_
 show JL _ _ _ _ _ [_, _, _]
 refine AJ (AD (BK (CD [true, true, false] ?_)))
 show JQ _ _ _ _ [_, _]
 refine BJ (.agg (cu8 (zr8 32)).toArray) (res1 Tryd.results152 (DQ rfl (BR Tryd.isAgg54 D2 (EJ (AO 32)) (AR 1 rfl (AN _))))) fun w1 hw1 => ?_
 exact ⟨_, _, rfl, ⟨by first | rfl | simp [spl], rfl⟩, hw1.sub (by simp) (by simp)⟩
theorem hasRS_c (rb e : Nat) (ao : Option Addr) (n c : Nat) (w : World) (h0 : w.heap[rb]? = some (.cells [errV 50 e, SL ao n c].toArray 204 (0, 0))) (he : e = 0) (hl : n < 32) : Calls Tryd.prog 152 #[Ptr rb 0] w (Post w [rb] (fun v L => v = .agg (cu8 (zr8 32)).toArray ∧ L = [(Ez rb [errV 50 (erN e 2), SL ao n c] 204)])) := by
 refine enter w [rb] 9 [(Ez rb [errV 50 e, SL ao n c] 204)] [Ptr rb 0] Tryd.func152 rfl rfl (by simp) (BZ (by simpa using h0) (by simp) (by simp)) ?_
 show JC _ _ _ [(0, Ptr rb 0)] _
 refine AF (AC (A2 (C4 _ (cu8 (zr8 32)) Tryd.zeroValue54 (by kernel_rfl)) rfl ?_))
 rintro v1 L1 ⟨nb1, hnb1, rfl, rfl⟩
 show JL _ _ _ _ (_ :: _) [_, _]
 refine AJ (AD (AF (AC (A2 (C4 _ (cu8 (zr8 32)) Tryd.zeroValue54 (by kernel_rfl)) rfl ?_))))
 rintro v1 L1 ⟨nb2, hnb2, rfl, rfl⟩
 show JL _ _ _ _ (_ :: _) [_, _, _]
 refine AJ (AD (AF (DB 9 3 [(0, Slc nb2 0 32 32), (1, Ptr rb 0)] B6 rfl (by decide +kernel) ?_)))
 refine C2 ⟨[], [0, 1], [], [0, 1], [2]⟩ 2 _ rfl rfl (by decide +kernel) rfl ⟨AP rfl rfl (DV 32 5 1 0 32 0 32 EU B7 rfl rfl rfl (by omega) (by omega) (by omega) (by omega) (by omega) 32 (by omega)), CB rfl rfl rfl, trivial⟩ rfl (BO rfl (D7 127 [Ptr rb 0, I64 32] 0 (Ez rb [errV 50 e, SL ao n c] 204) _ (fun v e' l' => v = SL none 0 0 ∧ e' = (Ez rb [errV 50 (erN e 2), SL ao n c] 204) ∧ l' = []) (AV _ Tryd.call127 rfl) rfl (by rintro v l ⟨rfl, rfl⟩; exact ⟨_, _, rfl, rfl, rfl, rfl, rfl⟩) (fun w1 hw1 => rawRB0_c rb e ao n c (32:Int) w1 (hw1.en 0 rfl) he (.inr (by omega))))) ?_
 rintro v1 L1 ⟨_, _, ⟨rfl, rfl, rfl⟩, rfl⟩
 refine ⟨[], ?_⟩
 show DP _ _ _ _ _ _ _ _ [(Ez rb [errV 50 (erN e 2), SL ao n c] 204), _, _]
 refine EI ⟨[2], [0, 1], [1], [0], [3]⟩ 3 rfl rfl (by decide +kernel) rfl ⟨AP rfl rfl (DV 32 5 1 0 32 0 32 EU B7 rfl rfl rfl (by omega) (by omega) (by omega) (by omega) (by omega) 32 (by omega)), trivial⟩ rfl (BO rfl (E9 43 43 5 2 nb2 0 32 32 (cu8 (zr8 32)) 54 none 0 0 0 [] (cu8 (zr8 32)) BM EH rfl rfl rfl rfl rfl SrcAt.nil (by simp) one_nil (lay_nil _ _))) ?_
 show DP _ _ _ _ _ _ _ _ [_, _, _]
 refine DR ⟨[2, 3], [0, 1], [0, 1], [], []⟩ rfl rfl (by decide +kernel) rfl trivial ?_
 refine C5 (F' := [(2, Ptr nb1 0), (3, Ptr nb2 0)]) (by kernel_rfl) ?_
 refine AD (AF (AC (AA _ (AL rfl (BR Tryd.isAgg54 D2 (EJ (AO 32)) (AR 2 rfl (AN _)))) rfl ?_)))
 refine A7 (BS 1 nb1 32 _ 54 (cu8 (zr8 32)) rfl rfl rfl D2 (EJ (AO 32)) (by first | exact CZ | exact one_u32 | exact one_u64 | (simp [cu8, cu32, cu64, Value.oneCell']; done)) (by simp [(AO 32)]) (BW (by simp [(AO 32), (AO 32)]))) rfl ?_
 show JL _ _ _ _ _ [_, _, _]
 refine AJ (AD (BK (CD [true, true, false] ?_)))
 show JQ _ _ _ _ [_, _]
 refine BJ (.agg (cu8 (zr8 32)).toArray) (res1 Tryd.results152 (DQ rfl (BR Tryd.isAgg54 D2 (EJ (AO 32)) (AR 1 rfl (AN _))))) fun w1 hw1 => ?_
 exact ⟨_, _, rfl, ⟨by first | rfl | simp [spl], rfl⟩, hw1.sub (by simp) (by simp)⟩
theorem hasROk_c (rb e : Nat) (ao : Option Addr) (n c : Nat) (z : List UInt8)  (w : World) (h0 : w.heap[rb]? = some (.cells [errV 50 e, SL ao n c].toArray 204 (0, 0))) (hz : z.length = n) (hn : n ≤ 2000000000) (hc : n ≤ c) (hcm : c ≤ maxLen) (hr : RdB w [rb] ao z) (he : e = 0) (hl : 32 ≤ n) : Calls Tryd.prog 152 #[Ptr rb 0] w (Post w [rb] (fun v L => v = .agg (cu8 (mid z 0 32)).toArray ∧ L = [(Ez rb [errV 50 e, SL (advA ao c 32) (n - 32) (c - 32)] 204)])) := by
 refine enter w [rb] 9 [(Ez rb [errV 50 e, SL ao n c] 204)] [Ptr rb 0] Tryd.func152 rfl rfl (by simp) (BZ (by simpa using h0) (by simp) (by simp)) ?_
 show JC _ _ _ [(0, Ptr rb 0)] _
 refine AF (AC (A2 (C4 _ (cu8 (zr8 32)) Tryd.zeroValue54 (by kernel_rfl)) rfl ?_))
 rintro v1 L1 ⟨nb1, hnb1, rfl, rfl⟩
 show JL _ _ _ _ (_ :: _) [_, _]
 refine AJ (AD (AF (AC (A2 (C4 _ (cu8 (zr8 32)) Tryd.zeroValue54 (by kernel_rfl)) rfl ?_))))
 rintro v1 L1 ⟨nb2, hnb2, rfl, rfl⟩
 show JL _ _ _ _ (_ :: _) [_, _, _]
 refine AJ (AD (AF (DB 9 3 [(0, Slc nb2 0 32 32), (1, Ptr rb 0)] B6 rfl (by decide +kernel) ?_)))
 have hl1 : (z.drop 32).length = (n - 32) := by rw [List.length_drop, hz] <;> omega
 have hr1 := RdB.adv (c := c) hr 32 (by rw [hz]; omega) (by rw [hz]; omega)
 have hl2 : (mid z 0 32).length = 32 := mid_len (by rw [hz]; omega)
 refine C2 ⟨[], [0, 1], [], [0, 1], [2]⟩ 2 _ rfl rfl (by decide +kernel) rfl ⟨AP rfl rfl (DV 32 5 1 0 32 0 32 EU B7 rfl rfl rfl (by omega) (by omega) (by omega) (by omega) (by omega) 32 (by omega)), CB rfl rfl rfl, trivial⟩ rfl (BO rfl (BD 127 _ [true, false, false] [rb] _ (AV _ Tryd.call127 rfl) rfl (fun w1 hw1 => rawROk_c rb e ao n c z 32 (n - 32) (c - 32) w1 (hw1.en 0 rfl) hz (by omega) (by omega) (by omega) (hr.at (M' := [rb]) hw1 (hw1.apart [0] _ rfl)) he (by omega) hl (by omega) (by omega)))) ?_
 rintro v1 L1 ⟨_, ⟨nb3, sp1, cp1, rfl, rfl, hc1, hc2, hc3⟩, rfl⟩
 refine ⟨[], ?_⟩
 show DP _ _ _ _ _ _ _ _ [_, _, (Ez rb [errV 50 e, SL (advA ao c 32) (n - 32) (c - 32)] 204), (Ez nb3 (cu8 (mid z 0 32) ++ sp1) 5)]
 refine EI ⟨[2], [0, 1], [1], [0], [3]⟩ 3 rfl rfl (by decide +kernel) rfl ⟨AP rfl rfl (DV 32 5 1 0 32 0 32 EU B7 rfl rfl rfl (by omega) (by omega) (by omega) (by omega) (by omega) 32 (by omega)), trivial⟩ rfl (BO rfl (E9 43 43 5 1 nb2 0 32 32 (cu8 (zr8 32)) 54 (some ⟨nb3, 0, none⟩) 32 cp1 32 (cu8 (mid z 0 32)) (cu8 (mid z 0 32)) BM EH rfl rfl rfl rfl (by simp [hl2]; try omega) (SrcAt.mem (AR 3 rfl (AI (AN _)))) (by simp [(AO 32)]; try omega) (by first | exact CZ | exact one_u32 | exact one_u64 | (simp [cu8, cu32, cu64, Value.oneCell']; done)) (BW (by simp [(AO 32), hl2])))) ?_
 show DP _ _ _ _ _ _ _ _ [_, (Ez nb2 (cu8 (mid z 0 32)) 54), _, _]
 refine DR ⟨[2, 3], [0, 1], [0, 1], [], []⟩ rfl rfl (by decide +kernel) rfl trivial ?_
 refine C5 (F' := [(2, Ptr nb1 0), (3, Ptr nb2 0)]) (by kernel_rfl) ?_
 refine AD (AF (AC (AA _ (AL rfl (BR Tryd.isAgg54 D2 (EJ hl2) (AR 1 rfl (AN _)))) rfl ?_)))
 refine A7 (BS 0 nb1 32 _ 54 (cu8 (mid z 0 32)) rfl rfl rfl D2 (EJ hl2) (by first | exact CZ | exact one_u32 | exact one_u64 | (simp [cu8, cu32, cu64, Value.oneCell']; done)) (by simp [(AO 32)]) (BW (by simp [(AO 32), hl2]))) rfl ?_
 show JL _ _ _ _ _ [_, _, _, _]
 refine AJ (AD (BK (CD [true, false, true, false] ?_)))
 show JQ _ _ _ _ [_, _]
 refine BJ (.agg (cu8 (mid z 0 32)).toArray) (res1 Tryd.results152 (DQ rfl (BR Tryd.isAgg54 D2 (EJ hl2) (AR 0 rfl (AN _))))) fun w1 hw1 => ?_
 exact ⟨_, _, rfl, ⟨by first | rfl | simp [spl], rfl⟩, hw1.sub (by simp) (by simp)⟩
theorem flgRE_c (rb e : Nat) (sv : Value) (w : World) (h0 : w.heap[rb]? = some (.cells [errV 50 e, sv].toArray 204 (0, 0))) (he : e ≠ 0) : Calls Tryd.prog 119 #[Ptr rb 0] w (Post w [rb] (fun v L => v = .bool false ∧ L = [(Ez rb [errV 50 (erN e 2), sv] 204)])) := by
 refine enter w [rb] 21 [(Ez rb [errV 50 e, sv] 204)] [Ptr rb 0] Tryd.func119 rfl rfl (by simp) (BZ (by simpa using h0) (by simp) (by simp)) ?_
 show JC _ _ _ [(0, Ptr rb 0)] _
 refine AF (AC (AA _ (AE rfl) rfl ?_))
 refine AJ (AD (AF (AF (AC (AA _ (AG rfl) rfl ?_)))))
 refine A7 (A3 61 _ (I64 0) (AV _ EA rfl) (fun w1 hw1 => leftE_c rb e sv w1 (RdA.of hw1 (AR 0 rfl (AN _)) (by simp)) he)) rfl ?_
 show JL _ _ _ _ ((4, I64 0) :: _) [_]
 refine AA (.bool (decide ((0:Int) < (1:Int)))) (AT rfl rfl fun _ => CL _ _) rfl ?_
 refine AA _ (AG rfl) rfl ?_
 refine A9 7 3 6 false _ rfl rfl (by decide) rfl (AA _ (BA _ rfl (by decide) rfl) rfl ?_)
 refine AJ (AD (CH _ rfl rfl ?_))
 refine AF (AC (AA _ (AG rfl) rfl ?_))
 refine AA (.iface 50 (I64 2)) (DH BN rfl rfl) rfl ?_
 refine A2 (D7 121 [Ptr rb 0, .iface 50 (I64 2)] 0 (Ez rb [errV 50 e, sv] 204) _ (fun v e' l' => v = .tuple #[] ∧ e' = (Ez rb [errV 50 (erN e 2), sv] 204) ∧ l' = []) (AV _ ED rfl) rfl (by rintro v l ⟨rfl, rfl⟩; exact ⟨_, _, rfl, rfl, rfl, rfl, rfl⟩) (fun w1 hw1 => EX rb e 2 sv w1 (by decide) (hw1.en 0 rfl))) rfl ?_
 rintro v1 L1 ⟨_, _, ⟨rfl, rfl, rfl⟩, rfl⟩
 show JL _ _ _ _ ((17, .tuple #[]) :: _) [(Ez rb [errV 50 (erN e 2), sv] 204)]
 refine AJ (AD (AF (AC (AA _ (AE rfl) rfl ?_))))
 refine AJ (AD (BK (A6 (BJ (.bool false) (res1 Tryd.results119 (BF rfl)) fun w1 hw1 => ?_))))
 exact ⟨_, _, rfl, ⟨rfl, rfl⟩, hw1⟩
theorem flgRS_c (rb e : Nat) (ao : Option Addr) (n c : Nat) (w : World) (h0 : w.heap[rb]? = some (.cells [errV 50 e, SL ao n c].toArray 204 (0, 0))) (he : e = 0) (hl : n = 0) : Calls Tryd.prog 119 #[Ptr rb 0] w (Post w [rb] (fun v L => v = .bool false ∧ L = [(Ez rb [errV 50 (erN e 2), SL ao n c] 204)])) := by
 refine enter w [rb] 21 [(Ez rb [errV 50 e, SL ao n c] 204)] [Ptr rb 0] Tryd.func119 rfl rfl (by simp) (BZ (by simpa using h0) (by simp) (by simp)) ?_
 show JC _ _ _ [(0, Ptr rb 0)] _
 refine AF (AC (AA _ (AE rfl) rfl ?_))
 refine AJ (AD (AF (AF (AC (AA _ (AG rfl) rfl ?_)))))
 refine A7 (A3 61 _ (I64 n) (AV _ EA rfl) (fun w1 hw1 => leftZ_c rb e ao n c w1 (RdA.of hw1 (AR 0 rfl (AN _)) (by simp)) he)) rfl ?_
 show JL _ _ _ _ ((4, I64 n) :: _) [_]
 refine AA (.bool (decide (((n:Int)) < (1:Int)))) (AT rfl rfl fun _ => CL _ _) rfl ?_
 refine AA _ (AG rfl) rfl ?_
 refine A9 7 3 6 false _ rfl rfl (decide_eq_true (by omega)) rfl (AA _ (BA _ rfl (decide_eq_true (by omega)) rfl) rfl ?_)
 refine AJ (AD (CH _ rfl rfl ?_))
 refine AF (AC (AA _ (AG rfl) rfl ?_))
 refine AA (.iface 50 (I64 2)) (DH BN rfl rfl) rfl ?_
 refine A2 (D7 121 [Ptr rb 0, .iface 50 (I64 2)] 0 (Ez rb [errV 50 e, SL ao n c] 204) _ (fun v e' l' => v = .tuple #[] ∧ e' = (Ez rb [errV 50 (erN e 2), SL ao n c] 204) ∧ l' = []) (AV _ ED rfl) rfl (by rintro v l ⟨rfl, rfl⟩; exact ⟨_, _, rfl, rfl, rfl, rfl, rfl⟩) (fun w1 hw1 => EX rb e 2 (SL ao n c) w1 (by decide) (hw1.en 0 rfl))) rfl ?_
 rintro v1 L1 ⟨_, _, ⟨rfl, rfl, rfl⟩, rfl⟩
 show JL _ _ _ _ ((17, .tuple #[]) :: _) [(Ez rb [errV 50 (erN e 2), SL ao n c] 204)]
 refine AJ (AD (AF (AC (AA _ (AE rfl) rfl ?_))))
 refine AJ (AD (BK (A6 (BJ (.bool false) (res1 Tryd.results119 (BF rfl)) fun w1 hw1 => ?_))))
 exact ⟨_, _, rfl, ⟨rfl, rfl⟩, hw1⟩
theorem flgRB_c (rb e : Nat) (ao : Option Addr) (n c : Nat) (z : List UInt8)  (w : World) (h0 : w.heap[rb]? = some (.cells [errV 50 e, SL ao n c].toArray 204 (0, 0))) (hz : z.length = n) (hn : n ≤ 2000000000) (hc : n ≤ c) (hcm : c ≤ maxLen) (hr : RdB w [rb] ao z) (he : e = 0) (hl : 1 ≤ n) (hb : (1:UInt8) < g8 z 0) : Calls Tryd.prog 119 #[Ptr rb 0] w (Post w [rb] (fun v L => v = .bool false ∧ L = [(Ez rb [errV 50 (erN e 2), SL ao n c] 204)])) := by
 refine enter w [rb] 21 [(Ez rb [errV 50 e, SL ao n c] 204)] [Ptr rb 0] Tryd.func119 rfl rfl (by simp) (BZ (by simpa using h0) (by simp) (by simp)) ?_
 show JC _ _ _ [(0, Ptr rb 0)] _
 refine AF (AC (AA _ (AE rfl) rfl ?_))
 refine AJ (AD (AF (AF (AC (AA _ (AG rfl) rfl ?_)))))
 refine A7 (A3 61 _ (I64 n) (AV _ EA rfl) (fun w1 hw1 => leftZ_c rb e ao n c w1 (RdA.of hw1 (AR 0 rfl (AN _)) (by simp)) he)) rfl ?_
 show JL _ _ _ _ ((4, I64 n) :: _) [_]
 refine AA (.bool (decide (((n:Int)) < (1:Int)))) (AT rfl rfl fun _ => CL _ _) rfl ?_
 refine AA _ (AG rfl) rfl ?_
 refine AM 3 6 false _ _ rfl rfl (decide_eq_false (by omega)) (AG rfl) rfl ?_
 refine AM 3 6 false _ _ rfl rfl (decide_eq_false (by omega)) (CU rfl) rfl ?_
 refine AM 3 6 false _ (Ptr rb 1) rfl rfl (decide_eq_false (by omega)) (AB 1 43 1 DO rfl CJ rfl rfl) rfl ?_
 refine AM 3 6 false _ (SL ao n c) rfl rfl (decide_eq_false (by omega)) (AL rfl (AX D4 (AR 0 rfl (AH (Seg.head))))) rfl ?_
 obtain ⟨bz1, oz1, hz1, hm1⟩ := hr.pos (by rw [hz]; omega)
 refine AM 3 6 false _ (Ptr bz1 oz1) rfl rfl (decide_eq_false (by omega)) (DI 5 1 oz1 BM B7 rfl hz1 rfl (by omega) (by omega) (by omega)) rfl ?_
 refine AM 3 6 false _ (U8 (g8 z 0)) rfl rfl (decide_eq_false (by omega)) (AL rfl (AX EP (C9 (MemAt.base hm1.1 hm1.2.1 hm1.2.2) (Seg.get (g8_get (i := 0) (by rw [hz]; omega))) (by first | omega | (simp; done) | (simp; omega))))) rfl ?_
 refine AM 3 6 false _ (.bool (decide ((1:UInt8) < (g8 z 0)))) rfl rfl (decide_eq_false (by omega)) (AT rfl rfl fun _ => bin_gtr_u8 (g8 z 0) (1:UInt8)) rfl ?_
 refine AA _ (A5 _ rfl (decide_eq_false (by omega)) rfl) rfl ?_
 refine AJ (AD (CH _ rfl (decide_eq_true hb) ?_))
 refine AF (AC (AA _ (AG rfl) rfl ?_))
 refine AA (.iface 50 (I64 2)) (DH BN rfl rfl) rfl ?_
 refine A2 (D7 121 [Ptr rb 0, .iface 50 (I64 2)] 0 (Ez rb [errV 50 e, SL ao n c] 204) _ (fun v e' l' => v = .tuple #[] ∧ e' = (Ez rb [errV 50 (erN e 2), SL ao n c] 204) ∧ l' = []) (AV _ ED rfl) rfl (by rintro v l ⟨rfl, rfl⟩; exact ⟨_, _, rfl, rfl, rfl, rfl, rfl⟩) (fun w1 hw1 => EX rb e 2 (SL ao n c) w1 (by decide) (hw1.en 0 rfl))) rfl ?_
 rintro v1 L1 ⟨_, _, ⟨rfl, rfl, rfl⟩, rfl⟩
 show JL _ _ _ _ ((17, .tuple #[]) :: _) [(Ez rb [errV 50 (erN e 2), SL ao n c] 204)]
 refine AJ (AD (AF (AC (AA _ (AE rfl) rfl ?_))))
 refine AJ (AD (BK (A6 (BJ (.bool false) (res1 Tryd.results119 (BF rfl)) fun w1 hw1 => ?_))))
 exact ⟨_, _, rfl, ⟨rfl, rfl⟩, hw1⟩
theorem flgROk_c (rb e : Nat) (ao : Option Addr) (n c : Nat) (z : List UInt8)  (w : World) (h0 : w.heap[rb]? = some (.cells [errV 50 e, SL ao n c].toArray 204 (0, 0))) (hz : z.length = n) (hn : n ≤ 2000000000) (hc : n ≤ c) (hcm : c ≤ maxLen) (hr : RdB w [rb] ao z) (he : e = 0) (hl : 1 ≤ n) (hb : ¬ (1:UInt8) < g8 z 0) : Calls Tryd.prog 119 #[Ptr rb 0] w (Post w [rb] (fun v L => v = .bool (decide (g8 z 0 = 1)) ∧ L = [(Ez rb [errV 50 e, SL (advA ao c 1) (n - 1) (c - 1)] 204)])) := by
 refine enter w [rb] 21 [(Ez rb [errV 50 e, SL ao n c] 204)] [Ptr rb 0] Tryd.func119 rfl rfl (by simp) (BZ (by simpa using h0) (by simp) (by simp)) ?_
 show JC _ _ _ [(0, Ptr rb 0)] _
 refine AF (AC (AA _ (AE rfl) rfl ?_))
 refine AJ (AD (AF (AF (AC (AA _ (AG rfl) rfl ?_)))))
 refine A7 (A3 61 _ (I64 n) (AV _ EA rfl) (fun w1 hw1 => leftZ_c rb e ao n c w1 (RdA.of hw1 (AR 0 rfl (AN _)) (by simp)) he)) rfl ?_
 show JL _ _ _ _ ((4, I64 n) :: _) [_]
 refine AA (.bool (decide (((n:Int)) < (1:Int)))) (AT rfl rfl fun _ => CL _ _) rfl ?_
 refine AA _ (AG rfl) rfl ?_
 refine AM 3 6 false _ _ rfl rfl (decide_eq_false (by omega)) (AG rfl) rfl ?_
 refine AM 3 6 false _ _ rfl rfl (decide_eq_false (by omega)) (CU rfl) rfl ?_
 refine AM 3 6 false _ (Ptr rb 1) rfl rfl (decide_eq_false (by omega)) (AB 1 43 1 DO rfl CJ rfl rfl) rfl ?_
 refine AM 3 6 false _ (SL ao n c) rfl rfl (decide_eq_false (by omega)) (AL rfl (AX D4 (AR 0 rfl (AH (Seg.head))))) rfl ?_
 obtain ⟨bz1, oz1, hz1, hm1⟩ := hr.pos (by rw [hz]; omega)
 refine AM 3 6 false _ (Ptr bz1 oz1) rfl rfl (decide_eq_false (by omega)) (DI 5 1 oz1 BM B7 rfl hz1 rfl (by omega) (by omega) (by omega)) rfl ?_
 refine AM 3 6 false _ (U8 (g8 z 0)) rfl rfl (decide_eq_false (by omega)) (AL rfl (AX EP (C9 (MemAt.base hm1.1 hm1.2.1 hm1.2.2) (Seg.get (g8_get (i := 0) (by rw [hz]; omega))) (by first | omega | (simp; done) | (simp; omega))))) rfl ?_
 refine AM 3 6 false _ (.bool (decide ((1:UInt8) < (g8 z 0)))) rfl rfl (decide_eq_false (by omega)) (AT rfl rfl fun _ => bin_gtr_u8 (g8 z 0) (1:UInt8)) rfl ?_
 refine AA _ (A5 _ rfl (decide_eq_false (by omega)) rfl) rfl ?_
 refine AJ (AD (BT _ rfl (decide_eq_false hb) ?_))
 refine BH (AD (AF (AC (AA _ (AG rfl) rfl ?_))))
 have hl1 : (z.drop 1).length = (n - 1) := by rw [List.length_drop, hz] <;> omega
 have hr1 := RdB.adv (c := c) hr 1 (by rw [hz]; omega) (by rw [hz]; omega)
 refine A2 (D7 109 [Ptr rb 0, I64 1] 0 (Ez rb [errV 50 e, SL ao n c] 204) _ (fun v e' l' => v = U64 (valK z 1) ∧ e' = (Ez rb [errV 50 e, SL (advA ao c 1) (n - 1) (c - 1)] 204) ∧ l' = []) (AV _ C7 rfl) rfl (by rintro v l ⟨rfl, rfl⟩; exact ⟨_, _, rfl, rfl, rfl, rfl, rfl⟩) (fun w1 hw1 => numROk_c rb e ao n c z 1 (n - 1) (c - 1) w1 (hw1.en 0 rfl) hz (by omega) (by omega) (by omega) (hr.at (M' := [rb]) hw1 (hw1.apart [0] _ rfl)) he (by unfold Szd; omega) (by omega) (by omega) (by omega))) rfl ?_
 rintro v1 L1 ⟨_, _, ⟨rfl, rfl, rfl⟩, rfl⟩
 show JL _ _ _ _ ((19, U64 (valK z 1)) :: _) [(Ez rb [errV 50 e, SL (advA ao c 1) (n - 1) (c - 1)] 204)]
 refine AA (.bool (decide ((valK z 1) = (1:UInt64)))) (AT rfl rfl fun _ => FL (valK z 1) (1:UInt64)) rfl ?_
 refine AA _ (AE rfl) rfl ?_
 refine AJ (AD (BK (BJ (.bool (decide ((valK z 1) = (1:UInt64)))) (res1 Tryd.results119 (BF rfl)) fun w1 hw1 => ?_)))
 exact ⟨_, _, rfl, ⟨congrArg Value.bool (decide_eq_decide.2 (Iff.of_eq (valK_flag z))), rfl⟩, hw1⟩
theorem endE_c (rb e : Nat) (sv : Value) (w : World) (hw : RdA w rb 0 [errV 50 e, sv]) (he : e ≠ 0) : Calls Tryd.prog 63 #[Ptr rb 0] w (Post w [] (fun v L => v = errV 50 e ∧ L = [])) := by
 refine enter w [] 27 [] [Ptr rb 0] Tryd.func63 rfl rfl (by simp) (BZ (by simp) (by simp) (by simp)) ?_
 show JC _ _ _ [(0, Ptr rb 0)] _
 refine AF (AC (AA _ (AE rfl) rfl ?_))
 refine AJ (AD (AF (B5 (AF (AC (AA _ (AG rfl) rfl ?_))))))
 refine AA (.bool false) (DM _ _ _ rfl rfl (fun _ => FK ..) fun _ => FR Tryd.underlying110) rfl ?_
 refine AA _ (AE rfl) rfl ?_
 refine AJ (AD (BT _ rfl rfl ?_))
 refine AF (AC (AA _ (AG rfl) rfl ?_))
 refine AA _ (CU rfl) rfl ?_
 refine AA (Ptr rb 0) (AB 0 147 1 DO rfl Tryd.sizeOf147 rfl rfl) rfl ?_
 refine AA (Ptr rb 0) (AB 0 45 1 EV rfl Tryd.sizeOf45 rfl rfl) rfl (AA _ (AL rfl (AX Tryd.isAgg45 (C9 (hw.mem (by simp)) (Seg.head) (by first | omega | (simp; done) | (simp; omega))))) rfl ?_)
 refine AA (.bool (!(decide (e = 0)))) (DM _ _ _ rfl rfl (fun _ => CE ..) fun _ => DW BG _ _) rfl ?_
 refine AA _ (AE rfl) rfl ?_
 refine AJ (AD (CH _ rfl (by rw [show (decide (e = 0)) = false from (decide_eq_false he)] <;> rfl) ?_))
 refine AF (AC (AA _ (AG rfl) rfl ?_))
 refine AA _ (CU rfl) rfl ?_
 refine AA (Ptr rb 0) (AB 0 147 1 DO rfl Tryd.sizeOf147 rfl rfl) rfl ?_
 refine AA (Ptr rb 0) (AB 0 45 1 EV rfl Tryd.sizeOf45 rfl rfl) rfl (AA _ (AL rfl (AX Tryd.isAgg45 (C9 (hw.mem (by simp)) (Seg.head) (by first | omega | (simp; done) | (simp; omega))))) rfl ?_)
 refine AA _ (AE rfl) rfl ?_
 refine AJ (AD (BK (CS (A6 (BJ (errV 50 e) (res1 Tryd.results63 (BF rfl)) fun w1 hw1 => ?_)))))
 exact ⟨_, [], rfl, ⟨rfl, rfl⟩, hw1.no⟩
theorem endZ_c (rb e : Nat) (ao : Option Addr) (n c : Nat) (w : World) (hw : RdA w rb 0 [errV 50 e, SL ao n c]) (he : e = 0) (hn : n = 0) : Calls Tryd.prog 63 #[Ptr rb 0] w (Post w [] (fun v L => v = .nilIface ∧ L = [])) := by
 refine enter w [] 27 [] [Ptr rb 0] Tryd.func63 rfl rfl (by simp) (BZ (by simp) (by simp) (by simp)) ?_
 show JC _ _ _ [(0, Ptr rb 0)] _
 refine AF (AC (AA _ (AE rfl) rfl ?_))
 refine AJ (AD (AF (B5 (AF (AC (AA _ (AG rfl) rfl ?_))))))
 refine AA (.bool false) (DM _ _ _ rfl rfl (fun _ => FK ..) fun _ => FR Tryd.underlying110) rfl ?_
 refine AA _ (AE rfl) rfl ?_
 refine AJ (AD (BT _ rfl rfl ?_))
 refine AF (AC (AA _ (AG rfl) rfl ?_))
 refine AA _ (CU rfl) rfl ?_
 refine AA (Ptr rb 0) (AB 0 147 1 DO rfl Tryd.sizeOf147 rfl rfl) rfl ?_
 refine AA (Ptr rb 0) (AB 0 45 1 EV rfl Tryd.sizeOf45 rfl rfl) rfl (AA _ (AL rfl (AX Tryd.isAgg45 (C9 (hw.mem (by simp)) (Seg.head) (by first | omega | (simp; done) | (simp; omega))))) rfl ?_)
 refine AA (.bool (!(decide (e = 0)))) (DM _ _ _ rfl rfl (fun _ => CE ..) fun _ => DW BG _ _) rfl ?_
 refine AA _ (AE rfl) rfl ?_
 refine AJ (AD (BT _ rfl (by rw [show (decide (e = 0)) = true from (decide_eq_true he)] <;> rfl) ?_))
 refine AF (AC (AA _ (AG rfl) rfl ?_))
 refine AA _ (CU rfl) rfl ?_
 refine AA (Ptr rb 1) (AB 1 43 1 DO rfl CJ rfl rfl) rfl (AA _ (AL rfl (AX D4 (C9 (hw.mem (by simp)) (AH (Seg.head)) (by first | omega | (simp; done) | (simp; omega))))) rfl ?_)
 refine AA (I64 n) (DA BM rfl) rfl ?_
 refine AA (.bool (decide ((0:Int) < ((n:Int))))) (AT rfl rfl fun _ => DJ _ _) rfl ?_
 refine AA _ (AE rfl) rfl ?_
 refine AJ (AD (BT _ rfl (decide_eq_false (by omega)) ?_))
 refine BH (BU (AD (AF (AC (AA _ (AE rfl) rfl ?_)))))
 refine AJ (AD (BK (BJ (.nilIface) (res1 Tryd.results63 (BF rfl)) fun w1 hw1 => ?_)))
 exact ⟨_, [], rfl, ⟨rfl, rfl⟩, hw1.no⟩
theorem endB_c (rb e : Nat) (ao : Option Addr) (n c : Nat) (w : World) (hw : RdA w rb 0 [errV 50 e, SL ao n c]) (he : e = 0) (hn : n ≠ 0) : Calls Tryd.prog 63 #[Ptr rb 0] w (Post w [] (fun v L => v = .iface 50 (I64 2) ∧ L = [])) := by
 refine enter w [] 27 [] [Ptr rb 0] Tryd.func63 rfl rfl (by simp) (BZ (by simp) (by simp) (by simp)) ?_
 show JC _ _ _ [(0, Ptr rb 0)] _
 refine AF (AC (AA _ (AE rfl) rfl ?_))
 refine AJ (AD (AF (B5 (AF (AC (AA _ (AG rfl) rfl ?_))))))
 refine AA (.bool false) (DM _ _ _ rfl rfl (fun _ => FK ..) fun _ => FR Tryd.underlying110) rfl ?_
 refine AA _ (AE rfl) rfl ?_
 refine AJ (AD (BT _ rfl rfl ?_))
 refine AF (AC (AA _ (AG rfl) rfl ?_))
 refine AA _ (CU rfl) rfl ?_
 refine AA (Ptr rb 0) (AB 0 147 1 DO rfl Tryd.sizeOf147 rfl rfl) rfl ?_
 refine AA (Ptr rb 0) (AB 0 45 1 EV rfl Tryd.sizeOf45 rfl rfl) rfl (AA _ (AL rfl (AX Tryd.isAgg45 (C9 (hw.mem (by simp)) (Seg.head) (by first | omega | (simp; done) | (simp; omega))))) rfl ?_)
 refine AA (.bool (!(decide (e = 0)))) (DM _ _ _ rfl rfl (fun _ => CE ..) fun _ => DW BG _ _) rfl ?_
 refine AA _ (AE rfl) rfl ?_
 refine AJ (AD (BT _ rfl (by rw [show (decide (e = 0)) = true from (decide_eq_true he)] <;> rfl) ?_))
 refine AF (AC (AA _ (AG rfl) rfl ?_))
 refine AA _ (CU rfl) rfl ?_
 refine AA (Ptr rb 1) (AB 1 43 1 DO rfl CJ rfl rfl) rfl (AA _ (AL rfl (AX D4 (C9 (hw.mem (by simp)) (AH (Seg.head)) (by first | omega | (simp; done) | (simp; omega))))) rfl ?_)
 refine AA (I64 n) (DA BM rfl) rfl ?_
 refine AA (.bool (decide ((0:Int) < ((n:Int))))) (AT rfl rfl fun _ => DJ _ _) rfl ?_
 refine AA _ (AE rfl) rfl ?_
 refine AJ (AD (CH _ rfl (decide_eq_true (by omega)) ?_))
 refine AF (AC (AA (.iface 50 (I64 2)) (DH BN rfl rfl) rfl ?_))
 refine AA _ (AE rfl) rfl ?_
 refine AJ (AD (BK (CS (A6 (BJ (.iface 50 (I64 2)) (res1 Tryd.results63 (BF rfl)) fun w1 hw1 => ?_)))))
 exact ⟨_, [], rfl, ⟨rfl, rfl⟩, hw1.no⟩
theorem end_w (rb e : Nat) (ao : Option Addr) (n c : Nat) (w : World) (hw : RdA w rb 0 [errV 50 e, SL ao n c]) : Calls Tryd.prog 63 #[Ptr rb 0] w (Post w [] (fun v L => v = errV 50 (endN e n) ∧ L = [])) := by
  by_cases he : e = 0
  · by_cases hn : n = 0
    · rw [endN, if_pos he, if_pos hn]; exact endZ_c rb e ao n c w hw he hn
    · rw [endN, if_pos he, if_neg hn]; exact endB_c rb e ao n c w hw he hn
  · rw [endN, if_neg he]; exact endE_c rb e _ w hw he
theorem from_c (ax : Option Addr) (p cx : Nat) (z : List UInt8) (w : World) (ha : ax.isNone = false) (hz : z.length = p) (hn : p ≤ 2000000000) (hr : RdB w [] ax z) : Calls Tryd.prog 59 #[SL ax p cx] w (Post w [] (fun v L => ∃ rb g sp cap, v = Ptr rb 0 ∧ L = [(Ez rb [.nilIface, Slc g 0 p cap] 204), (Ez g (cu8 z ++ sp) 5)] ∧ sp.length = cap - p ∧ p ≤ cap ∧ cap ≤ maxLen)) := by
 refine enter w [] 7 [] [SL ax p cx] Tryd.func59 rfl rfl (by simp) (BZ (by simp) (by simp) (by simp)) ?_
 show JC _ _ _ [(0, SL ax p cx)] _
 refine AF (AC (AA _ (AE rfl) rfl ?_))
 refine AJ (AD (AF (AC (AA _ (AG rfl) rfl ?_))))
 refine A2 (C6 108 _ _ (AV _ Tryd.call108 rfl) (fun w1 hw1 => sclone_c ax p cx z w1 ha hz (by omega) (hr.at (M' := []) hw1 (by simp)))) rfl ?_
 rintro v1 L1 ⟨_, ⟨nb1, sp1, cp1, rfl, rfl, hc1, hc2, hc3⟩, rfl⟩
 show JL _ _ _ _ ((4, Slc nb1 0 p cp1) :: _) [(Ez nb1 (cu8 z ++ sp1) 5)]
 refine AA (.agg #[.nilIface, Slc nb1 0 p cp1]) (CY [(1, Slc nb1 0 p cp1)] _ rfl (fun _ => by kernel_rfl)) rfl ?_
 refine A2 (CN (.agg #[.nilIface, Slc nb1 0 p cp1]) ([.nilIface, Slc nb1 0 p cp1]) rfl (by first | rfl | simp)) rfl ?_
 rintro v1 L1 ⟨nb2, hnb2, rfl, rfl⟩
 show JL _ _ _ _ (_ :: _) [_, _]
 refine AA _ (AE rfl) rfl ?_
 refine AJ (AD (BK (BJ (Ptr nb2 0) (res1 Tryd.results59 (BF rfl)) fun w1 hw1 => ?_)))
 exact ⟨_, _, rfl, ⟨nb2, nb1, sp1, cp1, rfl, rfl, hc1, hc2, hc3⟩, hw1.sub (by simp) (by simpa using hw1.ne (i := 1) (j := 0) rfl rfl (by decide))⟩
theorem fromNil_c  (w : World) : Calls Tryd.prog 59 #[SL none 0 0] w (Post w [] (fun v L => ∃ rb, v = Ptr rb 0 ∧ L = [(Ez rb [.nilIface, SL none 0 0] 204)])) := by
 refine enter w [] 7 [] [SL none 0 0] Tryd.func59 rfl rfl (by simp) (BZ (by simp) (by simp) (by simp)) ?_
 show JC _ _ _ [(0, SL none 0 0)] _
 refine AF (AC (AA _ (AE rfl) rfl ?_))
 refine AJ (AD (AF (AC (AA _ (AG rfl) rfl ?_))))
 refine A7 (A3 108 _ (SL none 0 0) (AV _ Tryd.call108 rfl) (fun w1 hw1 => scloneNil_c w1)) rfl ?_
 show JL _ _ _ _ ((4, SL none 0 0) :: _) []
 refine AA (.agg #[.nilIface, SL none 0 0]) (CY [(1, SL none 0 0)] _ rfl (fun _ => by kernel_rfl)) rfl ?_
 refine A2 (CN (.agg #[.nilIface, SL none 0 0]) ([.nilIface, SL none 0 0]) rfl (by first | rfl | simp)) rfl ?_
 rintro v1 L1 ⟨nb1, hnb1, rfl, rfl⟩
 show JL _ _ _ _ (_ :: _) [_]
 refine AA _ (AE rfl) rfl ?_
 refine AJ (AD (BK (BJ (Ptr nb1 0) (res1 Tryd.results59 (BF rfl)) fun w1 hw1 => ?_)))
 exact ⟨_, _, rfl, ⟨nb1, rfl, rfl⟩, hw1.sub (by simp) (by simp)⟩
attribute [local irreducible] constL initL putL
theorem pright_c (ai : Option Addr) (ni ci : Nat) (l : List UInt64)  (w : World) (hl : l.length = ni) (hnm : ni ≤ 2000000) (hnc : ni ≤ ci) (hcm : ci ≤ maxLen) (hv : RdV w ai (cu64 l))  : Calls Tryd.prog 85 #[I64 32, SL ai ni ci] w (Post w [] (fun v L => v = .bool (decide (RightI l)) ∧ L = [])) := by
 have hmx : maxLen = 9223372036854775807 := rfl
 refine enter w [] 48 [] [I64 32, SL ai ni ci] Tryd.func85 rfl rfl (by simp) (BZ (by simp) (by simp) (by simp)) ?_
 show JC _ _ _ [(0, I64 32), (1, SL ai ni ci)] _
 refine AF (AC (AA _ (AE rfl) rfl ?_))
 refine AJ (AD (AF (AF (AC (AA _ (AG rfl) rfl ?_)))))
 refine AA (.bool (decide ((32:Int) < (0:Int)))) (AT rfl rfl fun _ => CL _ _) rfl ?_
 refine AA _ (AG rfl) rfl ?_
 refine AM 2 9 false _ _ rfl rfl (by decide) (AG rfl) rfl ?_
 refine AM 2 9 false _ (.bool (decide ((32:Int) < (32:Int)))) rfl rfl (by decide) (AT rfl rfl fun _ => DJ _ _) rfl ?_
 refine AA _ (A5 _ rfl (by decide) rfl) rfl (AA _ (AG rfl) rfl ?_)
 refine AM 6 13 false _ _ rfl rfl (by decide) (AG rfl) rfl ?_
 refine AM 6 13 false _ (I64 ni) rfl rfl (by decide) (DA BL rfl) rfl ?_
 refine AM 6 13 false _ (.bool (decide (((ni:Int)) < (1:Int)))) rfl rfl (by decide) (AT rfl rfl fun _ => CL _ _) rfl ?_
 refine AA _ (A5 _ rfl (by decide) rfl) rfl (AA _ (AG rfl) rfl ?_)
 rcases Bool.eq_false_or_eq_true (decide (((ni:Int)) < (1:Int))) with hb1 | hb1
 ·
  have hp1 : ((ni:Int)) < (1:Int) := of_decide_eq_true hb1
  refine A9 3 11 18 false _ rfl rfl hb1 rfl (AA _ (BA _ rfl hb1 rfl) rfl ?_)
  refine AJ (AD (CH _ rfl rfl ?_))
  refine AF (AC (AA _ (AE rfl) rfl ?_))
  refine AJ (AD (BK (A6 (BJ (.bool false) (res1 Tryd.results85 (BF rfl)) fun w1 hw1 => ?_))))
  refine ⟨_, [], rfl, ⟨congrArg Value.bool (Eq.symm (decide_eq_false (fun h => ?_))), rfl⟩, hw1.no⟩
  first | (have := h.1; omega) | (have := h.2.1; omega) | exact h.2.2 i (by omega) (.inl ‹_›) | exact h.2.2 i (by omega) (.inr ⟨by omega, ‹_›⟩) | exact h.2.2 i (by omega) (.inl ((shr32 _).1 ‹_›))
 ·
  have hp1 : ¬ (((ni:Int)) < (1:Int)) := of_decide_eq_false hb1
  refine AM 11 18 false _ _ rfl rfl hb1 (AG rfl) rfl ?_
  refine AM 11 18 false _ (I64 ni) rfl rfl hb1 (DA BL rfl) rfl ?_
  refine AM 11 18 false _ (.bool (decide ((256:Int) < ((ni:Int))))) rfl rfl hb1 (AT rfl rfl fun _ => DJ _ _) rfl ?_
  refine AA _ (A5 _ rfl hb1 rfl) rfl ?_
  refine AJ (AD (CC (decide ((256:Int) < ((ni:Int)))) rfl (fun hb2 => ?_) (fun hb2 => ?_)))
  ·
   have hp2 : (256:Int) < ((ni:Int)) := of_decide_eq_true hb2
   refine AF (AC (AA _ (AE rfl) rfl ?_))
   refine AJ (AD (BK (A6 (BJ (.bool false) (res1 Tryd.results85 (BF rfl)) fun w1 hw1 => ?_))))
   refine ⟨_, [], rfl, ⟨congrArg Value.bool (Eq.symm (decide_eq_false (fun h => ?_))), rfl⟩, hw1.no⟩
   first | (have := h.1; omega) | (have := h.2.1; omega) | exact h.2.2 i (by omega) (.inl ‹_›) | exact h.2.2 i (by omega) (.inr ⟨by omega, ‹_›⟩) | exact h.2.2 i (by omega) (.inl ((shr32 _).1 ‹_›))
  ·
   have hp2 : ¬ ((256:Int) < ((ni:Int))) := of_decide_eq_false hb2
   refine BH (AD (AF (AF (AC (AA _ (AG rfl) rfl ?_)))))
   refine AA (I64 ni) (DA BL rfl) rfl (AA _ (AG rfl) rfl ?_)
   refine AJ (AD (B5 (EO (ι := Nat) (fun i => [(0, I64 32), (1, SL ai ni ci), (23, SL ai ni ci), (24, I64 ni), (25, I64 i)]) (fun i => []) (fun i => i ≤ ni ∧ ∀ k, k < i → ¬ IdxBad l k) (fun i => ni - i) 0 ⟨by omega, fun k hk => absurd hk (by omega)⟩ (Sub.all rfl) rfl ?_)))
   rintro i ⟨hx1, hx2⟩
   show JC _ _ _ [_, _, _, _, _] []
   refine AF (AC (AA (.bool (decide (((i:Int)) < ((ni:Int))))) (AT rfl rfl fun _ => CL _ _) rfl ?_))
   refine AJ (AD (AF (CC (decide (((i:Int)) < ((ni:Int)))) rfl (fun hb3 => ?_) (fun hb3 => ?_))))
   ·
    have hp3 : ((i:Int)) < ((ni:Int)) := of_decide_eq_true hb3
    refine BH (AD (AF (B5 (AF (AC (AA _ (AG rfl) rfl ?_))))))
    obtain ⟨bz1, oz1, hz1, hm1⟩ := RdV.pos hv (by rw [FS, hl]; omega)
    refine AA (Ptr bz1 (i + oz1)) (DI 22 1 (i + oz1) BL A1 rfl hz1 rfl (by omega) (by omega) (by omega)) rfl (AA _ (AL rfl (AX A8 (C9 (hm1.mem (by simp)) (Seg.get (g64_get (i := i) (by rw [hl]; omega))) (by first | omega | (simp; done) | (simp; omega))))) rfl ?_)
    refine AA _ (AE rfl) rfl (AA _ (AE rfl) rfl ?_)
    refine AJ (AD (AF (AC (AA _ (AG rfl) rfl ?_))))
    refine AA _ (AG rfl) rfl ?_
    refine AA (U64 ((g64 l i) >>> (32:UInt64))) (AT rfl rfl fun _ => FT (g64 l i) _ _ 32 (by decide) rfl) rfl ?_
    refine AA (.bool (decide (((g64 l i) >>> (32:UInt64)) ≠ (0:UInt64)))) (AT rfl rfl fun _ => E3 ((g64 l i) >>> (32:UInt64)) (0:UInt64)) rfl ?_
    refine AA _ (AG rfl) rfl ?_
    rcases Bool.eq_false_or_eq_true (decide (((g64 l i) >>> (32:UInt64)) ≠ (0:UInt64))) with hb4 | hb4
    ·
     have hp4 : ((g64 l i) >>> (32:UInt64)) ≠ (0:UInt64) := of_decide_eq_true hb4
     refine A9 3 4 34 false _ rfl rfl hb4 rfl ?_
     refine CQ 7 37 true rfl rfl rfl ?_
     refine CQ 7 37 true rfl rfl rfl ?_
     refine CQ 7 37 true rfl rfl rfl ?_
     refine CQ 7 37 true rfl rfl rfl ?_
     refine CQ 7 37 true rfl rfl rfl ?_
     refine CQ 7 37 true rfl rfl rfl ?_
     refine CQ 7 37 true rfl rfl rfl ?_
     refine FN 4 34 false _ rfl rfl hb4 rfl (AA _ (BA _ rfl hb4 rfl) rfl ?_)
     refine AJ (AD (CH _ rfl rfl ?_))
     refine AF (AC (AA _ (AE rfl) rfl ?_))
     refine AJ (AD (BK (CS (A6 (A6 (CS (A6 (BJ (.bool false) (res1 Tryd.results85 (BF rfl)) fun w1 hw1 => ?_))))))))
     refine ⟨_, [], rfl, ⟨congrArg Value.bool (Eq.symm (decide_eq_false (fun h => ?_))), rfl⟩, hw1.no⟩
     first | (have := h.1; omega) | (have := h.2.1; omega) | exact h.2.2 i (by omega) (.inl ‹_›) | exact h.2.2 i (by omega) (.inr ⟨by omega, ‹_›⟩) | exact h.2.2 i (by omega) (.inl ((shr32 _).1 ‹_›))
    ·
     have hp4 : ¬ (((g64 l i) >>> (32:UInt64)) ≠ (0:UInt64)) := of_decide_eq_false hb4
     refine AM 4 34 false _ _ rfl rfl hb4 (AG rfl) rfl ?_
     refine AM 4 34 false _ (.bool (decide ((0:Int) < ((i:Int))))) rfl rfl hb4 (AT rfl rfl fun _ => DJ _ _) rfl ?_
     refine AM 4 34 false _ _ rfl rfl hb4 (AG rfl) rfl ?_
     rcases Bool.eq_false_or_eq_true (decide ((0:Int) < ((i:Int)))) with hb5 | hb5
     ·
      have hp5 : (0:Int) < ((i:Int)) := of_decide_eq_true hb5
      refine AM 7 37 true _ _ rfl rfl hb5 (AG rfl) rfl ?_
      refine AM 7 37 true _ _ rfl rfl hb5 (AG rfl) rfl ?_
      refine AM 7 37 true _ (I64 ((i:Int) - 1)) rfl rfl hb5 (AT rfl rfl fun _ => E7 _ _ ((i:Int) - 1) (by omega) (by omega)) rfl ?_
      refine AM 7 37 true _ (Ptr bz1 (i + oz1 - 1)) rfl rfl hb5 (DI 22 1 (i + oz1 - 1) BL A1 rfl hz1 rfl (by omega) (by omega) (by omega)) rfl ?_
      refine AM 7 37 true _ _ rfl rfl hb5 (AL rfl (AX A8 (C9 (hm1.mem (by simp)) (Seg.get (g64_get (i := (i - 1)) (by rw [hl]; omega))) (by first | omega | (simp; done) | (simp; omega))))) rfl ?_
      refine AM 7 37 true _ _ rfl rfl hb5 (AG rfl) rfl ?_
      refine AM 7 37 true _ (.bool (decide ((g64 l i) ≤ (g64 l (i - 1))))) rfl rfl hb5 (AT rfl rfl fun _ => bin_geq_u64 (g64 l (i - 1)) (g64 l i)) rfl ?_
      refine AM 4 34 false _ _ rfl rfl hb4 (BA _ rfl hb5 rfl) rfl (AA _ (A5 _ rfl hb4 rfl) rfl ?_)
      refine AJ (AD (CC (decide ((g64 l i) ≤ (g64 l (i - 1)))) rfl (fun hb6 => ?_) (fun hb6 => ?_)))
      ·
       have hp6 : (g64 l i) ≤ (g64 l (i - 1)) := of_decide_eq_true hb6
       refine AF (AC (AA _ (AE rfl) rfl ?_))
       refine AJ (AD (BK (CS (A6 (A6 (CS (A6 (BJ (.bool false) (res1 Tryd.results85 (BF rfl)) fun w1 hw1 => ?_))))))))
       refine ⟨_, [], rfl, ⟨congrArg Value.bool (Eq.symm (decide_eq_false (fun h => ?_))), rfl⟩, hw1.no⟩
       first | (have := h.1; omega) | (have := h.2.1; omega) | exact h.2.2 i (by omega) (.inl ‹_›) | exact h.2.2 i (by omega) (.inr ⟨by omega, ‹_›⟩) | exact h.2.2 i (by omega) (.inl ((shr32 _).1 ‹_›))
      ·
       have hp6 : ¬ ((g64 l i) ≤ (g64 l (i - 1))) := of_decide_eq_false hb6
       refine BH (BU (AD (AC (AA (I64 ((i:Int) + 1)) (AT rfl rfl fun _ => DK _ _ ((i:Int) + 1) (by omega) (by omega)) rfl ?_))))
       refine AA _ (AG rfl) rfl ?_
       refine AJ (DU (EZ (i + 1) ⟨by omega, idx_step hx2 (fun hq => by rcases hq with hq | ⟨hq1, hq2⟩ <;> first | contradiction | omega | exact absurd ((shr32 _).2 hq) ‹_›)⟩ (by first | (simp; omega) | simp | (dsimp only; omega) | omega) (Sub.all rfl) rfl))
     ·
      have hp5 : ¬ ((0:Int) < ((i:Int))) := of_decide_eq_false hb5
      refine A9 7 7 37 true _ rfl rfl hb5 rfl ?_
      refine AM 4 34 false _ _ rfl rfl hb4 (A5 _ rfl hb5 rfl) rfl (AA _ (A5 _ rfl hb4 rfl) rfl ?_)
      refine AJ (AD (BT _ rfl rfl ?_))
      refine BH (BU (AD (AC (AA (I64 ((i:Int) + 1)) (AT rfl rfl fun _ => DK _ _ ((i:Int) + 1) (by omega) (by omega)) rfl ?_))))
      refine AA _ (AG rfl) rfl ?_
      refine AJ (DU (EZ (i + 1) ⟨by omega, idx_step hx2 (fun hq => by rcases hq with hq | ⟨hq1, hq2⟩ <;> first | contradiction | omega | exact absurd ((shr32 _).2 hq) ‹_›)⟩ (by first | (simp; omega) | simp | (dsimp only; omega) | omega) (Sub.all rfl) rfl))
   ·
    have hp3 : ¬ (((i:Int)) < ((ni:Int))) := of_decide_eq_false hb3
    refine EF (BC (BC (CX (AD (AF (AC (AA _ (AE rfl) rfl ?_)))))))
    refine AJ (AD (BK (BJ (.bool true) (res1 Tryd.results85 (BF rfl)) fun w1 hw1 => ?_)))
    have e1 : i = ni := by omega
    subst e1
    exact ⟨_, [], rfl, ⟨congrArg Value.bool (Eq.symm (decide_eq_true ⟨by omega, by omega, by rw [hl]; exact hx2⟩)), rfl⟩, hw1.no⟩
attribute [local irreducible] RightB
theorem right_c (i e : UInt64) (w : World) : Calls Tryd.prog 133 #[U64 i, U64 e] w (Post w [] (fun v L => v = .bool (RightB i e) ∧ L = [])) := by
 refine enter w [] 15 [] [U64 i, U64 e] Tryd.func133 rfl rfl (by simp) (BZ (by simp) (by simp) (by simp)) ?_
 show JC _ _ _ [(0, U64 i), (1, U64 e)] _
 refine AF (AC (AA _ (AE rfl) rfl ?_))
 refine AJ (AD (AF (AC (AA _ (AG rfl) rfl ?_))))
 refine AA (.bool (decide (i < (4294967296:UInt64)))) (AT rfl rfl fun _ => bin_lss_u64 i (4294967296:UInt64)) rfl ?_
 refine AA _ (AG rfl) rfl ?_
 rcases Bool.eq_false_or_eq_true (decide (i < (4294967296:UInt64))) with hb1 | hb1
 ·
  have hp1 : i < (4294967296:UInt64) := of_decide_eq_true hb1
  refine AM 2 7 true _ _ rfl rfl hb1 (AG rfl) rfl ?_
  refine AM 2 7 true _ (.bool (decide ((1:UInt64) ≤ e))) rfl rfl hb1 (AT rfl rfl fun _ => bin_geq_u64 e (1:UInt64)) rfl ?_
  refine AA _ (BA _ rfl hb1 rfl) rfl (AA _ (AG rfl) rfl ?_)
  rcases Bool.eq_false_or_eq_true (decide ((1:UInt64) ≤ e)) with hb2 | hb2
  ·
   have hp2 : (1:UInt64) ≤ e := of_decide_eq_true hb2
   refine AM 6 11 true _ _ rfl rfl hb2 (AG rfl) rfl ?_
   refine AM 6 11 true _ (.bool (decide (e < (18446744073709551615:UInt64)))) rfl rfl hb2 (AT rfl rfl fun _ => bin_lss_u64 e (18446744073709551615:UInt64)) rfl ?_
   refine AA _ (BA _ rfl hb2 rfl) rfl (AA _ (AE rfl) rfl ?_)
   refine AJ (AD (BK (BJ (.bool (decide (e < (18446744073709551615:UInt64)))) (res1 Tryd.results133 (BF rfl)) fun w1 hw1 => ?_)))
   refine ⟨_, [], rfl, ⟨congrArg Value.bool ?_, rfl⟩, hw1.no⟩
   unfold RightB
   simp [*]
  ·
   have hp2 : ¬ ((1:UInt64) ≤ e) := of_decide_eq_false hb2
   refine A9 2 6 11 true _ rfl rfl hb2 rfl (AA _ (A5 _ rfl hb2 rfl) rfl ?_)
   refine AA _ (AE rfl) rfl ?_
   refine AJ (AD (BK (BJ (.bool false) (res1 Tryd.results133 (BF rfl)) fun w1 hw1 => ?_)))
   refine ⟨_, [], rfl, ⟨congrArg Value.bool ?_, rfl⟩, hw1.no⟩
   unfold RightB
   simp [*]
 ·
  have hp1 : ¬ (i < (4294967296:UInt64)) := of_decide_eq_false hb1
  refine A9 2 2 7 true _ rfl rfl hb1 rfl (AA _ (A5 _ rfl hb1 rfl) rfl ?_)
  refine AA _ (AG rfl) rfl ?_
  refine A9 2 6 11 true _ rfl rfl rfl rfl (AA _ (A5 _ rfl rfl rfl) rfl ?_)
  refine AA _ (AE rfl) rfl ?_
  refine AJ (AD (BK (BJ (.bool false) (res1 Tryd.results133 (BF rfl)) fun w1 hw1 => ?_)))
  refine ⟨_, [], rfl, ⟨congrArg Value.bool ?_, rfl⟩, hw1.no⟩
  unfold RightB
  simp [*]
theorem odd_c (ob : Nat) (kd : Int) (ai : Option Addr) (ni ci : Nat) (l : List UInt64) (sa : Option Addr) (ns sc : Nat) (ls : List SealR) (bl : UInt64) (e : UInt64) (d t : List UInt8)  (w : World) (hd : d.length = 32) (ht : t.length = 16) (hpos : 0 < ns) (hls : ls.length = ns) (hnn : ns ≤ 2000000) (hnd : ns ≤ sc) (hcn : sc ≤ maxLen) (hs : RdV w sa (ls.flatMap sealC)) (hO : RdA w ob 0 (V4 (kd) ai ni ci sa ns sc bl))  : Calls Tryd.prog 132 #[.agg ([U64 e] ++ cu8 d ++ cu8 t).toArray, Ptr ob 0] w (Post w [] (fun v L => v = .bool (oddB (headE ls) e) ∧ L = [])) := by
 have hmx : maxLen = 9223372036854775807 := rfl
 refine enter (P := Tryd.prog) (f := 132) (fn := Tryd.f132) w [] 18 [] [.agg ([U64 e] ++ cu8 d ++ cu8 t).toArray, Ptr ob 0] Tryd.func132 rfl rfl (by simp) (BZ (by simp) (by simp) (by simp)) ?_
 show JC _ _ _ [(0, .agg ([U64 e] ++ cu8 d ++ cu8 t).toArray), (1, Ptr ob 0)] _
 refine AF (AC (A2 (CN (.agg ([U64 e] ++ cu8 d ++ cu8 t).toArray) ([U64 e] ++ cu8 d ++ cu8 t) rfl (by first | rfl | simp)) rfl ?_))
 rintro v1 L1 ⟨nb1, hnb1, rfl, rfl⟩
 show JL _ _ _ _ (_ :: _) [_]
 refine AA _ (AE rfl) rfl ?_
 refine AJ (AD (AF ?_))
 rcases Bool.eq_false_or_eq_true (RightB (0:UInt64) e) with hb1 | hb1
 ·
  refine DB 18 2 [(0, Ptr nb1 0), (1, U64 e)] B6 rfl (by decide +kernel) ?_
  refine C2 ⟨[], [0, 1], [], [0, 1], [2]⟩ 2 _ rfl rfl (by decide +kernel) rfl ⟨AP rfl rfl (AB 0 22 1 CM rfl A1 rfl rfl), AP rfl rfl (AL rfl (AX A8 (AR 0 rfl (AI (AI (Seg.head)))))), trivial⟩ rfl (BO rfl (A3 133 _ (.bool (RightB (0:UInt64) e)) (AV _ Tryd.call133 rfl) (fun w1 hw1 => right_c (0:UInt64) e w1 ))) ?_
  rintro v1 L1 ⟨rfl, rfl⟩
  obtain ⟨x1, hx1⟩ : ∃ x, ls[0]? = some x := ⟨_, List.getElem?_eq_getElem (by rw [hls]; omega)⟩
  obtain ⟨bz1, oz1, hz1, hm1⟩ := F6 FH (by decide) hs hx1
  refine ⟨[(3, .bool (!(RightB (0:UInt64) e))), (4, .bool (!(RightB (0:UInt64) e))), (5, Ptr nb1 0), (6, U64 e), (7, Ptr ob 2), (8, SL sa ns sc), (9, Ptr bz1 oz1), (10, Ptr bz1 oz1), (11, U64 x1.e), (12, .bool (decide (e ≠ x1.e))), (13, .bool (decide (e ≠ x1.e))), (14, .bool (decide (e ≠ x1.e)))], ?_⟩
  show DP _ _ _ _ _ _ _ _ [_]
  refine DR ⟨[2], [0, 1, 3, 4, 5, 6, 7, 8, 9, 10, 11, 12, 13, 14], [0, 1], [3, 4, 5, 6, 7, 8, 9, 10, 11, 12, 13, 14], []⟩ rfl rfl (by decide +kernel) rfl ⟨AP rfl rfl (D1 rfl), CB rfl rfl rfl, ⟨_, rfl, C8 4 8 false _ rfl rfl rfl (by rw [show (RightB (0:UInt64) e) = true from hb1] <;> rfl) (AB 0 22 1 CM rfl A1 rfl rfl)⟩, ⟨_, rfl, C8 4 8 false _ rfl rfl rfl (by rw [show (RightB (0:UInt64) e) = true from hb1] <;> rfl) (AL rfl (AX A8 (AR 0 rfl (AI (AI (Seg.head))))))⟩, ⟨_, rfl, C8 4 8 false _ rfl rfl rfl (by rw [show (RightB (0:UInt64) e) = true from hb1] <;> rfl) (AB 2 24 1 AY rfl DG rfl rfl)⟩, ⟨_, rfl, C8 4 8 false _ rfl rfl rfl (by rw [show (RightB (0:UInt64) e) = true from hb1] <;> rfl) (AL rfl (AX D6 (C9 (hO.mem (by simp)) (AH (AH (Seg.head))) (by first | omega | (simp; done) | (simp; omega)))))⟩, ⟨_, rfl, C8 4 8 false _ rfl rfl rfl (by rw [show (RightB (0:UInt64) e) = true from hb1] <;> rfl) (DI 161 49 oz1 CK BY rfl hz1 rfl (by omega) (by omega) (by omega))⟩, ⟨_, rfl, C8 4 8 false _ rfl rfl rfl (by rw [show (RightB (0:UInt64) e) = true from hb1] <;> rfl) (AB 0 22 1 CM rfl A1 rfl rfl)⟩, ⟨_, rfl, C8 4 8 false _ rfl rfl rfl (by rw [show (RightB (0:UInt64) e) = true from hb1] <;> rfl) (AL rfl (AX A8 (C9 (hm1.mem (by simp)) (AI (AI (Seg.head))) (by first | omega | (simp; done) | (simp; omega)))))⟩, ⟨_, rfl, C8 4 8 false _ rfl rfl rfl (by rw [show (RightB (0:UInt64) e) = true from hb1] <;> rfl) (AT rfl rfl fun _ => E3 e x1.e)⟩, AP rfl rfl (A5 _ rfl (by rw [show (RightB (0:UInt64) e) = true from hb1] <;> rfl) rfl), AP rfl rfl (AE rfl), trivial⟩ ?_
  refine C5 (F' := [(3, .bool (decide (e ≠ x1.e)))]) (by kernel_rfl) ?_
  refine AD (BK (BJ (.bool (decide (e ≠ x1.e))) (res1 Tryd.results132 (BF rfl)) fun w1 hw1 => ?_))
  refine ⟨_, [], rfl, ⟨congrArg Value.bool ?_, rfl⟩, hw1.no⟩
  first | (simp [oddB, *]; done) | (rw [headE_of hx1]; simp [oddB, *]; done)
 ·
  refine DB 18 2 [(0, Ptr nb1 0), (1, U64 e)] B6 rfl (by decide +kernel) ?_
  refine C2 ⟨[], [0, 1], [], [0, 1], [2]⟩ 2 _ rfl rfl (by decide +kernel) rfl ⟨AP rfl rfl (AB 0 22 1 CM rfl A1 rfl rfl), AP rfl rfl (AL rfl (AX A8 (AR 0 rfl (AI (AI (Seg.head)))))), trivial⟩ rfl (BO rfl (A3 133 _ (.bool (RightB (0:UInt64) e)) (AV _ Tryd.call133 rfl) (fun w1 hw1 => right_c (0:UInt64) e w1 ))) ?_
  rintro v1 L1 ⟨rfl, rfl⟩
  refine ⟨[(3, .bool (!(RightB (0:UInt64) e))), (4, .bool (!(RightB (0:UInt64) e))), (5, undef), (6, undef), (7, undef), (8, undef), (9, undef), (10, undef), (11, undef), (12, undef), (13, .bool true), (14, .bool true)], ?_⟩
  show DP _ _ _ _ _ _ _ _ [_]
  refine DR ⟨[2], [0, 1, 3, 4, 5, 6, 7, 8, 9, 10, 11, 12, 13, 14], [0, 1], [3, 4, 5, 6, 7, 8, 9, 10, 11, 12, 13, 14], []⟩ rfl rfl (by decide +kernel) rfl ⟨AP rfl rfl (D1 rfl), CB rfl rfl rfl, ⟨_, rfl, D0 4 8 false _ rfl rfl rfl (by rw [show (RightB (0:UInt64) e) = false from hb1] <;> rfl)⟩, ⟨_, rfl, D0 4 8 false _ rfl rfl rfl (by rw [show (RightB (0:UInt64) e) = false from hb1] <;> rfl)⟩, ⟨_, rfl, D0 4 8 false _ rfl rfl rfl (by rw [show (RightB (0:UInt64) e) = false from hb1] <;> rfl)⟩, ⟨_, rfl, D0 4 8 false _ rfl rfl rfl (by rw [show (RightB (0:UInt64) e) = false from hb1] <;> rfl)⟩, ⟨_, rfl, D0 4 8 false _ rfl rfl rfl (by rw [show (RightB (0:UInt64) e) = false from hb1] <;> rfl)⟩, ⟨_, rfl, D0 4 8 false _ rfl rfl rfl (by rw [show (RightB (0:UInt64) e) = false from hb1] <;> rfl)⟩, ⟨_, rfl, D0 4 8 false _ rfl rfl rfl (by rw [show (RightB (0:UInt64) e) = false from hb1] <;> rfl)⟩, ⟨_, rfl, D0 4 8 false _ rfl rfl rfl (by rw [show (RightB (0:UInt64) e) = false from hb1] <;> rfl)⟩, AP rfl rfl (BA _ rfl (by rw [show (RightB (0:UInt64) e) = false from hb1] <;> rfl) rfl), AP rfl rfl (AE rfl), trivial⟩ ?_
  refine C5 (F' := [(3, .bool true)]) (by kernel_rfl) ?_
  refine AD (BK (BJ (.bool true) (res1 Tryd.results132 (BF rfl)) fun w1 hw1 => ?_))
  refine ⟨_, [], rfl, ⟨congrArg Value.bool ?_, rfl⟩, hw1.no⟩
  first | (simp [oddB, *]; done) | (rw [headE_of hx1]; simp [oddB, *]; done)
theorem ixOdd_c (ob : Nat) (kd : Int) (ai : Option Addr) (ni ci : Nat) (l : List UInt64) (sa : Option Addr) (ns sc : Nat) (ls : List SealR) (bl : UInt64)  (w : World) (hls : ls.length = ns) (hnn : ns ≤ 2000000) (hnd : ns ≤ sc) (hcn : sc ≤ maxLen) (hs : RdV w sa (ls.flatMap sealC)) (hO : RdA w ob 0 (V4 (kd) ai ni ci sa ns sc bl))  : Calls Tryd.prog 158 #[SL sa ns sc, .func (.func 132) #[] #[Ptr ob 0]] w (Post w [] (fun v L => v = I64 (findIx (fun x => oddB (headE ls) (SealR.e x)) ls) ∧ L = [])) := by
 have hmx : maxLen = 9223372036854775807 := rfl
 refine enter w [] 19 [] [SL sa ns sc, .func (.func 132) #[] #[Ptr ob 0]] Tryd.func158 rfl rfl (by simp) (BZ (by simp) (by simp) (by simp)) ?_
 show JC _ _ _ [(0, SL sa ns sc), (1, .func (.func 132) #[] #[Ptr ob 0])] _
 refine AF (AC (AA _ (AE rfl) rfl ?_))
 refine AJ (AD (AF (AF (AC (AA _ (AG rfl) rfl ?_)))))
 refine AA (I64 ns) (DA CK rfl) rfl (AA _ (AG rfl) rfl ?_)
 refine AJ (AD (B5 (EO (ι := Nat) (fun i => [(0, SL sa ns sc), (1, .func (.func 132) #[] #[Ptr ob 0]), (7, I64 ns), (8, I64 i)]) (fun i => []) (fun i => i ≤ ns ∧ ∀ k, k < i → ∀ y, ls[k]? = some y → (fun x => oddB (headE ls) (SealR.e x)) y = false) (fun i => ns - i) 0 ⟨by omega, fun k hk => absurd hk (by omega)⟩ (Sub.all rfl) rfl ?_)))
 rintro i ⟨hi1, hi2⟩
 show JC _ _ _ [_, _, _, _] []
 refine AF (AC (AA (.bool (decide (((i:Int)) < ((ns:Int))))) (AT rfl rfl fun _ => CL _ _) rfl ?_))
 refine AJ (AD (AF (CC (decide (((i:Int)) < ((ns:Int)))) rfl (fun hb1 => ?_) (fun hb1 => ?_))))
 ·
  have hp1 : ((i:Int)) < ((ns:Int)) := of_decide_eq_true hb1
  refine BH (AD (AF (B5 (AF (AC (AA _ (AG rfl) rfl ?_))))))
  refine AA _ (AE rfl) rfl ?_
  refine AJ (AD (AF (AC (AA _ (AG rfl) rfl ?_))))
  refine AA _ (AG rfl) rfl (AA _ (AG rfl) rfl ?_)
  obtain ⟨x1, hx1⟩ : ∃ x, ls[i]? = some x := ⟨_, List.getElem?_eq_getElem (by rw [hls]; omega)⟩
  obtain ⟨bz1, oz1, hz1, hm1⟩ := F6 FH (by decide) hs hx1
  refine AA (Ptr bz1 (49*i + oz1)) (DI 161 49 (49*i + oz1) CK BY rfl hz1 rfl (by omega) (by omega) (by omega)) rfl ?_
  refine AA (.agg ([U64 x1.e] ++ cu8 x1.d ++ cu8 x1.t).toArray) (AL rfl (BR DN BY (by simp [x1.hd, x1.ht]) (C9 (hm1.mem (by simp)) (AN _) (by first | omega | (simp; done) | (simp; omega))))) rfl ?_
  refine A7 (A3 132 _ (.bool (oddB (headE ls) x1.e)) (Cl_clo [.agg ([U64 x1.e] ++ cu8 x1.d ++ cu8 x1.t).toArray] [Ptr ob 0] Tryd.call132 rfl rfl) (fun w1 hw1 => odd_c ob kd ai ni ci l sa ns sc ls bl x1.e x1.d x1.t w1 x1.hd x1.ht (by omega) hls hnn hnd hcn (CF hw1 rfl hs) (RdA_at hw1 hO (by simp) (by simp)))) rfl ?_
  show JL _ _ _ _ ((16, .bool (oddB (headE ls) x1.e)) :: _) []
  refine AJ (AD (CC (oddB (headE ls) x1.e) rfl (fun hb2 => ?_) (fun hb2 => ?_)))
  ·
   refine AF (AC (AA _ (AG rfl) rfl ?_))
   refine AA _ (AE rfl) rfl ?_
   refine AJ (AD (BK (CS (A6 (A6 (CS (A6 (BJ (I64 i) (res1 Tryd.results158 (BF rfl)) fun w1 hw1 => ?_))))))))
   have e1 : findIx (fun x => oddB (headE ls) (SealR.e x)) ls = i := findIx_at hx1 (by assumption) hi2
   exact ⟨_, [], rfl, ⟨by rw [e1], rfl⟩, hw1.no⟩
  ·
   refine BH (BU (AD (AC (AA (I64 ((i:Int) + 1)) (AT rfl rfl fun _ => DK _ _ ((i:Int) + 1) (by omega) (by omega)) rfl ?_))))
   refine AA _ (AG rfl) rfl ?_
   refine AJ (DU (EZ (i + 1) ⟨by omega, find_step hx1 (by assumption) hi2⟩ (by first | (simp; omega) | simp | (dsimp only; omega) | omega) (Sub.all rfl) rfl))
 ·
  have hp1 : ¬ (((i:Int)) < ((ns:Int))) := of_decide_eq_false hb1
  refine EF (BC (BC (CX (AD (AF (AC (AA _ (AE rfl) rfl ?_)))))))
  refine AJ (AD (BK (BJ (I64 (-1:Int)) (res1 Tryd.results158 (BF rfl)) fun w1 hw1 => ?_)))
  have e1 : findIx (fun x => oddB (headE ls) (SealR.e x)) ls = -1 := findIx_no (by rw [hls]; intro k hk; exact hi2 k (by omega))
  exact ⟨_, [], rfl, ⟨by rw [e1], rfl⟩, hw1.no⟩
theorem cfOdd_c (ob : Nat) (kd : Int) (ai : Option Addr) (ni ci : Nat) (l : List UInt64) (sa : Option Addr) (ns sc : Nat) (ls : List SealR) (bl : UInt64)  (w : World) (hls : ls.length = ns) (hnn : ns ≤ 2000000) (hnd : ns ≤ sc) (hcn : sc ≤ maxLen) (hs : RdV w sa (ls.flatMap sealC)) (hO : RdA w ob 0 (V4 (kd) ai ni ci sa ns sc bl))  : Calls Tryd.prog 134 #[SL sa ns sc, .func (.func 132) #[] #[Ptr ob 0]] w (Post w [] (fun v L => v = .bool (ls.any (fun x => oddB (headE ls) (SealR.e x))) ∧ L = [])) := by
 refine enter w [] 9 [] [SL sa ns sc, .func (.func 132) #[] #[Ptr ob 0]] Tryd.func134 rfl rfl (by simp) (BZ (by simp) (by simp) (by simp)) ?_
 show JC _ _ _ [(0, SL sa ns sc), (1, .func (.func 132) #[] #[Ptr ob 0])] _
 refine AF (AC (AA _ (AE rfl) rfl ?_))
 refine AJ (AD (AF (AC (AA _ (AG rfl) rfl ?_))))
 refine AA _ (AG rfl) rfl ?_
 refine A7 (A3 158 _ (I64 ((findIx (fun x => oddB (headE ls) (SealR.e x)) ls))) (AV _ Tryd.call158 rfl) (fun w1 hw1 => ixOdd_c ob kd ai ni ci l sa ns sc ls bl w1 hls hnn hnd hcn (CF hw1 rfl hs) (RdA_at hw1 hO (by simp) (by simp)))) rfl ?_
 show JL _ _ _ _ ((7, I64 ((findIx (fun x => oddB (headE ls) (SealR.e x)) ls))) :: _) []
 refine AA (.bool (decide ((0:Int) ≤ ((findIx (fun x => oddB (headE ls) (SealR.e x)) ls))))) (AT rfl rfl fun _ => bin_geq_i _ _) rfl ?_
 refine AA _ (AE rfl) rfl ?_
 refine AJ (AD (BK (BJ (.bool (decide ((0:Int) ≤ ((findIx (fun x => oddB (headE ls) (SealR.e x)) ls))))) (res1 Tryd.results134 (BF rfl)) fun w1 hw1 => ?_)))
 exact ⟨_, [], rfl, ⟨congrArg Value.bool (findIx_ge _ _), rfl⟩, hw1.no⟩
attribute [local irreducible] oddB
theorem right13_c (kd : Int) (ai : Option Addr) (ni ci : Nat) (l : List UInt64) (sa : Option Addr) (ns sc : Nat) (ls : List SealR) (bl : UInt64)  (w : World) (hl : l.length = ni) (hnm : ni ≤ 2000000) (hnc : ni ≤ ci) (hcm : ci ≤ maxLen) (hv : RdV w ai (cu64 l)) (hls : ls.length = ns) (hnn : ns ≤ 2000000) (hnd : ns ≤ sc) (hcn : sc ≤ maxLen) (hs : RdV w sa (ls.flatMap sealC))  : Calls Tryd.prog 69 #[.agg #[I64 (kd), SL ai ni ci, SL sa ns sc, U64 bl]] w (Post w [] (fun v L => v = .bool (RightO kd l ls bl) ∧ L = [])) := by
 have hmx : maxLen = 9223372036854775807 := rfl
 refine enter (P := Tryd.prog) (f := 69) (fn := Tryd.f69) w [] 69 [] [.agg #[I64 (kd), SL ai ni ci, SL sa ns sc, U64 bl]] Tryd.func69 rfl rfl (by simp) (BZ (by simp) (by simp) (by simp)) ?_
 show JC _ _ _ [(0, .agg #[I64 (kd), SL ai ni ci, SL sa ns sc, U64 bl])] _
 refine AF (AC (A2 (CN (.agg #[I64 (kd), SL ai ni ci, SL sa ns sc, U64 bl]) (V4 (kd) ai ni ci sa ns sc bl) rfl (by first | rfl | simp)) rfl ?_))
 rintro v1 L1 ⟨nb1, hnb1, rfl, rfl⟩
 show JL _ _ _ _ (_ :: _) [_]
 refine AA _ (AE rfl) rfl ?_
 refine AJ (AD (AF (AC (AA (.func (.func 132) #[] #[Ptr nb1 0]) (Ev_makeFunc (vs := [Ptr nb1 0]) rfl (fun _ _ => rfl)) rfl ?_))))
 refine AA _ (AE rfl) rfl ?_
 refine AJ (AD (AF (AF (AC (AA (Ptr nb1 0) (AB 0 3 1 AY rfl AW rfl rfl) rfl ?_)))))
 refine AA _ (AL rfl (AX A0 (AR 0 rfl (Seg.head)))) rfl ?_
 refine AJ (AD (B5 (AF (AC (AA (.bool (decide ((kd) = (1:Int)))) (AT rfl rfl fun _ => BP _ _) rfl ?_)))))
 refine AA _ (AE rfl) rfl ?_
 refine AJ (AD (CC (decide ((kd) = (1:Int))) rfl (fun hb1 => ?_) (fun hb1 => ?_)))
 ·
  have hp1 : (kd) = (1:Int) := of_decide_eq_true hb1
  refine AF (AC (AA (Ptr nb1 3) (AB 3 22 1 AY rfl A1 rfl rfl) rfl ?_))
  refine AA _ (AL rfl (AX A8 (AR 0 rfl (AH (AH (AH (Seg.head))))))) rfl ?_
  refine AA (.bool (decide (bl = (0:UInt64)))) (AT rfl rfl fun _ => FL bl (0:UInt64)) rfl ?_
  refine AA _ (AG rfl) rfl ?_
  rcases Bool.eq_false_or_eq_true (decide (bl = (0:UInt64))) with hb2 | hb2
  ·
   have hp2 : bl = (0:UInt64) := of_decide_eq_true hb2
   refine AM 3 12 true _ (Ptr nb1 1) rfl rfl hb2 (AB 1 23 1 AY rfl BV rfl rfl) rfl ?_
   refine AM 3 12 true _ _ rfl rfl hb2 (AL rfl (AX B4 (AR 0 rfl (AH (Seg.head))))) rfl ?_
   refine DC 3 12 true _ rfl rfl hb2 (A3 85 _ (.bool (decide (RightI l))) (AV _ Tryd.call85 rfl) (fun w1 hw1 => pright_c ai ni ci l w1 hl (by omega) (by omega) (by omega) (CF hw1 rfl hv))) rfl ?_
   rintro v1 L1 ⟨rfl, rfl⟩
   show JL _ _ _ _ ((15, .bool (decide (RightI l))) :: _) [_]
   refine AA _ (BA _ rfl hb2 rfl) rfl (AA _ (AG rfl) rfl ?_)
   rcases Bool.eq_false_or_eq_true (decide (RightI l)) with hb3 | hb3
   ·
    have hp3 : RightI l := of_decide_eq_true hb3
    refine AM 8 17 true _ (Ptr nb1 2) rfl rfl hb3 (AB 2 24 1 AY rfl DG rfl rfl) rfl ?_
    refine AM 8 17 true _ _ rfl rfl hb3 (AL rfl (AX D6 (AR 0 rfl (AH (AH (Seg.head)))))) rfl ?_
    refine AM 8 17 true _ (I64 ns) rfl rfl hb3 (DA CK rfl) rfl ?_
    refine AM 8 17 true _ (Ptr nb1 1) rfl rfl hb3 (AB 1 23 1 AY rfl BV rfl rfl) rfl ?_
    refine AM 8 17 true _ _ rfl rfl hb3 (AL rfl (AX B4 (AR 0 rfl (AH (Seg.head))))) rfl ?_
    refine AM 8 17 true _ (I64 ni) rfl rfl hb3 (DA BL rfl) rfl ?_
    refine AM 8 17 true _ (.bool (decide (((ns:Int)) = ((ni:Int))))) rfl rfl hb3 (AT rfl rfl fun _ => BP _ _) rfl ?_
    refine AA _ (BA _ rfl hb3 rfl) rfl (AA _ (AG rfl) rfl ?_)
    rcases Bool.eq_false_or_eq_true (decide (((ns:Int)) = ((ni:Int)))) with hb4 | hb4
    ·
     have hp4 : ((ns:Int)) = ((ni:Int)) := of_decide_eq_true hb4
     refine AM 17 26 true _ (Ptr nb1 2) rfl rfl hb4 (AB 2 24 1 AY rfl DG rfl rfl) rfl ?_
     refine AM 17 26 true _ _ rfl rfl hb4 (AL rfl (AX D6 (AR 0 rfl (AH (AH (Seg.head)))))) rfl ?_
     refine AM 17 26 true _ _ rfl rfl hb4 (AG rfl) rfl ?_
     refine DC 17 26 true _ rfl rfl hb4 (A3 134 _ (.bool (ls.any (fun x => oddB (headE ls) (SealR.e x)))) (AV _ Tryd.call134 rfl) (fun w1 hw1 => cfOdd_c nb1 (kd) ai ni ci l sa ns sc ls bl w1 hls (by omega) (by omega) (by omega) (CF hw1 rfl hs) (RdA.of hw1 (AR 0 rfl (AN _)) (by simp)))) rfl ?_
     rintro v1 L1 ⟨rfl, rfl⟩
     show JL _ _ _ _ ((30, .bool (ls.any (fun x => oddB (headE ls) (SealR.e x)))) :: _) [_]
     refine AM 17 26 true _ (.bool (!(ls.any (fun x => oddB (headE ls) (SealR.e x))))) rfl rfl hb4 (D1 rfl) rfl ?_
     refine AA _ (BA _ rfl hb4 rfl) rfl (AA _ (AE rfl) rfl ?_)
     refine AJ (AD (BK (CS (A6 (CD [false] ?_)))))
     show JQ _ _ _ _ []
     refine BJ (.bool (!(ls.any (fun x => oddB (headE ls) (SealR.e x))))) (res1 E0 (BF rfl)) fun w1 hw1 => ?_
     refine ⟨_, [], rfl, ⟨congrArg Value.bool ?_, rfl⟩, hw1.no⟩
     unfold RightO
     rw [hl, hls]
     first | (simp [*]; done) | (simp [*]; omega)
    ·
     have hp4 : ¬ (((ns:Int)) = ((ni:Int))) := of_decide_eq_false hb4
     refine A9 5 17 26 true _ rfl rfl hb4 rfl (AA _ (A5 _ rfl hb4 rfl) rfl ?_)
     refine AA _ (AE rfl) rfl ?_
     refine AJ (AD (BK (CS (A6 (CD [false] ?_)))))
     show JQ _ _ _ _ []
     refine BJ (.bool false) (res1 E0 (BF rfl)) fun w1 hw1 => ?_
     refine ⟨_, [], rfl, ⟨congrArg Value.bool ?_, rfl⟩, hw1.no⟩
     unfold RightO
     rw [hl, hls]
     first | (simp [*]; done) | (simp [*]; omega)
   ·
    have hp3 : ¬ (RightI l) := of_decide_eq_false hb3
    refine A9 7 8 17 true _ rfl rfl hb3 rfl (AA _ (A5 _ rfl hb3 rfl) rfl ?_)
    refine AA _ (AG rfl) rfl ?_
    refine A9 5 17 26 true _ rfl rfl rfl rfl (AA _ (A5 _ rfl rfl rfl) rfl ?_)
    refine AA _ (AE rfl) rfl ?_
    refine AJ (AD (BK (CS (A6 (CD [false] ?_)))))
    show JQ _ _ _ _ []
    refine BJ (.bool false) (res1 E0 (BF rfl)) fun w1 hw1 => ?_
    refine ⟨_, [], rfl, ⟨congrArg Value.bool ?_, rfl⟩, hw1.no⟩
    unfold RightO
    rw [hl, hls]
    first | (simp [*]; done) | (simp [*]; omega)
  ·
   have hp2 : ¬ (bl = (0:UInt64)) := of_decide_eq_false hb2
   refine A9 3 3 12 true _ rfl rfl hb2 rfl (AA _ (A5 _ rfl hb2 rfl) rfl ?_)
   refine AA _ (AG rfl) rfl ?_
   refine A9 7 8 17 true _ rfl rfl rfl rfl (AA _ (A5 _ rfl rfl rfl) rfl ?_)
   refine AA _ (AG rfl) rfl ?_
   refine A9 5 17 26 true _ rfl rfl rfl rfl (AA _ (A5 _ rfl rfl rfl) rfl ?_)
   refine AA _ (AE rfl) rfl ?_
   refine AJ (AD (BK (CS (A6 (CD [false] ?_)))))
   show JQ _ _ _ _ []
   refine BJ (.bool false) (res1 E0 (BF rfl)) fun w1 hw1 => ?_
   refine ⟨_, [], rfl, ⟨congrArg Value.bool ?_, rfl⟩, hw1.no⟩
   unfold RightO
   rw [hl, hls]
   first | (simp [*]; done) | (simp [*]; omega)
 ·
  have hp1 : ¬ ((kd) = (1:Int)) := of_decide_eq_false hb1
  refine AF (AC (AA (.bool (decide ((kd) = (2:Int)))) (AT rfl rfl fun _ => BP _ _) rfl ?_))
  refine AA _ (AE rfl) rfl ?_
  refine AJ (AD (CC (decide ((kd) = (2:Int))) rfl (fun hb5 => ?_) (fun hb5 => ?_)))
  ·
   have hp5 : (kd) = (2:Int) := of_decide_eq_true hb5
   refine AF (AC (AA (Ptr nb1 3) (AB 3 22 1 AY rfl A1 rfl rfl) rfl ?_))
   refine AA _ (AL rfl (AX A8 (AR 0 rfl (AH (AH (AH (Seg.head))))))) rfl ?_
   refine AA (.bool (decide (bl = (0:UInt64)))) (AT rfl rfl fun _ => FL bl (0:UInt64)) rfl ?_
   refine AA _ (AG rfl) rfl ?_
   rcases Bool.eq_false_or_eq_true (decide (bl = (0:UInt64))) with hb6 | hb6
   ·
    have hp6 : bl = (0:UInt64) := of_decide_eq_true hb6
    refine AM 3 38 true _ (Ptr nb1 1) rfl rfl hb6 (AB 1 23 1 AY rfl BV rfl rfl) rfl ?_
    refine AM 3 38 true _ _ rfl rfl hb6 (AL rfl (AX B4 (AR 0 rfl (AH (Seg.head))))) rfl ?_
    refine DC 3 38 true _ rfl rfl hb6 (A3 85 _ (.bool (decide (RightI l))) (AV _ Tryd.call85 rfl) (fun w1 hw1 => pright_c ai ni ci l w1 hl (by omega) (by omega) (by omega) (CF hw1 rfl hv))) rfl ?_
    rintro v1 L1 ⟨rfl, rfl⟩
    show JL _ _ _ _ ((41, .bool (decide (RightI l))) :: _) [_]
    refine AA _ (BA _ rfl hb6 rfl) rfl (AA _ (AG rfl) rfl ?_)
    rcases Bool.eq_false_or_eq_true (decide (RightI l)) with hb7 | hb7
    ·
     have hp7 : RightI l := of_decide_eq_true hb7
     refine AM 8 43 true _ (Ptr nb1 2) rfl rfl hb7 (AB 2 24 1 AY rfl DG rfl rfl) rfl ?_
     refine AM 8 43 true _ _ rfl rfl hb7 (AL rfl (AX D6 (AR 0 rfl (AH (AH (Seg.head)))))) rfl ?_
     refine AM 8 43 true _ (I64 ns) rfl rfl hb7 (DA CK rfl) rfl ?_
     refine AM 8 43 true _ (.bool (decide (((ns:Int)) = (0:Int)))) rfl rfl hb7 (AT rfl rfl fun _ => BP _ _) rfl ?_
     refine AA _ (BA _ rfl hb7 rfl) rfl (AA _ (AE rfl) rfl ?_)
     refine AJ (AD (BK (CS (A6 (CD [false] ?_)))))
     show JQ _ _ _ _ []
     refine BJ (.bool (decide (((ns:Int)) = (0:Int)))) (res1 E0 (BF rfl)) fun w1 hw1 => ?_
     refine ⟨_, [], rfl, ⟨congrArg Value.bool ?_, rfl⟩, hw1.no⟩
     unfold RightO
     rw [hl, hls]
     first | (simp [*]; done) | (simp [*]; omega)
    ·
     have hp7 : ¬ (RightI l) := of_decide_eq_false hb7
     refine A9 4 8 43 true _ rfl rfl hb7 rfl (AA _ (A5 _ rfl hb7 rfl) rfl ?_)
     refine AA _ (AE rfl) rfl ?_
     refine AJ (AD (BK (CS (A6 (CD [false] ?_)))))
     show JQ _ _ _ _ []
     refine BJ (.bool false) (res1 E0 (BF rfl)) fun w1 hw1 => ?_
     refine ⟨_, [], rfl, ⟨congrArg Value.bool ?_, rfl⟩, hw1.no⟩
     unfold RightO
     rw [hl, hls]
     first | (simp [*]; done) | (simp [*]; omega)
   ·
    have hp6 : ¬ (bl = (0:UInt64)) := of_decide_eq_false hb6
    refine A9 3 3 38 true _ rfl rfl hb6 rfl (AA _ (A5 _ rfl hb6 rfl) rfl ?_)
    refine AA _ (AG rfl) rfl ?_
    refine A9 4 8 43 true _ rfl rfl rfl rfl (AA _ (A5 _ rfl rfl rfl) rfl ?_)
    refine AA _ (AE rfl) rfl ?_
    refine AJ (AD (BK (CS (A6 (CD [false] ?_)))))
    show JQ _ _ _ _ []
    refine BJ (.bool false) (res1 E0 (BF rfl)) fun w1 hw1 => ?_
    refine ⟨_, [], rfl, ⟨congrArg Value.bool ?_, rfl⟩, hw1.no⟩
    unfold RightO
    rw [hl, hls]
    first | (simp [*]; done) | (simp [*]; omega)
  ·
   have hp5 : ¬ ((kd) = (2:Int)) := of_decide_eq_false hb5
   refine AF (AC (AA (.bool (decide ((kd) = (3:Int)))) (AT rfl rfl fun _ => BP _ _) rfl ?_))
   refine AA _ (AE rfl) rfl ?_
   refine AJ (AD (CC (decide ((kd) = (3:Int))) rfl (fun hb8 => ?_) (fun hb8 => ?_)))
   ·
    have hp8 : (kd) = (3:Int) := of_decide_eq_true hb8
    refine AF (AC (AA (Ptr nb1 1) (AB 1 23 1 AY rfl BV rfl rfl) rfl ?_))
    refine AA _ (AL rfl (AX B4 (AR 0 rfl (AH (Seg.head))))) rfl ?_
    refine AA (I64 ni) (DA BL rfl) rfl ?_
    refine AA (Ptr nb1 2) (AB 2 24 1 AY rfl DG rfl rfl) rfl (AA _ (AL rfl (AX D6 (AR 0 rfl (AH (AH (Seg.head)))))) rfl ?_)
    refine AA (I64 ns) (DA CK rfl) rfl ?_
    refine AA (I64 ((ni:Int) + (ns:Int))) (AT rfl rfl fun _ => DK _ _ ((ni:Int) + (ns:Int)) (by omega) (by omega)) rfl ?_
    refine AA (.bool (decide (((ni:Int) + (ns:Int)) = (0:Int)))) (AT rfl rfl fun _ => BP _ _) rfl ?_
    refine AA _ (AG rfl) rfl ?_
    rcases Bool.eq_false_or_eq_true (decide (((ni:Int) + (ns:Int)) = (0:Int))) with hb9 | hb9
    ·
     have hp9 : ((ni:Int) + (ns:Int)) = (0:Int) := of_decide_eq_true hb9
     refine AM 8 59 true _ (Ptr nb1 3) rfl rfl hb9 (AB 3 22 1 AY rfl A1 rfl rfl) rfl ?_
     refine AM 8 59 true _ _ rfl rfl hb9 (AL rfl (AX A8 (AR 0 rfl (AH (AH (AH (Seg.head))))))) rfl ?_
     refine AM 8 59 true _ (.bool (decide ((1:UInt64) ≤ bl))) rfl rfl hb9 (AT rfl rfl fun _ => bin_geq_u64 bl (1:UInt64)) rfl ?_
     refine AA _ (BA _ rfl hb9 rfl) rfl (AA _ (AG rfl) rfl ?_)
     rcases Bool.eq_false_or_eq_true (decide ((1:UInt64) ≤ bl)) with hb10 | hb10
     ·
      have hp10 : (1:UInt64) ≤ bl := of_decide_eq_true hb10
      refine AM 13 64 true _ (Ptr nb1 3) rfl rfl hb10 (AB 3 22 1 AY rfl A1 rfl rfl) rfl ?_
      refine AM 13 64 true _ _ rfl rfl hb10 (AL rfl (AX A8 (AR 0 rfl (AH (AH (AH (Seg.head))))))) rfl ?_
      refine AM 13 64 true _ (.bool (decide (bl ≤ (4294967296:UInt64)))) rfl rfl hb10 (AT rfl rfl fun _ => bin_leq_u64 bl (4294967296:UInt64)) rfl ?_
      refine AA _ (BA _ rfl hb10 rfl) rfl (AA _ (AE rfl) rfl ?_)
      refine AJ (AD (BK (CS (A6 (CD [false] ?_)))))
      show JQ _ _ _ _ []
      refine BJ (.bool (decide (bl ≤ (4294967296:UInt64)))) (res1 E0 (BF rfl)) fun w1 hw1 => ?_
      refine ⟨_, [], rfl, ⟨congrArg Value.bool ?_, rfl⟩, hw1.no⟩
      unfold RightO
      rw [hl, hls]
      first | (simp [*]; done) | (simp [*]; omega)
     ·
      have hp10 : ¬ ((1:UInt64) ≤ bl) := of_decide_eq_false hb10
      refine A9 3 13 64 true _ rfl rfl hb10 rfl (AA _ (A5 _ rfl hb10 rfl) rfl ?_)
      refine AA _ (AE rfl) rfl ?_
      refine AJ (AD (BK (CS (A6 (CD [false] ?_)))))
      show JQ _ _ _ _ []
      refine BJ (.bool false) (res1 E0 (BF rfl)) fun w1 hw1 => ?_
      refine ⟨_, [], rfl, ⟨congrArg Value.bool ?_, rfl⟩, hw1.no⟩
      unfold RightO
      rw [hl, hls]
      first | (simp [*]; done) | (simp [*]; omega)
    ·
     have hp9 : ¬ (((ni:Int) + (ns:Int)) = (0:Int)) := of_decide_eq_false hb9
     refine A9 3 8 59 true _ rfl rfl hb9 rfl (AA _ (A5 _ rfl hb9 rfl) rfl ?_)
     refine AA _ (AG rfl) rfl ?_
     refine A9 3 13 64 true _ rfl rfl rfl rfl (AA _ (A5 _ rfl rfl rfl) rfl ?_)
     refine AA _ (AE rfl) rfl ?_
     refine AJ (AD (BK (CS (A6 (CD [false] ?_)))))
     show JQ _ _ _ _ []
     refine BJ (.bool false) (res1 E0 (BF rfl)) fun w1 hw1 => ?_
     refine ⟨_, [], rfl, ⟨congrArg Value.bool ?_, rfl⟩, hw1.no⟩
     unfold RightO
     rw [hl, hls]
     first | (simp [*]; done) | (simp [*]; omega)
   ·
    have hp8 : ¬ ((kd) = (3:Int)) := of_decide_eq_false hb8
    refine BH (BU (AD (AF (AC (AA _ (AE rfl) rfl ?_)))))
    refine AJ (AD (BK (CD [false] ?_)))
    show JQ _ _ _ _ []
    refine BJ (.bool false) (res1 E0 (BF rfl)) fun w1 hw1 => ?_
    refine ⟨_, [], rfl, ⟨congrArg Value.bool ?_, rfl⟩, hw1.no⟩
    unfold RightO
    rw [hl, hls]
    first | (simp [*]; done) | (simp [*]; omega)
theorem doc7_c (e : UInt64) (d t : List UInt8)  (w : World) (hd : d.length = 32) (ht : t.length = 16)  : Calls Tryd.prog 93 #[.agg ([U64 e] ++ cu8 d ++ cu8 t).toArray] w (Post w [] (fun v L => v = .agg ([U64 e] ++ cu8 d ++ cu8 t).toArray ∧ L = [])) := by
 refine enter (P := Tryd.prog) (f := 93) (fn := Tryd.f93) w [] 4 [] [.agg ([U64 e] ++ cu8 d ++ cu8 t).toArray] Tryd.func93 rfl rfl (by simp) (BZ (by simp) (by simp) (by simp)) ?_
 show JC _ _ _ [(0, .agg ([U64 e] ++ cu8 d ++ cu8 t).toArray)] _
 refine AF (AC (A2 (CN (.agg ([U64 e] ++ cu8 d ++ cu8 t).toArray) ([U64 e] ++ cu8 d ++ cu8 t) rfl (by first | rfl | simp)) rfl ?_))
 rintro v1 L1 ⟨nb1, hnb1, rfl, rfl⟩
 show JL _ _ _ _ (_ :: _) [_]
 refine A2 (C4 _ ([U64 0] ++ cu8 (zr8 32) ++ cu8 (zr8 16)) Tryd.zeroValue164 (by kernel_rfl)) rfl ?_
 rintro v1 L1 ⟨nb2, hnb2, rfl, rfl⟩
 show JL _ _ _ _ (_ :: _) [_, _]
 refine AJ (AD (AF (AC (AA _ (AL rfl (BR DN BY (by simp [hd, ht]) (AR 0 rfl (AN _)))) rfl ?_))))
 refine A7 (BS 1 nb2 49 _ 164 ([U64 e] ++ cu8 d ++ cu8 t) rfl rfl rfl Tryd.sizeOf164 (by simp [hd, ht]) (B0 (B0 (by simp [Value.oneCell']) CZ) CZ) (by simp [(AO 32), (AO 16)]) (BW (by simp [(AO 32), (AO 16), hd, ht]))) rfl ?_
 show JL _ _ _ _ _ [_, _]
 refine AJ (AD (BK (BJ (.agg ([U64 e] ++ cu8 d ++ cu8 t).toArray) (res1 Tryd.results93 (DQ rfl (BR Tryd.isAgg164 Tryd.sizeOf164 (by simp [hd, ht]) (AR 1 rfl (AN _))))) fun w1 hw1 => ?_)))
 exact ⟨_, [], rfl, ⟨rfl, rfl⟩, hw1.no⟩
theorem bld36_013 {w : World} {v0 : Value} {v1 : Value} {v3 : Value} (h0 : v0.cells = [v0].toArray) (h1 : v1.cells = [v1].toArray) (h3 : v3.cells = [v3].toArray) : (Instr.build 36 ([(0, v0), (1, v1), (3, v3)] : List (Nat × Value)).toArray).run Tryd.prog w = .ok (.agg (((([v0] : List Value) ++ ([v1] : List Value)) ++ ([.slice none 0 0] : List Value)) ++ ([v3] : List Value)).toArray) w :=
 ET (places := #[(0, 1), (1, 1), (2, 1), (3, 1)]) (Z := (([I64 0] : List Value) ++ (([.slice none 0 0] : List Value) ++ (([.slice none 0 0] : List Value) ++ (([U64 0] : List Value) ++ []))))) (fun _ => by kernel_rfl) CT (fun _ => by kernel_rfl) ((FV ([I64 0] : List Value) (([.slice none 0 0] : List Value) ++ (([.slice none 0 0] : List Value) ++ (([U64 0] : List Value) ++ []))) ([v0] : List Value) h0 (by simp [AO]) rfl).trans ((E2 ([v0] : List Value) ([.slice none 0 0] : List Value) (([.slice none 0 0] : List Value) ++ (([U64 0] : List Value) ++ [])) ([v1] : List Value) h1 (by simp [AO]) rfl).trans ((EW (([v0] : List Value) ++ ([v1] : List Value)) ([.slice none 0 0] : List Value) (([U64 0] : List Value) ++ [])).trans ((E2 ((([v0] : List Value) ++ ([v1] : List Value)) ++ ([.slice none 0 0] : List Value)) ([U64 0] : List Value) [] ([v3] : List Value) h3 (by simp [AO]) rfl).trans (by simp [Instr.fill])))))
end Go.Proofs.YtkdpdgpphpngeaaDoor
namespace Go.Proofs.YtkdpdgpphpngeaaDoor
open Go Go.Sx
open Go.Value renaming slice → SL
attribute [local irreducible] mid zr8 numK valK constL initL putL RightB
theorem large_c (kd : Int) (ai : Option Addr) (ni ci : Nat) (l : List UInt64) (sa : Option Addr) (ns sc : Nat) (ls : List SealR) (bl : UInt64)  (w : World) : Calls Tryd.prog 18 #[.agg #[I64 (kd), SL ai ni ci, SL sa ns sc, U64 bl]] w (Post w [] (fun v L => v = .bool (decide (LargeP ni ns)) ∧ L = [])) := by
 refine enter (P := Tryd.prog) (f := 18) (fn := Tryd.f18) w [] 25 [] [.agg #[I64 (kd), SL ai ni ci, SL sa ns sc, U64 bl]] Tryd.func18 rfl rfl (by simp) (BZ (by simp) (by simp) (by simp)) ?_
 show JC _ _ _ [(0, .agg #[I64 (kd), SL ai ni ci, SL sa ns sc, U64 bl])] _
 refine AF (AC (A2 (CN (.agg #[I64 (kd), SL ai ni ci, SL sa ns sc, U64 bl]) (V4 (kd) ai ni ci sa ns sc bl) rfl (by first | rfl | simp)) rfl ?_))
 rintro v1 L1 ⟨nb1, hnb1, rfl, rfl⟩
 show JL _ _ _ _ (_ :: _) [_]
 refine AA _ (AE rfl) rfl ?_
 refine AJ (AD (AF (AC (AA (Ptr nb1 1) (AB 1 23 1 AY rfl BV rfl rfl) rfl ?_))))
 refine AA _ (AL rfl (AX B4 (AR 0 rfl (AH (Seg.head))))) rfl ?_
 refine AA (I64 ni) (DA BL rfl) rfl ?_
 refine AA (.bool (decide ((300:Int) < ((ni:Int))))) (AT rfl rfl fun _ => DJ _ _) rfl ?_
 refine AA _ (AG rfl) rfl ?_
 rcases Bool.eq_false_or_eq_true (decide ((300:Int) < ((ni:Int)))) with hb1 | hb1
 ·
  have hp1 : (300:Int) < ((ni:Int)) := of_decide_eq_true hb1
  refine A9 4 4 7 false _ rfl rfl hb1 rfl (AA _ (BA _ rfl hb1 rfl) rfl ?_)
  refine AA _ (AG rfl) rfl ?_
  refine A9 5 10 13 false _ rfl rfl rfl rfl ?_
  refine CQ 15 18 true rfl rfl rfl ?_
  refine CQ 15 18 true rfl rfl rfl ?_
  refine CQ 15 18 true rfl rfl rfl ?_
  refine CQ 15 18 true rfl rfl rfl ?_
  refine FN 10 13 false _ rfl rfl rfl rfl (AA _ (BA _ rfl rfl rfl) rfl ?_)
  refine AA _ (AE rfl) rfl ?_
  refine AJ (AD (BK (BJ (.bool true) (res1 Tryd.results18 (BF rfl)) fun w1 hw1 => ?_)))
  refine ⟨_, [], rfl, ⟨congrArg Value.bool ?_, rfl⟩, hw1.no⟩
  first | exact (decide_eq_true (by unfold LargeP; omega)).symm | exact (decide_eq_false (by unfold LargeP; omega)).symm | exact decide_eq_decide.2 (by unfold LargeP; omega)
 ·
  have hp1 : ¬ ((300:Int) < ((ni:Int))) := of_decide_eq_false hb1
  refine AM 4 7 false _ (Ptr nb1 2) rfl rfl hb1 (AB 2 24 1 AY rfl DG rfl rfl) rfl ?_
  refine AM 4 7 false _ _ rfl rfl hb1 (AL rfl (AX D6 (AR 0 rfl (AH (AH (Seg.head)))))) rfl ?_
  refine AM 4 7 false _ (I64 ns) rfl rfl hb1 (DA CK rfl) rfl ?_
  refine AM 4 7 false _ (.bool (decide ((300:Int) < ((ns:Int))))) rfl rfl hb1 (AT rfl rfl fun _ => DJ _ _) rfl ?_
  refine AA _ (A5 _ rfl hb1 rfl) rfl (AA _ (AG rfl) rfl ?_)
  rcases Bool.eq_false_or_eq_true (decide ((300:Int) < ((ns:Int)))) with hb2 | hb2
  ·
   have hp2 : (300:Int) < ((ns:Int)) := of_decide_eq_true hb2
   refine A9 5 10 13 false _ rfl rfl hb2 rfl ?_
   refine CQ 15 18 true rfl rfl rfl ?_
   refine CQ 15 18 true rfl rfl rfl ?_
   refine CQ 15 18 true rfl rfl rfl ?_
   refine CQ 15 18 true rfl rfl rfl ?_
   refine FN 10 13 false _ rfl rfl hb2 rfl (AA _ (BA _ rfl hb2 rfl) rfl ?_)
   refine AA _ (AE rfl) rfl ?_
   refine AJ (AD (BK (BJ (.bool true) (res1 Tryd.results18 (BF rfl)) fun w1 hw1 => ?_)))
   refine ⟨_, [], rfl, ⟨congrArg Value.bool ?_, rfl⟩, hw1.no⟩
   first | exact (decide_eq_true (by unfold LargeP; omega)).symm | exact (decide_eq_false (by unfold LargeP; omega)).symm | exact decide_eq_decide.2 (by unfold LargeP; omega)
  ·
   have hp2 : ¬ ((300:Int) < ((ns:Int))) := of_decide_eq_false hb2
   refine AM 10 13 false _ (Ptr nb1 2) rfl rfl hb2 (AB 2 24 1 AY rfl DG rfl rfl) rfl ?_
   refine AM 10 13 false _ _ rfl rfl hb2 (AL rfl (AX D6 (AR 0 rfl (AH (AH (Seg.head)))))) rfl ?_
   refine AM 10 13 false _ (I64 ns) rfl rfl hb2 (DA CK rfl) rfl ?_
   refine AM 10 13 false _ (.bool (decide ((20:Int) < ((ns:Int))))) rfl rfl hb2 (AT rfl rfl fun _ => DJ _ _) rfl ?_
   refine AM 10 13 false _ _ rfl rfl hb2 (AG rfl) rfl ?_
   rcases Bool.eq_false_or_eq_true (decide ((20:Int) < ((ns:Int)))) with hb3 | hb3
   ·
    have hp3 : (20:Int) < ((ns:Int)) := of_decide_eq_true hb3
    refine AM 15 18 true _ (Ptr nb1 2) rfl rfl hb3 (AB 2 24 1 AY rfl DG rfl rfl) rfl ?_
    refine AM 15 18 true _ _ rfl rfl hb3 (AL rfl (AX D6 (AR 0 rfl (AH (AH (Seg.head)))))) rfl ?_
    refine AM 15 18 true _ (I64 ns) rfl rfl hb3 (DA CK rfl) rfl ?_
    refine AM 15 18 true _ (.bool (decide (((ns:Int)) ≤ (256:Int)))) rfl rfl hb3 (AT rfl rfl fun _ => bin_leq_i _ _) rfl ?_
    refine AM 10 13 false _ _ rfl rfl hb2 (BA _ rfl hb3 rfl) rfl (AA _ (A5 _ rfl hb2 rfl) rfl ?_)
    refine AA _ (AE rfl) rfl ?_
    refine AJ (AD (BK (BJ (.bool (decide (((ns:Int)) ≤ (256:Int)))) (res1 Tryd.results18 (BF rfl)) fun w1 hw1 => ?_)))
    refine ⟨_, [], rfl, ⟨congrArg Value.bool ?_, rfl⟩, hw1.no⟩
    first | exact (decide_eq_true (by unfold LargeP; omega)).symm | exact (decide_eq_false (by unfold LargeP; omega)).symm | exact decide_eq_decide.2 (by unfold LargeP; omega)
   ·
    have hp3 : ¬ ((20:Int) < ((ns:Int))) := of_decide_eq_false hb3
    refine A9 4 15 18 true _ rfl rfl hb3 rfl ?_
    refine AM 10 13 false _ _ rfl rfl hb2 (A5 _ rfl hb3 rfl) rfl (AA _ (A5 _ rfl hb2 rfl) rfl ?_)
    refine AA _ (AE rfl) rfl ?_
    refine AJ (AD (BK (BJ (.bool false) (res1 Tryd.results18 (BF rfl)) fun w1 hw1 => ?_)))
    refine ⟨_, [], rfl, ⟨congrArg Value.bool ?_, rfl⟩, hw1.no⟩
    first | exact (decide_eq_true (by unfold LargeP; omega)).symm | exact (decide_eq_false (by unfold LargeP; omega)).symm | exact decide_eq_decide.2 (by unfold LargeP; omega)
theorem eq64_c (ai : Option Addr) (ni ci : Nat) (l : List UInt64) (ai2 : Option Addr) (ni2 ci2 : Nat) (l2 : List UInt64)  (w : World) (hl : l.length = ni) (hnm : ni ≤ 2000000) (hnc : ni ≤ ci) (hcm : ci ≤ maxLen) (hv : RdV w ai (cu64 l)) (hl2 : l2.length = ni2) (hnm2 : ni2 ≤ 2000000) (hnc2 : ni2 ≤ ci2) (hcm2 : ci2 ≤ maxLen) (hv2 : RdV w ai2 (cu64 l2))  : Calls Tryd.prog 115 #[SL ai ni ci, SL ai2 ni2 ci2] w (Post w [] (fun v L => v = .bool (decide (l = l2)) ∧ L = [])) := by
 have hmx : maxLen = 9223372036854775807 := rfl
 refine enter w [] 26 [] [SL ai ni ci, SL ai2 ni2 ci2] Tryd.func115 rfl rfl (by simp) (BZ (by simp) (by simp) (by simp)) ?_
 show JC _ _ _ [(0, SL ai ni ci), (1, SL ai2 ni2 ci2)] _
 refine AF (AC (AA _ (AE rfl) rfl ?_))
 refine AJ (AD (AF (AF (AC (AA _ (AG rfl) rfl ?_)))))
 refine AA (I64 ni) (DA BL rfl) rfl (AA _ (AG rfl) rfl ?_)
 refine AA (I64 ni2) (DA BL rfl) rfl ?_
 refine AA (.bool (decide (((ni:Int)) ≠ ((ni2:Int))))) (AT rfl rfl fun _ => E8 _ _) rfl ?_
 refine AJ (AD (CC (decide (((ni:Int)) ≠ ((ni2:Int)))) rfl (fun hb1 => ?_) (fun hb1 => ?_)))
 ·
  have hp1 : ((ni:Int)) ≠ ((ni2:Int)) := of_decide_eq_true hb1
  refine AF (AC (AA _ (AE rfl) rfl ?_))
  refine AJ (AD (BK (A6 (BJ (.bool false) (res1 Tryd.results115 (BF rfl)) fun w1 hw1 => ?_))))
  refine ⟨_, [], rfl, ⟨congrArg Value.bool ?_, rfl⟩, hw1.no⟩
  refine (decide_eq_false (fun h => ?_)).symm
  first | (have := congrArg List.length h; omega) | exact list_ne (g64_at (i := i) (by omega)) (g64_at (i := i) (by omega)) (by assumption) h
 ·
  have hp1 : ¬ (((ni:Int)) ≠ ((ni2:Int))) := of_decide_eq_false hb1
  refine BH (AD (AF (AF (AC (AA _ (AG rfl) rfl ?_)))))
  refine AA (I64 ni) (DA BL rfl) rfl (AA _ (AG rfl) rfl ?_)
  refine AJ (AD (B5 (EO (ι := Nat) (fun i => [(0, SL ai ni ci), (1, SL ai2 ni2 ci2), (12, I64 ni), (13, I64 i)]) (fun i => []) (fun i => i ≤ ni ∧ ∀ k, k < i → ∀ x y, l[k]? = some x → l2[k]? = some y → x = y) (fun i => ni - i) 0 ⟨by omega, fun k hk => absurd hk (by omega)⟩ (Sub.all rfl) rfl ?_)))
  rintro i ⟨hi1, hi2⟩
  show JC _ _ _ [_, _, _, _] []
  refine AF (AC (AA (.bool (decide (((i:Int)) < ((ni:Int))))) (AT rfl rfl fun _ => CL _ _) rfl ?_))
  refine AJ (AD (AF (CC (decide (((i:Int)) < ((ni:Int)))) rfl (fun hb2 => ?_) (fun hb2 => ?_))))
  ·
   have hp2 : ((i:Int)) < ((ni:Int)) := of_decide_eq_true hb2
   refine BH (AD (AF (B5 (AF (AC (AA _ (AG rfl) rfl ?_))))))
   refine AA _ (AE rfl) rfl ?_
   refine AJ (AD (AF ?_))
   obtain ⟨bz1, oz1, hz1, hm1⟩ := RdV.pos hv (by rw [FS, hl]; omega)
   obtain ⟨bz2, oz2, hz2, hm2⟩ := RdV.pos hv2 (by rw [FS, hl2]; omega)
   refine DB 26 1 [(0, SL ai ni ci), (1, I64 i), (2, Ptr bz1 (i + oz1)), (3, U64 (g64 l i)), (4, SL ai2 ni2 ci2), (5, I64 i), (6, Ptr bz2 (i + oz2)), (7, U64 (g64 l2 i)), (8, .bool (decide ((g64 l i) ≠ (g64 l2 i))))] B6 rfl (by decide +kernel) ?_
   refine DR ⟨[], [0, 1, 2, 3, 4, 5, 6, 7, 8], [], [0, 1, 2, 3, 4, 5, 6, 7, 8], []⟩ rfl rfl (by decide +kernel) rfl ⟨CB rfl rfl rfl, CB rfl rfl rfl, AP rfl rfl (DI 22 1 (i + oz1) BL A1 rfl hz1 rfl (by omega) (by omega) (by omega)), AP rfl rfl (AL rfl (AX A8 (C9 (hm1.mem (by simp)) (Seg.get (g64_get (i := i) (by rw [hl]; omega))) (by first | omega | (simp; done) | (simp; omega))))), CB rfl rfl rfl, CB rfl rfl rfl, AP rfl rfl (DI 22 1 (i + oz2) BL A1 rfl hz2 rfl (by omega) (by omega) (by omega)), AP rfl rfl (AL rfl (AX A8 (C9 (hm2.mem (by simp)) (Seg.get (g64_get (i := i) (by rw [hl2]; omega))) (by first | omega | (simp; done) | (simp; omega))))), AP rfl rfl (AT rfl rfl fun _ => E3 (g64 l i) (g64 l2 i)), trivial⟩ ?_
   refine C5 (F' := [(16, SL ai ni ci), (17, I64 i), (18, Ptr bz1 (i + oz1)), (19, U64 (g64 l i)), (20, SL ai2 ni2 ci2), (21, I64 i), (22, Ptr bz2 (i + oz2)), (23, U64 (g64 l2 i)), (24, .bool (decide ((g64 l i) ≠ (g64 l2 i)))), (0, SL ai ni ci), (1, SL ai2 ni2 ci2), (12, I64 ni), (13, I64 i), (14, .bool (decide (((i:Int)) < ((ni:Int))))), (15, I64 i), (5, I64 i)]) (by kernel_rfl) ?_
   refine AD (CC (decide ((g64 l i) ≠ (g64 l2 i))) rfl (fun hb3 => ?_) (fun hb3 => ?_))
   ·
    have hp3 : (g64 l i) ≠ (g64 l2 i) := of_decide_eq_true hb3
    refine AF (AC (AA _ (AE rfl) rfl ?_))
    refine AJ (AD (BK (CS (A6 (A6 (CS (A6 (BJ (.bool false) (res1 Tryd.results115 (BF rfl)) fun w1 hw1 => ?_))))))))
    refine ⟨_, [], rfl, ⟨congrArg Value.bool ?_, rfl⟩, hw1.no⟩
    refine (decide_eq_false (fun h => ?_)).symm
    first | (have := congrArg List.length h; omega) | exact list_ne (g64_at (i := i) (by omega)) (g64_at (i := i) (by omega)) (by assumption) h
   ·
    have hp3 : ¬ ((g64 l i) ≠ (g64 l2 i)) := of_decide_eq_false hb3
    refine BH (BU (AD (AC (AA (I64 ((i:Int) + 1)) (AT rfl rfl fun _ => DK _ _ ((i:Int) + 1) (by omega) (by omega)) rfl ?_))))
    refine AA _ (AG rfl) rfl ?_
    refine AJ (DU (EZ (i + 1) ⟨by omega, eq_step (g64_at (i := i) (by omega)) (g64_at (i := i) (by omega)) (Classical.not_not.1 (by assumption)) hi2⟩ (by first | (simp; omega) | simp | (dsimp only; omega) | omega) (Sub.all rfl) rfl))
  ·
   have hp2 : ¬ (((i:Int)) < ((ni:Int))) := of_decide_eq_false hb2
   refine EF (BC (BC (CX (AD (AF (AC (AA _ (AE rfl) rfl ?_)))))))
   refine AJ (AD (BK (BJ (.bool true) (res1 Tryd.results115 (BF rfl)) fun w1 hw1 => ?_)))
   refine ⟨_, [], rfl, ⟨congrArg Value.bool ?_, rfl⟩, hw1.no⟩
   exact (decide_eq_true (list_eq (by omega) (by rw [hl]; intro k hk; exact hi2 k (by omega)))).symm
theorem eqS_c (sa : Option Addr) (ns sc : Nat) (ls : List SealR) (sa2 : Option Addr) (ns2 sc2 : Nat) (ls2 : List SealR)  (w : World) (hls : ls.length = ns) (hnn : ns ≤ 2000000) (hnd : ns ≤ sc) (hcn : sc ≤ maxLen) (hs : RdV w sa (ls.flatMap sealC)) (hls2 : ls2.length = ns2) (hnn2 : ns2 ≤ 2000000) (hnd2 : ns2 ≤ sc2) (hcn2 : sc2 ≤ maxLen) (hs2 : RdV w sa2 (ls2.flatMap sealC))  : Calls Tryd.prog 116 #[SL sa ns sc, SL sa2 ns2 sc2] w (Post w [] (fun v L => v = .bool (decide (ls = ls2)) ∧ L = [])) := by
 have hmx : maxLen = 9223372036854775807 := rfl
 refine enter w [] 26 [] [SL sa ns sc, SL sa2 ns2 sc2] Tryd.func116 rfl rfl (by simp) (BZ (by simp) (by simp) (by simp)) ?_
 show JC _ _ _ [(0, SL sa ns sc), (1, SL sa2 ns2 sc2)] _
 refine AF (AC (AA _ (AE rfl) rfl ?_))
 refine AJ (AD (AF (AF (AC (AA _ (AG rfl) rfl ?_)))))
 refine AA (I64 ns) (DA CK rfl) rfl (AA _ (AG rfl) rfl ?_)
 refine AA (I64 ns2) (DA CK rfl) rfl ?_
 refine AA (.bool (decide (((ns:Int)) ≠ ((ns2:Int))))) (AT rfl rfl fun _ => E8 _ _) rfl ?_
 refine AJ (AD (CC (decide (((ns:Int)) ≠ ((ns2:Int)))) rfl (fun hb1 => ?_) (fun hb1 => ?_)))
 ·
  have hp1 : ((ns:Int)) ≠ ((ns2:Int)) := of_decide_eq_true hb1
  refine AF (AC (AA _ (AE rfl) rfl ?_))
  refine AJ (AD (BK (A6 (BJ (.bool false) (res1 Tryd.results116 (BF rfl)) fun w1 hw1 => ?_))))
  refine ⟨_, [], rfl, ⟨congrArg Value.bool ?_, rfl⟩, hw1.no⟩
  refine (decide_eq_false (fun h => ?_)).symm
  first | (have := congrArg List.length h; omega) | exact absurd h h
 ·
  have hp1 : ¬ (((ns:Int)) ≠ ((ns2:Int))) := of_decide_eq_false hb1
  refine BH (AD (AF (AF (AC (AA _ (AG rfl) rfl ?_)))))
  refine AA (I64 ns) (DA CK rfl) rfl (AA _ (AG rfl) rfl ?_)
  refine AJ (AD (B5 (EO (ι := Nat) (fun i => [(0, SL sa ns sc), (1, SL sa2 ns2 sc2), (12, I64 ns), (13, I64 i)]) (fun i => []) (fun i => i ≤ ns ∧ ∀ k, k < i → ∀ x y, ls[k]? = some x → ls2[k]? = some y → x = y) (fun i => ns - i) 0 ⟨by omega, fun k hk => absurd hk (by omega)⟩ (Sub.all rfl) rfl ?_)))
  rintro i ⟨hi1, hi2⟩
  show JC _ _ _ [_, _, _, _] []
  refine AF (AC (AA (.bool (decide (((i:Int)) < ((ns:Int))))) (AT rfl rfl fun _ => CL _ _) rfl ?_))
  refine AJ (AD (AF (CC (decide (((i:Int)) < ((ns:Int)))) rfl (fun hb2 => ?_) (fun hb2 => ?_))))
  ·
   have hp2 : ((i:Int)) < ((ns:Int)) := of_decide_eq_true hb2
   refine BH (AD (AF (B5 (AF (AC (AA _ (AG rfl) rfl ?_))))))
   refine AA _ (AE rfl) rfl ?_
   refine AJ (AD (AF ?_))
   obtain ⟨x1, hx1⟩ : ∃ x, ls[i]? = some x := ⟨_, List.getElem?_eq_getElem (by rw [hls]; omega)⟩
   obtain ⟨bz1, oz1, hz1, hm1⟩ := F6 FH (by decide) hs hx1
   obtain ⟨x2, hx2⟩ : ∃ x, ls2[i]? = some x := ⟨_, List.getElem?_eq_getElem (by rw [hls2]; omega)⟩
   obtain ⟨bz2, oz2, hz2, hm2⟩ := F6 FH (by decide) hs2 hx2
   refine DB 26 1 [(0, SL sa ns sc), (1, I64 i), (2, Ptr bz1 (49*i + oz1)), (3, .agg ([U64 x1.e] ++ cu8 x1.d ++ cu8 x1.t).toArray), (4, SL sa2 ns2 sc2), (5, I64 i), (6, Ptr bz2 (49*i + oz2)), (7, .agg ([U64 x2.e] ++ cu8 x2.d ++ cu8 x2.t).toArray), (8, .bool (!(decide (x1.e = x2.e ∧ x1.d = x2.d ∧ x1.t = x2.t))))] B6 rfl (by decide +kernel) ?_
   refine DR ⟨[], [0, 1, 2, 3, 4, 5, 6, 7, 8], [], [0, 1, 2, 3, 4, 5, 6, 7, 8], []⟩ rfl rfl (by decide +kernel) rfl ⟨CB rfl rfl rfl, CB rfl rfl rfl, AP rfl rfl (DI 161 49 (49*i + oz1) CK BY rfl hz1 rfl (by omega) (by omega) (by omega)), AP rfl rfl (AL rfl (BR DN BY (by simp [x1.hd, x1.ht]) (C9 (hm1.mem (by simp)) (AN _) (by first | omega | (simp; done) | (simp; omega))))), CB rfl rfl rfl, CB rfl rfl rfl, AP rfl rfl (DI 161 49 (49*i + oz2) CK BY rfl hz2 rfl (by omega) (by omega) (by omega)), AP rfl rfl (AL rfl (BR DN BY (by simp [x2.hd, x2.ht]) (C9 (hm2.mem (by simp)) (AN _) (by first | omega | (simp; done) | (simp; omega))))), AP rfl rfl (DM _ _ _ rfl rfl (fun _ => FY _ _ _ _ _ _ (by kernel_rfl)) (neq_struct (x1.e = x2.e ∧ x1.d = x2.d ∧ x1.t = x2.t) (EqV.struct (d := 9999) (by kernel_rfl) (by kernel_rfl) (by kernel_rfl) (EqRs.cons 22 0 (U64 x1.e) (U64 x2.e) _ _ _ (PartV.one A8 (AI (AI (Seg.head)))) (PartV.one A8 (AI (AI (Seg.head)))) (EqV.u64 (d := 9998) AU x1.e x2.e) (EqRs.cons 159 1 (.agg (cu8 x1.d).toArray) (.agg (cu8 x2.d).toArray) _ _ _ (PartV.agg Tryd.isAgg159 ER (FX (AI (Seg.right 1 0 rfl rfl (AN _))) (EJ x1.hd) (by omega))) (PartV.agg Tryd.isAgg159 ER (FX (AI (Seg.right 1 0 rfl rfl (AN _))) (EJ x2.hd) (by omega))) (EqV.arr8 (d := 9997) EC CO EP FA FU (by simp [x1.hd]) (by simp [x2.hd])) (EqRs.last 27 33 (.agg (cu8 x1.t).toArray) (.agg (cu8 x2.t).toArray) _ (PartV.agg EQ B3 (FX (Seg.right 33 0 (by simp [x1.hd]) rfl (AN _)) (EJ x1.ht) (by omega))) (PartV.agg EQ B3 (FX (Seg.right 33 0 (by simp [x2.hd]) rfl (AN _)) (EJ x2.ht) (by omega))) (EqV.arr8 (d := 9997) B1 CO EP FA FU (by simp [x1.ht]) (by simp [x2.ht])))))) (by first | rfl | (simp only [Bool.decide_and, Bool.and_assoc]; done) | (simp only [Bool.beq_eq_decide_eq, Bool.decide_and, Bool.and_assoc]; done) | (simp [Bool.and_assoc]; done)))), trivial⟩ ?_
   refine C5 (F' := [(16, SL sa ns sc), (17, I64 i), (18, Ptr bz1 (49*i + oz1)), (19, .agg ([U64 x1.e] ++ cu8 x1.d ++ cu8 x1.t).toArray), (20, SL sa2 ns2 sc2), (21, I64 i), (22, Ptr bz2 (49*i + oz2)), (23, .agg ([U64 x2.e] ++ cu8 x2.d ++ cu8 x2.t).toArray), (24, .bool (!(decide (x1.e = x2.e ∧ x1.d = x2.d ∧ x1.t = x2.t)))), (0, SL sa ns sc), (1, SL sa2 ns2 sc2), (12, I64 ns), (13, I64 i), (14, .bool (decide (((i:Int)) < ((ns:Int))))), (15, I64 i), (5, I64 i)]) (by kernel_rfl) ?_
   refine AD (CC (!(decide (x1.e = x2.e ∧ x1.d = x2.d ∧ x1.t = x2.t))) rfl (fun hb3 => ?_) (fun hb3 => ?_))
   ·
    have hb4 : (decide (x1.e = x2.e ∧ x1.d = x2.d ∧ x1.t = x2.t)) = false := by first | simpa using hb3 | exact Eq.mp (Bool.not_eq_true' _) hb3
    have hp4 : ¬ (x1.e = x2.e ∧ x1.d = x2.d ∧ x1.t = x2.t) := of_decide_eq_false hb4
    refine AF (AC (AA _ (AE rfl) rfl ?_))
    refine AJ (AD (BK (CS (A6 (A6 (CS (A6 (BJ (.bool false) (res1 Tryd.results116 (BF rfl)) fun w1 hw1 => ?_))))))))
    refine ⟨_, [], rfl, ⟨congrArg Value.bool ?_, rfl⟩, hw1.no⟩
    refine (decide_eq_false (fun h => ?_)).symm
    first | (have := congrArg List.length h; omega) | exact list_ne hx1 hx2 (fun e => (by assumption : ¬ _) ((SealR.eq_iff _ _).1 e)) h
   ·
    have hb5 : (decide (x1.e = x2.e ∧ x1.d = x2.d ∧ x1.t = x2.t)) = true := by first | simpa using hb3 | exact Eq.mp (Bool.not_eq_false' _) hb3
    have hp5 : x1.e = x2.e ∧ x1.d = x2.d ∧ x1.t = x2.t := of_decide_eq_true hb5
    refine BH (BU (AD (AC (AA (I64 ((i:Int) + 1)) (AT rfl rfl fun _ => DK _ _ ((i:Int) + 1) (by omega) (by omega)) rfl ?_))))
    refine AA _ (AG rfl) rfl ?_
    refine AJ (DU (EZ (i + 1) ⟨by omega, eq_step hx1 hx2 ((SealR.eq_iff _ _).2 (by first | assumption | exact Classical.not_not.1 (by assumption))) hi2⟩ (by first | (simp; omega) | simp | (dsimp only; omega) | omega) (Sub.all rfl) rfl))
  ·
   have hp2 : ¬ (((i:Int)) < ((ns:Int))) := of_decide_eq_false hb2
   refine EF (BC (BC (CX (AD (AF (AC (AA _ (AE rfl) rfl ?_)))))))
   refine AJ (AD (BK (BJ (.bool true) (res1 Tryd.results116 (BF rfl)) fun w1 hw1 => ?_)))
   refine ⟨_, [], rfl, ⟨congrArg Value.bool ?_, rfl⟩, hw1.no⟩
   exact (decide_eq_true (list_eq (by omega) (by rw [hls]; intro k hk; exact hi2 k (by omega)))).symm
theorem same13_c (pv ep : UInt64) (kd : Int) (ai : Option Addr) (ni ci : Nat) (l : List UInt64) (sa : Option Addr) (ns sc : Nat) (ls : List SealR) (bl : UInt64) (tg : List UInt8) (pv2 ep2 : UInt64) (kd2 : Int) (ai2 : Option Addr) (ni2 ci2 : Nat) (l2 : List UInt64) (sa2 : Option Addr) (ns2 sc2 : Nat) (ls2 : List SealR) (bl2 : UInt64) (tg2 : List UInt8)  (w : World) (hl : l.length = ni) (hnm : ni ≤ 2000000) (hnc : ni ≤ ci) (hcm : ci ≤ maxLen) (hv : RdV w ai (cu64 l)) (hls : ls.length = ns) (hnn : ns ≤ 2000000) (hnd : ns ≤ sc) (hcn : sc ≤ maxLen) (hs : RdV w sa (ls.flatMap sealC)) (htg : tg.length = 16) (hl2 : l2.length = ni2) (hnm2 : ni2 ≤ 2000000) (hnc2 : ni2 ≤ ci2) (hcm2 : ci2 ≤ maxLen) (hv2 : RdV w ai2 (cu64 l2)) (hls2 : ls2.length = ns2) (hnn2 : ns2 ≤ 2000000) (hnd2 : ns2 ≤ sc2) (hcn2 : sc2 ≤ maxLen) (hs2 : RdV w sa2 (ls2.flatMap sealC)) (htg2 : tg2.length = 16)  : Calls Tryd.prog 49 #[.agg (V2 pv ep (kd) ai ni ci sa ns sc bl tg).toArray, .agg (V2 pv2 ep2 (kd2) ai2 ni2 ci2 sa2 ns2 sc2 bl2 tg2).toArray] w (Post w [] (fun v L => v = .bool (decide (pv = pv2 ∧ ep = ep2 ∧ tg = tg2 ∧ kd = kd2 ∧ bl = bl2 ∧ l = l2 ∧ ls = ls2)) ∧ L = [])) := by
 have hmx : maxLen = 9223372036854775807 := rfl
 refine enter (P := Tryd.prog) (f := 49) (fn := Tryd.f49) w [] 58 [] [.agg (V2 pv ep (kd) ai ni ci sa ns sc bl tg).toArray, .agg (V2 pv2 ep2 (kd2) ai2 ni2 ci2 sa2 ns2 sc2 bl2 tg2).toArray] Tryd.func49 rfl rfl (by simp) (BZ (by simp) (by simp) (by simp)) ?_
 show JC _ _ _ [(0, .agg (V2 pv ep (kd) ai ni ci sa ns sc bl tg).toArray), (1, .agg (V2 pv2 ep2 (kd2) ai2 ni2 ci2 sa2 ns2 sc2 bl2 tg2).toArray)] _
 refine AF (AC (A2 (CN (.agg (V2 pv ep (kd) ai ni ci sa ns sc bl tg).toArray) (V2 pv ep (kd) ai ni ci sa ns sc bl tg) rfl (by first | rfl | simp)) rfl ?_))
 rintro v1 L1 ⟨nb1, hnb1, rfl, rfl⟩
 show JL _ _ _ _ (_ :: _) [_]
 refine A2 (CN (.agg (V2 pv2 ep2 (kd2) ai2 ni2 ci2 sa2 ns2 sc2 bl2 tg2).toArray) (V2 pv2 ep2 (kd2) ai2 ni2 ci2 sa2 ns2 sc2 bl2 tg2) rfl (by first | rfl | simp)) rfl ?_
 rintro v1 L1 ⟨nb2, hnb2, rfl, rfl⟩
 show JL _ _ _ _ (_ :: _) [_, _]
 refine AA _ (AE rfl) rfl ?_
 refine AJ (AD (AF (DB 58 5 [(0, Ptr nb1 2), (1, .agg #[I64 (kd), SL ai ni ci, SL sa ns sc, U64 bl]), (2, Ptr nb2 2), (3, .agg #[I64 (kd2), SL ai2 ni2 ci2, SL sa2 ns2 sc2, U64 bl2])] B6 rfl (by decide +kernel) ?_)))
 refine DP_two ⟨[], [0, 1, 2, 3], [], [0, 1, 2, 3], [4, 5]⟩ 4 5 _ _ rfl rfl (by decide +kernel) rfl ⟨AP rfl rfl (AB 2 26 4 AQ rfl BE rfl rfl), AP rfl rfl (AL rfl (BR D5 BE rfl (AR 0 rfl (DL (p := [U64 pv, U64 ep]) (q := cu8 tg) (vs := (V4 (kd) ai ni ci sa ns sc bl)) (by first | rfl | (simp only [List.append_assoc, List.nil_append, List.append_nil, List.cons_append]; done)) rfl)))), AP rfl rfl (AB 2 26 4 AQ rfl BE rfl rfl), AP rfl rfl (AL rfl (BR D5 BE rfl (AR 1 rfl (DL (p := [U64 pv2, U64 ep2]) (q := cu8 tg2) (vs := (V4 (kd2) ai2 ni2 ci2 sa2 ns2 sc2 bl2)) (by first | rfl | (simp only [List.append_assoc, List.nil_append, List.append_nil, List.cons_append]; done)) rfl)))), trivial⟩ rfl rfl (BO rfl (C4 _ (V8) Tryd.zeroValue26 (by kernel_rfl))) (BO rfl (C4 _ (V8) Tryd.zeroValue26 (by kernel_rfl))) ?_ ?_
 ·
  rintro v1 L1 ⟨nb3, hnb3, rfl, rfl⟩
  refine ⟨[], ?_⟩
  show DP _ _ _ _ _ _ _ _ [_, _, (Ez nb3 (V8) 26)]
  refine C2 ⟨[4], [0, 1, 2, 3], [], [0, 1, 2, 3], [5]⟩ 5 _ rfl rfl (by decide +kernel) rfl ⟨AP rfl rfl (AB 2 26 4 AQ rfl BE rfl rfl), AP rfl rfl (AL rfl (BR D5 BE rfl (AR 0 rfl (DL (p := [U64 pv, U64 ep]) (q := cu8 tg) (vs := (V4 (kd) ai ni ci sa ns sc bl)) (by first | rfl | (simp only [List.append_assoc, List.nil_append, List.append_nil, List.cons_append]; done)) rfl)))), AP rfl rfl (AB 2 26 4 AQ rfl BE rfl rfl), AP rfl rfl (AL rfl (BR D5 BE rfl (AR 1 rfl (DL (p := [U64 pv2, U64 ep2]) (q := cu8 tg2) (vs := (V4 (kd2) ai2 ni2 ci2 sa2 ns2 sc2 bl2)) (by first | rfl | (simp only [List.append_assoc, List.nil_append, List.append_nil, List.cons_append]; done)) rfl)))), trivial⟩ rfl (BO rfl (C4 _ (V8) Tryd.zeroValue26 (by kernel_rfl))) ?_
  rintro v1 L1 ⟨nb5, hnb5, rfl, rfl⟩
  refine ⟨[], ?_⟩
  show DP _ _ _ _ _ _ _ _ [_, _, _, (Ez nb5 (V8) 26)]
  refine EI ⟨[4, 5], [0, 1, 2, 3], [], [0, 1, 2, 3], [6]⟩ 6 rfl rfl (by decide +kernel) rfl ⟨AP rfl rfl (AB 2 26 4 AQ rfl BE rfl rfl), AP rfl rfl (AL rfl (BR D5 BE rfl (AR 0 rfl (DL (p := [U64 pv, U64 ep]) (q := cu8 tg) (vs := (V4 (kd) ai ni ci sa ns sc bl)) (by first | rfl | (simp only [List.append_assoc, List.nil_append, List.append_nil, List.cons_append]; done)) rfl)))), AP rfl rfl (AB 2 26 4 AQ rfl BE rfl rfl), AP rfl rfl (AL rfl (BR D5 BE rfl (AR 1 rfl (DL (p := [U64 pv2, U64 ep2]) (q := cu8 tg2) (vs := (V4 (kd2) ai2 ni2 ci2 sa2 ns2 sc2 bl2)) (by first | rfl | (simp only [List.append_assoc, List.nil_append, List.append_nil, List.cons_append]; done)) rfl)))), trivial⟩ rfl (BO rfl (BS 2 nb3 4 _ 26 (V4 (kd) ai ni ci sa ns sc bl) rfl rfl rfl BE rfl (by simp [Value.oneCell']) (Nat.le_of_ble_eq_true rfl) (BW (by simp [])))) ?_
  show DP _ _ _ _ _ _ _ _ [_, _, (Ez nb3 (V4 (kd) ai ni ci sa ns sc bl) 26), _]
  refine EI ⟨[4, 5, 6], [0, 1, 2, 3], [0, 1], [2, 3], [7]⟩ 7 rfl rfl (by decide +kernel) rfl ⟨AP rfl rfl (AB 2 26 4 AQ rfl BE rfl rfl), AP rfl rfl (AL rfl (BR D5 BE rfl (AR 1 rfl (DL (p := [U64 pv2, U64 ep2]) (q := cu8 tg2) (vs := (V4 (kd2) ai2 ni2 ci2 sa2 ns2 sc2 bl2)) (by first | rfl | (simp only [List.append_assoc, List.nil_append, List.append_nil, List.cons_append]; done)) rfl)))), trivial⟩ rfl (BO rfl (BS 3 nb5 4 _ 26 (V4 (kd2) ai2 ni2 ci2 sa2 ns2 sc2 bl2) rfl rfl rfl BE rfl (by simp [Value.oneCell']) (Nat.le_of_ble_eq_true rfl) (BW (by simp [])))) ?_
  show DP _ _ _ _ _ _ _ _ [_, _, _, (Ez nb5 (V4 (kd2) ai2 ni2 ci2 sa2 ns2 sc2 bl2) 26)]
  refine DR ⟨[4, 5, 6, 7], [0, 1, 2, 3], [0, 1, 2, 3], [], []⟩ rfl rfl (by decide +kernel) rfl trivial ?_
  refine C5 (F' := [(5, Ptr nb3 0), (6, Ptr nb5 0), (2, Ptr nb1 0), (3, Ptr nb2 0), (4, .bool false)]) (by kernel_rfl) ?_
  refine AD (AF (AC (AA (Ptr nb1 0) (AB 0 22 1 AQ rfl A1 rfl rfl) rfl ?_)))
  refine AA _ (AL rfl (AX A8 (AR 0 rfl (AI (Seg.head))))) rfl ?_
  refine AA (Ptr nb2 0) (AB 0 22 1 AQ rfl A1 rfl rfl) rfl (AA _ (AL rfl (AX A8 (AR 1 rfl (AI (Seg.head))))) rfl ?_)
  refine AA (.bool (decide (pv = pv2))) (AT rfl rfl fun _ => FL pv pv2) rfl ?_
  refine AA _ (AG rfl) rfl ?_
  rcases Bool.eq_false_or_eq_true (decide (pv = pv2)) with hb1 | hb1
  ·
   have hp1 : pv = pv2 := of_decide_eq_true hb1
   refine AM 5 16 true _ (Ptr nb1 1) rfl rfl hb1 (AB 1 22 1 AQ rfl A1 rfl rfl) rfl ?_
   refine AM 5 16 true _ _ rfl rfl hb1 (AL rfl (AX A8 (AR 0 rfl (AI (AH (Seg.head)))))) rfl ?_
   refine AM 5 16 true _ (Ptr nb2 1) rfl rfl hb1 (AB 1 22 1 AQ rfl A1 rfl rfl) rfl ?_
   refine AM 5 16 true _ _ rfl rfl hb1 (AL rfl (AX A8 (AR 1 rfl (AI (AH (Seg.head)))))) rfl ?_
   refine AM 5 16 true _ (.bool (decide (ep = ep2))) rfl rfl hb1 (AT rfl rfl fun _ => FL ep ep2) rfl ?_
   refine AA _ (BA _ rfl hb1 rfl) rfl (AA _ (AG rfl) rfl ?_)
   rcases Bool.eq_false_or_eq_true (decide (ep = ep2)) with hb2 | hb2
   ·
    have hp2 : ep = ep2 := of_decide_eq_true hb2
    refine AM 12 23 true _ (Ptr nb1 6) rfl rfl hb2 (AB 6 27 16 AQ rfl B3 rfl rfl) rfl ?_
    refine AM 12 23 true _ _ rfl rfl hb2 (AL rfl (BR EQ B3 (EJ htg) (AR 0 rfl (Seg.right 6 0 rfl rfl (AN _))))) rfl ?_
    refine AM 12 23 true _ (Ptr nb2 6) rfl rfl hb2 (AB 6 27 16 AQ rfl B3 rfl rfl) rfl ?_
    refine AM 12 23 true _ _ rfl rfl hb2 (AL rfl (BR EQ B3 (EJ htg2) (AR 1 rfl (Seg.right 6 0 rfl rfl (AN _))))) rfl ?_
    refine AM 12 23 true _ (.bool (decide (tg = tg2))) rfl rfl hb2 (DM _ _ _ rfl rfl (fun _ => FY _ _ _ _ _ _ (by kernel_rfl)) fun _ => eql_arr8 B1 CO EP FA FU (by simp [htg]) (by simp [htg2])) rfl ?_
    refine AA _ (BA _ rfl hb2 rfl) rfl (AA _ (AG rfl) rfl ?_)
    rcases Bool.eq_false_or_eq_true (decide (tg = tg2)) with hb3 | hb3
    ·
     have hp3 : tg = tg2 := of_decide_eq_true hb3
     refine AM 19 30 true _ (Ptr nb3 0) rfl rfl hb3 (AB 0 3 1 AY rfl AW rfl rfl) rfl ?_
     refine AM 19 30 true _ _ rfl rfl hb3 (AL rfl (AX A0 (AR 2 rfl (Seg.head)))) rfl ?_
     refine AM 19 30 true _ (Ptr nb5 0) rfl rfl hb3 (AB 0 3 1 AY rfl AW rfl rfl) rfl ?_
     refine AM 19 30 true _ _ rfl rfl hb3 (AL rfl (AX A0 (AR 3 rfl (Seg.head)))) rfl ?_
     refine AM 19 30 true _ (.bool (decide ((kd) = (kd2)))) rfl rfl hb3 (AT rfl rfl fun _ => BP _ _) rfl ?_
     refine AA _ (BA _ rfl hb3 rfl) rfl (AA _ (AG rfl) rfl ?_)
     rcases Bool.eq_false_or_eq_true (decide ((kd) = (kd2))) with hb4 | hb4
     ·
      have hp4 : (kd) = (kd2) := of_decide_eq_true hb4
      refine AM 26 37 true _ (Ptr nb3 3) rfl rfl hb4 (AB 3 22 1 AY rfl A1 rfl rfl) rfl ?_
      refine AM 26 37 true _ _ rfl rfl hb4 (AL rfl (AX A8 (AR 2 rfl (AH (AH (AH (Seg.head))))))) rfl ?_
      refine AM 26 37 true _ (Ptr nb5 3) rfl rfl hb4 (AB 3 22 1 AY rfl A1 rfl rfl) rfl ?_
      refine AM 26 37 true _ _ rfl rfl hb4 (AL rfl (AX A8 (AR 3 rfl (AH (AH (AH (Seg.head))))))) rfl ?_
      refine AM 26 37 true _ (.bool (decide (bl = bl2))) rfl rfl hb4 (AT rfl rfl fun _ => FL bl bl2) rfl ?_
      refine AA _ (BA _ rfl hb4 rfl) rfl (AA _ (AG rfl) rfl ?_)
      rcases Bool.eq_false_or_eq_true (decide (bl = bl2)) with hb5 | hb5
      ·
       have hp5 : bl = bl2 := of_decide_eq_true hb5
       refine AM 33 44 true _ (Ptr nb3 1) rfl rfl hb5 (AB 1 23 1 AY rfl BV rfl rfl) rfl ?_
       refine AM 33 44 true _ _ rfl rfl hb5 (AL rfl (AX B4 (AR 2 rfl (AH (Seg.head))))) rfl ?_
       refine AM 33 44 true _ (Ptr nb5 1) rfl rfl hb5 (AB 1 23 1 AY rfl BV rfl rfl) rfl ?_
       refine AM 33 44 true _ _ rfl rfl hb5 (AL rfl (AX B4 (AR 3 rfl (AH (Seg.head))))) rfl ?_
       refine DC 33 44 true _ rfl rfl hb5 (A3 115 _ (.bool (decide (l = l2))) (AV _ Tryd.call115 rfl) (fun w1 hw1 => eq64_c ai ni ci l ai2 ni2 ci2 l2 w1 hl (by omega) (by omega) (by omega) (CF hw1 rfl hv) hl2 (by omega) (by omega) (by omega) (CF hw1 rfl hv2))) rfl ?_
       rintro v1 L1 ⟨rfl, rfl⟩
       show JL _ _ _ _ ((49, .bool (decide (l = l2))) :: _) [_, _, _, _]
       refine AA _ (BA _ rfl hb5 rfl) rfl (AA _ (AG rfl) rfl ?_)
       rcases Bool.eq_false_or_eq_true (decide (l = l2)) with hb6 | hb6
       ·
        have hp6 : l = l2 := of_decide_eq_true hb6
        refine AM 40 51 true _ (Ptr nb3 2) rfl rfl hb6 (AB 2 24 1 AY rfl DG rfl rfl) rfl ?_
        refine AM 40 51 true _ _ rfl rfl hb6 (AL rfl (AX D6 (AR 2 rfl (AH (AH (Seg.head)))))) rfl ?_
        refine AM 40 51 true _ (Ptr nb5 2) rfl rfl hb6 (AB 2 24 1 AY rfl DG rfl rfl) rfl ?_
        refine AM 40 51 true _ _ rfl rfl hb6 (AL rfl (AX D6 (AR 3 rfl (AH (AH (Seg.head)))))) rfl ?_
        refine DC 40 51 true _ rfl rfl hb6 (A3 116 _ (.bool (decide (ls = ls2))) (AV _ Tryd.call116 rfl) (fun w1 hw1 => eqS_c sa ns sc ls sa2 ns2 sc2 ls2 w1 hls (by omega) (by omega) (by omega) (CF hw1 rfl hs) hls2 (by omega) (by omega) (by omega) (CF hw1 rfl hs2))) rfl ?_
        rintro v1 L1 ⟨rfl, rfl⟩
        show JL _ _ _ _ ((56, .bool (decide (ls = ls2))) :: _) [_, _, _, _]
        refine AA _ (BA _ rfl hb6 rfl) rfl (AA _ (AE rfl) rfl ?_)
        refine AJ (AD (BK (CD [false, false, false, false] ?_)))
        show JQ _ _ _ _ []
        refine BJ (.bool (decide (ls = ls2))) (res1 EM (BF rfl)) fun w1 hw1 => ?_
        refine ⟨_, [], rfl, ⟨congrArg Value.bool ?_, rfl⟩, hw1.no⟩
        first | (simp [*]; done) | (simp_all; done)
       ·
        have hp6 : ¬ (l = l2) := of_decide_eq_false hb6
        refine A9 5 40 51 true _ rfl rfl hb6 rfl (AA _ (A5 _ rfl hb6 rfl) rfl ?_)
        refine AA _ (AE rfl) rfl ?_
        refine AJ (AD (BK (CD [false, false, false, false] ?_)))
        show JQ _ _ _ _ []
        refine BJ (.bool false) (res1 EM (BF rfl)) fun w1 hw1 => ?_
        refine ⟨_, [], rfl, ⟨congrArg Value.bool ?_, rfl⟩, hw1.no⟩
        first | (simp [*]; done) | (simp_all; done)
      ·
       have hp5 : ¬ (bl = bl2) := of_decide_eq_false hb5
       refine A9 5 33 44 true _ rfl rfl hb5 rfl (AA _ (A5 _ rfl hb5 rfl) rfl ?_)
       refine AA _ (AG rfl) rfl ?_
       refine A9 5 40 51 true _ rfl rfl rfl rfl (AA _ (A5 _ rfl rfl rfl) rfl ?_)
       refine AA _ (AE rfl) rfl ?_
       refine AJ (AD (BK (CD [false, false, false, false] ?_)))
       show JQ _ _ _ _ []
       refine BJ (.bool false) (res1 EM (BF rfl)) fun w1 hw1 => ?_
       refine ⟨_, [], rfl, ⟨congrArg Value.bool ?_, rfl⟩, hw1.no⟩
       first | (simp [*]; done) | (simp_all; done)
     ·
      have hp4 : ¬ ((kd) = (kd2)) := of_decide_eq_false hb4
      refine A9 5 26 37 true _ rfl rfl hb4 rfl (AA _ (A5 _ rfl hb4 rfl) rfl ?_)
      refine AA _ (AG rfl) rfl ?_
      refine A9 5 33 44 true _ rfl rfl rfl rfl (AA _ (A5 _ rfl rfl rfl) rfl ?_)
      refine AA _ (AG rfl) rfl ?_
      refine A9 5 40 51 true _ rfl rfl rfl rfl (AA _ (A5 _ rfl rfl rfl) rfl ?_)
      refine AA _ (AE rfl) rfl ?_
      refine AJ (AD (BK (CD [false, false, false, false] ?_)))
      show JQ _ _ _ _ []
      refine BJ (.bool false) (res1 EM (BF rfl)) fun w1 hw1 => ?_
      refine ⟨_, [], rfl, ⟨congrArg Value.bool ?_, rfl⟩, hw1.no⟩
      first | (simp [*]; done) | (simp_all; done)
    ·
     have hp3 : ¬ (tg = tg2) := of_decide_eq_false hb3
     refine A9 5 19 30 true _ rfl rfl hb3 rfl (AA _ (A5 _ rfl hb3 rfl) rfl ?_)
     refine AA _ (AG rfl) rfl ?_
     refine A9 5 26 37 true _ rfl rfl rfl rfl (AA _ (A5 _ rfl rfl rfl) rfl ?_)
     refine AA _ (AG rfl) rfl ?_
     refine A9 5 33 44 true _ rfl rfl rfl rfl (AA _ (A5 _ rfl rfl rfl) rfl ?_)
     refine AA _ (AG rfl) rfl ?_
     refine A9 5 40 51 true _ rfl rfl rfl rfl (AA _ (A5 _ rfl rfl rfl) rfl ?_)
     refine AA _ (AE rfl) rfl ?_
     refine AJ (AD (BK (CD [false, false, false, false] ?_)))
     show JQ _ _ _ _ []
     refine BJ (.bool false) (res1 EM (BF rfl)) fun w1 hw1 => ?_
     refine ⟨_, [], rfl, ⟨congrArg Value.bool ?_, rfl⟩, hw1.no⟩
     first | (simp [*]; done) | (simp_all; done)
   ·
    have hp2 : ¬ (ep = ep2) := of_decide_eq_false hb2
    refine A9 5 12 23 true _ rfl rfl hb2 rfl (AA _ (A5 _ rfl hb2 rfl) rfl ?_)
    refine AA _ (AG rfl) rfl ?_
    refine A9 5 19 30 true _ rfl rfl rfl rfl (AA _ (A5 _ rfl rfl rfl) rfl ?_)
    refine AA _ (AG rfl) rfl ?_
    refine A9 5 26 37 true _ rfl rfl rfl rfl (AA _ (A5 _ rfl rfl rfl) rfl ?_)
    refine AA _ (AG rfl) rfl ?_
    refine A9 5 33 44 true _ rfl rfl rfl rfl (AA _ (A5 _ rfl rfl rfl) rfl ?_)
    refine AA _ (AG rfl) rfl ?_
    refine A9 5 40 51 true _ rfl rfl rfl rfl (AA _ (A5 _ rfl rfl rfl) rfl ?_)
    refine AA _ (AE rfl) rfl ?_
    refine AJ (AD (BK (CD [false, false, false, false] ?_)))
    show JQ _ _ _ _ []
    refine BJ (.bool false) (res1 EM (BF rfl)) fun w1 hw1 => ?_
    refine ⟨_, [], rfl, ⟨congrArg Value.bool ?_, rfl⟩, hw1.no⟩
    first | (simp [*]; done) | (simp_all; done)
  ·
   have hp1 : ¬ (pv = pv2) := of_decide_eq_false hb1
   refine A9 5 5 16 true _ rfl rfl hb1 rfl (AA _ (A5 _ rfl hb1 rfl) rfl ?_)
   refine AA _ (AG rfl) rfl ?_
   refine A9 5 12 23 true _ rfl rfl rfl rfl (AA _ (A5 _ rfl rfl rfl) rfl ?_)
   refine AA _ (AG rfl) rfl ?_
   refine A9 5 19 30 true _ rfl rfl rfl rfl (AA _ (A5 _ rfl rfl rfl) rfl ?_)
   refine AA _ (AG rfl) rfl ?_
   refine A9 5 26 37 true _ rfl rfl rfl rfl (AA _ (A5 _ rfl rfl rfl) rfl ?_)
   refine AA _ (AG rfl) rfl ?_
   refine A9 5 33 44 true _ rfl rfl rfl rfl (AA _ (A5 _ rfl rfl rfl) rfl ?_)
   refine AA _ (AG rfl) rfl ?_
   refine A9 5 40 51 true _ rfl rfl rfl rfl (AA _ (A5 _ rfl rfl rfl) rfl ?_)
   refine AA _ (AE rfl) rfl ?_
   refine AJ (AD (BK (CD [false, false, false, false] ?_)))
   show JQ _ _ _ _ []
   refine BJ (.bool false) (res1 EM (BF rfl)) fun w1 hw1 => ?_
   refine ⟨_, [], rfl, ⟨congrArg Value.bool ?_, rfl⟩, hw1.no⟩
   first | (simp [*]; done) | (simp_all; done)
 ·
  rintro v1 L1 ⟨nb4, hnb4, rfl, rfl⟩
  refine ⟨[], ?_⟩
  show DP _ _ _ _ _ _ _ _ [_, _, (Ez nb4 (V8) 26)]
  refine C2 ⟨[5], [0, 1, 2, 3], [], [0, 1, 2, 3], [4]⟩ 4 _ rfl rfl (by decide +kernel) rfl ⟨AP rfl rfl (AB 2 26 4 AQ rfl BE rfl rfl), AP rfl rfl (AL rfl (BR D5 BE rfl (AR 0 rfl (DL (p := [U64 pv, U64 ep]) (q := cu8 tg) (vs := (V4 (kd) ai ni ci sa ns sc bl)) (by first | rfl | (simp only [List.append_assoc, List.nil_append, List.append_nil, List.cons_append]; done)) rfl)))), AP rfl rfl (AB 2 26 4 AQ rfl BE rfl rfl), AP rfl rfl (AL rfl (BR D5 BE rfl (AR 1 rfl (DL (p := [U64 pv2, U64 ep2]) (q := cu8 tg2) (vs := (V4 (kd2) ai2 ni2 ci2 sa2 ns2 sc2 bl2)) (by first | rfl | (simp only [List.append_assoc, List.nil_append, List.append_nil, List.cons_append]; done)) rfl)))), trivial⟩ rfl (BO rfl (C4 _ (V8) Tryd.zeroValue26 (by kernel_rfl))) ?_
  rintro v1 L1 ⟨nb6, hnb6, rfl, rfl⟩
  refine ⟨[], ?_⟩
  show DP _ _ _ _ _ _ _ _ [_, _, _, (Ez nb6 (V8) 26)]
  refine EI ⟨[5, 4], [0, 1, 2, 3], [], [0, 1, 2, 3], [6]⟩ 6 rfl rfl (by decide +kernel) rfl ⟨AP rfl rfl (AB 2 26 4 AQ rfl BE rfl rfl), AP rfl rfl (AL rfl (BR D5 BE rfl (AR 0 rfl (DL (p := [U64 pv, U64 ep]) (q := cu8 tg) (vs := (V4 (kd) ai ni ci sa ns sc bl)) (by first | rfl | (simp only [List.append_assoc, List.nil_append, List.append_nil, List.cons_append]; done)) rfl)))), AP rfl rfl (AB 2 26 4 AQ rfl BE rfl rfl), AP rfl rfl (AL rfl (BR D5 BE rfl (AR 1 rfl (DL (p := [U64 pv2, U64 ep2]) (q := cu8 tg2) (vs := (V4 (kd2) ai2 ni2 ci2 sa2 ns2 sc2 bl2)) (by first | rfl | (simp only [List.append_assoc, List.nil_append, List.append_nil, List.cons_append]; done)) rfl)))), trivial⟩ rfl (BO rfl (BS 3 nb6 4 _ 26 (V4 (kd) ai ni ci sa ns sc bl) rfl rfl rfl BE rfl (by simp [Value.oneCell']) (Nat.le_of_ble_eq_true rfl) (BW (by simp [])))) ?_
  show DP _ _ _ _ _ _ _ _ [_, _, _, (Ez nb6 (V4 (kd) ai ni ci sa ns sc bl) 26)]
  refine EI ⟨[5, 4, 6], [0, 1, 2, 3], [0, 1], [2, 3], [7]⟩ 7 rfl rfl (by decide +kernel) rfl ⟨AP rfl rfl (AB 2 26 4 AQ rfl BE rfl rfl), AP rfl rfl (AL rfl (BR D5 BE rfl (AR 1 rfl (DL (p := [U64 pv2, U64 ep2]) (q := cu8 tg2) (vs := (V4 (kd2) ai2 ni2 ci2 sa2 ns2 sc2 bl2)) (by first | rfl | (simp only [List.append_assoc, List.nil_append, List.append_nil, List.cons_append]; done)) rfl)))), trivial⟩ rfl (BO rfl (BS 2 nb4 4 _ 26 (V4 (kd2) ai2 ni2 ci2 sa2 ns2 sc2 bl2) rfl rfl rfl BE rfl (by simp [Value.oneCell']) (Nat.le_of_ble_eq_true rfl) (BW (by simp [])))) ?_
  show DP _ _ _ _ _ _ _ _ [_, _, (Ez nb4 (V4 (kd2) ai2 ni2 ci2 sa2 ns2 sc2 bl2) 26), _]
  refine DR ⟨[5, 4, 6, 7], [0, 1, 2, 3], [0, 1, 2, 3], [], []⟩ rfl rfl (by decide +kernel) rfl trivial ?_
  refine C5 (F' := [(5, Ptr nb6 0), (6, Ptr nb4 0), (2, Ptr nb1 0), (3, Ptr nb2 0), (4, .bool false)]) (by kernel_rfl) ?_
  refine AD (AF (AC (AA (Ptr nb1 0) (AB 0 22 1 AQ rfl A1 rfl rfl) rfl ?_)))
  refine AA _ (AL rfl (AX A8 (AR 0 rfl (AI (Seg.head))))) rfl ?_
  refine AA (Ptr nb2 0) (AB 0 22 1 AQ rfl A1 rfl rfl) rfl (AA _ (AL rfl (AX A8 (AR 1 rfl (AI (Seg.head))))) rfl ?_)
  refine AA (.bool (decide (pv = pv2))) (AT rfl rfl fun _ => FL pv pv2) rfl ?_
  refine AA _ (AG rfl) rfl ?_
  rcases Bool.eq_false_or_eq_true (decide (pv = pv2)) with hb7 | hb7
  ·
   have hp7 : pv = pv2 := of_decide_eq_true hb7
   refine AM 5 16 true _ (Ptr nb1 1) rfl rfl hb7 (AB 1 22 1 AQ rfl A1 rfl rfl) rfl ?_
   refine AM 5 16 true _ _ rfl rfl hb7 (AL rfl (AX A8 (AR 0 rfl (AI (AH (Seg.head)))))) rfl ?_
   refine AM 5 16 true _ (Ptr nb2 1) rfl rfl hb7 (AB 1 22 1 AQ rfl A1 rfl rfl) rfl ?_
   refine AM 5 16 true _ _ rfl rfl hb7 (AL rfl (AX A8 (AR 1 rfl (AI (AH (Seg.head)))))) rfl ?_
   refine AM 5 16 true _ (.bool (decide (ep = ep2))) rfl rfl hb7 (AT rfl rfl fun _ => FL ep ep2) rfl ?_
   refine AA _ (BA _ rfl hb7 rfl) rfl (AA _ (AG rfl) rfl ?_)
   rcases Bool.eq_false_or_eq_true (decide (ep = ep2)) with hb8 | hb8
   ·
    have hp8 : ep = ep2 := of_decide_eq_true hb8
    refine AM 12 23 true _ (Ptr nb1 6) rfl rfl hb8 (AB 6 27 16 AQ rfl B3 rfl rfl) rfl ?_
    refine AM 12 23 true _ _ rfl rfl hb8 (AL rfl (BR EQ B3 (EJ htg) (AR 0 rfl (Seg.right 6 0 rfl rfl (AN _))))) rfl ?_
    refine AM 12 23 true _ (Ptr nb2 6) rfl rfl hb8 (AB 6 27 16 AQ rfl B3 rfl rfl) rfl ?_
    refine AM 12 23 true _ _ rfl rfl hb8 (AL rfl (BR EQ B3 (EJ htg2) (AR 1 rfl (Seg.right 6 0 rfl rfl (AN _))))) rfl ?_
    refine AM 12 23 true _ (.bool (decide (tg = tg2))) rfl rfl hb8 (DM _ _ _ rfl rfl (fun _ => FY _ _ _ _ _ _ (by kernel_rfl)) fun _ => eql_arr8 B1 CO EP FA FU (by simp [htg]) (by simp [htg2])) rfl ?_
    refine AA _ (BA _ rfl hb8 rfl) rfl (AA _ (AG rfl) rfl ?_)
    rcases Bool.eq_false_or_eq_true (decide (tg = tg2)) with hb9 | hb9
    ·
     have hp9 : tg = tg2 := of_decide_eq_true hb9
     refine AM 19 30 true _ (Ptr nb6 0) rfl rfl hb9 (AB 0 3 1 AY rfl AW rfl rfl) rfl ?_
     refine AM 19 30 true _ _ rfl rfl hb9 (AL rfl (AX A0 (AR 3 rfl (Seg.head)))) rfl ?_
     refine AM 19 30 true _ (Ptr nb4 0) rfl rfl hb9 (AB 0 3 1 AY rfl AW rfl rfl) rfl ?_
     refine AM 19 30 true _ _ rfl rfl hb9 (AL rfl (AX A0 (AR 2 rfl (Seg.head)))) rfl ?_
     refine AM 19 30 true _ (.bool (decide ((kd) = (kd2)))) rfl rfl hb9 (AT rfl rfl fun _ => BP _ _) rfl ?_
     refine AA _ (BA _ rfl hb9 rfl) rfl (AA _ (AG rfl) rfl ?_)
     rcases Bool.eq_false_or_eq_true (decide ((kd) = (kd2))) with hb10 | hb10
     ·
      have hp10 : (kd) = (kd2) := of_decide_eq_true hb10
      refine AM 26 37 true _ (Ptr nb6 3) rfl rfl hb10 (AB 3 22 1 AY rfl A1 rfl rfl) rfl ?_
      refine AM 26 37 true _ _ rfl rfl hb10 (AL rfl (AX A8 (AR 3 rfl (AH (AH (AH (Seg.head))))))) rfl ?_
      refine AM 26 37 true _ (Ptr nb4 3) rfl rfl hb10 (AB 3 22 1 AY rfl A1 rfl rfl) rfl ?_
      refine AM 26 37 true _ _ rfl rfl hb10 (AL rfl (AX A8 (AR 2 rfl (AH (AH (AH (Seg.head))))))) rfl ?_
      refine AM 26 37 true _ (.bool (decide (bl = bl2))) rfl rfl hb10 (AT rfl rfl fun _ => FL bl bl2) rfl ?_
      refine AA _ (BA _ rfl hb10 rfl) rfl (AA _ (AG rfl) rfl ?_)
      rcases Bool.eq_false_or_eq_true (decide (bl = bl2)) with hb11 | hb11
      ·
       have hp11 : bl = bl2 := of_decide_eq_true hb11
       refine AM 33 44 true _ (Ptr nb6 1) rfl rfl hb11 (AB 1 23 1 AY rfl BV rfl rfl) rfl ?_
       refine AM 33 44 true _ _ rfl rfl hb11 (AL rfl (AX B4 (AR 3 rfl (AH (Seg.head))))) rfl ?_
       refine AM 33 44 true _ (Ptr nb4 1) rfl rfl hb11 (AB 1 23 1 AY rfl BV rfl rfl) rfl ?_
       refine AM 33 44 true _ _ rfl rfl hb11 (AL rfl (AX B4 (AR 2 rfl (AH (Seg.head))))) rfl ?_
       refine DC 33 44 true _ rfl rfl hb11 (A3 115 _ (.bool (decide (l = l2))) (AV _ Tryd.call115 rfl) (fun w1 hw1 => eq64_c ai ni ci l ai2 ni2 ci2 l2 w1 hl (by omega) (by omega) (by omega) (CF hw1 rfl hv) hl2 (by omega) (by omega) (by omega) (CF hw1 rfl hv2))) rfl ?_
       rintro v1 L1 ⟨rfl, rfl⟩
       show JL _ _ _ _ ((49, .bool (decide (l = l2))) :: _) [_, _, _, _]
       refine AA _ (BA _ rfl hb11 rfl) rfl (AA _ (AG rfl) rfl ?_)
       rcases Bool.eq_false_or_eq_true (decide (l = l2)) with hb12 | hb12
       ·
        have hp12 : l = l2 := of_decide_eq_true hb12
        refine AM 40 51 true _ (Ptr nb6 2) rfl rfl hb12 (AB 2 24 1 AY rfl DG rfl rfl) rfl ?_
        refine AM 40 51 true _ _ rfl rfl hb12 (AL rfl (AX D6 (AR 3 rfl (AH (AH (Seg.head)))))) rfl ?_
        refine AM 40 51 true _ (Ptr nb4 2) rfl rfl hb12 (AB 2 24 1 AY rfl DG rfl rfl) rfl ?_
        refine AM 40 51 true _ _ rfl rfl hb12 (AL rfl (AX D6 (AR 2 rfl (AH (AH (Seg.head)))))) rfl ?_
        refine DC 40 51 true _ rfl rfl hb12 (A3 116 _ (.bool (decide (ls = ls2))) (AV _ Tryd.call116 rfl) (fun w1 hw1 => eqS_c sa ns sc ls sa2 ns2 sc2 ls2 w1 hls (by omega) (by omega) (by omega) (CF hw1 rfl hs) hls2 (by omega) (by omega) (by omega) (CF hw1 rfl hs2))) rfl ?_
        rintro v1 L1 ⟨rfl, rfl⟩
        show JL _ _ _ _ ((56, .bool (decide (ls = ls2))) :: _) [_, _, _, _]
        refine AA _ (BA _ rfl hb12 rfl) rfl (AA _ (AE rfl) rfl ?_)
        refine AJ (AD (BK (CD [false, false, false, false] ?_)))
        show JQ _ _ _ _ []
        refine BJ (.bool (decide (ls = ls2))) (res1 EM (BF rfl)) fun w1 hw1 => ?_
        refine ⟨_, [], rfl, ⟨congrArg Value.bool ?_, rfl⟩, hw1.no⟩
        first | (simp [*]; done) | (simp_all; done)
       ·
        have hp12 : ¬ (l = l2) := of_decide_eq_false hb12
        refine A9 5 40 51 true _ rfl rfl hb12 rfl (AA _ (A5 _ rfl hb12 rfl) rfl ?_)
        refine AA _ (AE rfl) rfl ?_
        refine AJ (AD (BK (CD [false, false, false, false] ?_)))
        show JQ _ _ _ _ []
        refine BJ (.bool false) (res1 EM (BF rfl)) fun w1 hw1 => ?_
        refine ⟨_, [], rfl, ⟨congrArg Value.bool ?_, rfl⟩, hw1.no⟩
        first | (simp [*]; done) | (simp_all; done)
      ·
       have hp11 : ¬ (bl = bl2) := of_decide_eq_false hb11
       refine A9 5 33 44 true _ rfl rfl hb11 rfl (AA _ (A5 _ rfl hb11 rfl) rfl ?_)
       refine AA _ (AG rfl) rfl ?_
       refine A9 5 40 51 true _ rfl rfl rfl rfl (AA _ (A5 _ rfl rfl rfl) rfl ?_)
       refine AA _ (AE rfl) rfl ?_
       refine AJ (AD (BK (CD [false, false, false, false] ?_)))
       show JQ _ _ _ _ []
       refine BJ (.bool false) (res1 EM (BF rfl)) fun w1 hw1 => ?_
       refine ⟨_, [], rfl, ⟨congrArg Value.bool ?_, rfl⟩, hw1.no⟩
       first | (simp [*]; done) | (simp_all; done)
     ·
      have hp10 : ¬ ((kd) = (kd2)) := of_decide_eq_false hb10
      refine A9 5 26 37 true _ rfl rfl hb10 rfl (AA _ (A5 _ rfl hb10 rfl) rfl ?_)
      refine AA _ (AG rfl) rfl ?_
      refine A9 5 33 44 true _ rfl rfl rfl rfl (AA _ (A5 _ rfl rfl rfl) rfl ?_)
      refine AA _ (AG rfl) rfl ?_
      refine A9 5 40 51 true _ rfl rfl rfl rfl (AA _ (A5 _ rfl rfl rfl) rfl ?_)
      refine AA _ (AE rfl) rfl ?_
      refine AJ (AD (BK (CD [false, false, false, false] ?_)))
      show JQ _ _ _ _ []
      refine BJ (.bool false) (res1 EM (BF rfl)) fun w1 hw1 => ?_
      refine ⟨_, [], rfl, ⟨congrArg Value.bool ?_, rfl⟩, hw1.no⟩
      first | (simp [*]; done) | (simp_all; done)
    ·
     have hp9 : ¬ (tg = tg2) := of_decide_eq_false hb9
     refine A9 5 19 30 true _ rfl rfl hb9 rfl (AA _ (A5 _ rfl hb9 rfl) rfl ?_)
     refine AA _ (AG rfl) rfl ?_
     refine A9 5 26 37 true _ rfl rfl rfl rfl (AA _ (A5 _ rfl rfl rfl) rfl ?_)
     refine AA _ (AG rfl) rfl ?_
     refine A9 5 33 44 true _ rfl rfl rfl rfl (AA _ (A5 _ rfl rfl rfl) rfl ?_)
     refine AA _ (AG rfl) rfl ?_
     refine A9 5 40 51 true _ rfl rfl rfl rfl (AA _ (A5 _ rfl rfl rfl) rfl ?_)
     refine AA _ (AE rfl) rfl ?_
     refine AJ (AD (BK (CD [false, false, false, false] ?_)))
     show JQ _ _ _ _ []
     refine BJ (.bool false) (res1 EM (BF rfl)) fun w1 hw1 => ?_
     refine ⟨_, [], rfl, ⟨congrArg Value.bool ?_, rfl⟩, hw1.no⟩
     first | (simp [*]; done) | (simp_all; done)
   ·
    have hp8 : ¬ (ep = ep2) := of_decide_eq_false hb8
    refine A9 5 12 23 true _ rfl rfl hb8 rfl (AA _ (A5 _ rfl hb8 rfl) rfl ?_)
    refine AA _ (AG rfl) rfl ?_
    refine A9 5 19 30 true _ rfl rfl rfl rfl (AA _ (A5 _ rfl rfl rfl) rfl ?_)
    refine AA _ (AG rfl) rfl ?_
    refine A9 5 26 37 true _ rfl rfl rfl rfl (AA _ (A5 _ rfl rfl rfl) rfl ?_)
    refine AA _ (AG rfl) rfl ?_
    refine A9 5 33 44 true _ rfl rfl rfl rfl (AA _ (A5 _ rfl rfl rfl) rfl ?_)
    refine AA _ (AG rfl) rfl ?_
    refine A9 5 40 51 true _ rfl rfl rfl rfl (AA _ (A5 _ rfl rfl rfl) rfl ?_)
    refine AA _ (AE rfl) rfl ?_
    refine AJ (AD (BK (CD [false, false, false, false] ?_)))
    show JQ _ _ _ _ []
    refine BJ (.bool false) (res1 EM (BF rfl)) fun w1 hw1 => ?_
    refine ⟨_, [], rfl, ⟨congrArg Value.bool ?_, rfl⟩, hw1.no⟩
    first | (simp [*]; done) | (simp_all; done)
  ·
   have hp7 : ¬ (pv = pv2) := of_decide_eq_false hb7
   refine A9 5 5 16 true _ rfl rfl hb7 rfl (AA _ (A5 _ rfl hb7 rfl) rfl ?_)
   refine AA _ (AG rfl) rfl ?_
   refine A9 5 12 23 true _ rfl rfl rfl rfl (AA _ (A5 _ rfl rfl rfl) rfl ?_)
   refine AA _ (AG rfl) rfl ?_
   refine A9 5 19 30 true _ rfl rfl rfl rfl (AA _ (A5 _ rfl rfl rfl) rfl ?_)
   refine AA _ (AG rfl) rfl ?_
   refine A9 5 26 37 true _ rfl rfl rfl rfl (AA _ (A5 _ rfl rfl rfl) rfl ?_)
   refine AA _ (AG rfl) rfl ?_
   refine A9 5 33 44 true _ rfl rfl rfl rfl (AA _ (A5 _ rfl rfl rfl) rfl ?_)
   refine AA _ (AG rfl) rfl ?_
   refine A9 5 40 51 true _ rfl rfl rfl rfl (AA _ (A5 _ rfl rfl rfl) rfl ?_)
   refine AA _ (AE rfl) rfl ?_
   refine AJ (AD (BK (CD [false, false, false, false] ?_)))
   show JQ _ _ _ _ []
   refine BJ (.bool false) (res1 EM (BF rfl)) fun w1 hw1 => ?_
   refine ⟨_, [], rfl, ⟨congrArg Value.bool ?_, rfl⟩, hw1.no⟩
   first | (simp [*]; done) | (simp_all; done)
theorem may13_c (pv ep : UInt64) (kd : Int) (ai : Option Addr) (ni ci : Nat) (l : List UInt64) (sa : Option Addr) (ns sc : Nat) (ls : List SealR) (bl : UInt64) (tg : List UInt8)  (w : World) (hl : l.length = ni) (hnm : ni ≤ 2000000) (hnc : ni ≤ ci) (hcm : ci ≤ maxLen) (hv : RdV w ai (cu64 l)) (hls : ls.length = ns) (hnn : ns ≤ 2000000) (hnd : ns ≤ sc) (hcn : sc ≤ maxLen) (hs : RdV w sa (ls.flatMap sealC)) (htg : tg.length = 16)  : Calls Tryd.prog 128 #[.agg (V2 pv ep (kd) ai ni ci sa ns sc bl tg).toArray] w (Post w [] (fun v L => v = errV 50 (mayN pv ep kd l ls bl) ∧ L = [])) := by
 have hmx : maxLen = 9223372036854775807 := rfl
 refine enter (P := Tryd.prog) (f := 128) (fn := Tryd.f128) w [] 37 [] [.agg (V2 pv ep (kd) ai ni ci sa ns sc bl tg).toArray] Tryd.func128 rfl rfl (by simp) (BZ (by simp) (by simp) (by simp)) ?_
 show JC _ _ _ [(0, .agg (V2 pv ep (kd) ai ni ci sa ns sc bl tg).toArray)] _
 refine AF (AC (A2 (CN (.agg (V2 pv ep (kd) ai ni ci sa ns sc bl tg).toArray) (V2 pv ep (kd) ai ni ci sa ns sc bl tg) rfl (by first | rfl | simp)) rfl ?_))
 rintro v1 L1 ⟨nb1, hnb1, rfl, rfl⟩
 show JL _ _ _ _ (_ :: _) [_]
 refine AA _ (AE rfl) rfl ?_
 refine AJ (AD (AF (B5 (AF (AF (AC (AA (Ptr nb1 2) (AB 2 26 4 AQ rfl BE rfl rfl) rfl ?_)))))))
 refine AA _ (AL rfl (BR D5 BE rfl (AR 0 rfl (DL (p := [U64 pv, U64 ep]) (q := cu8 tg) (vs := (V4 (kd) ai ni ci sa ns sc bl)) (by first | rfl | (simp only [List.append_assoc, List.nil_append, List.append_nil, List.cons_append]; done)) rfl)))) rfl ?_
 refine A7 (A3 69 _ (.bool (RightO (kd) l ls bl)) (AV _ Tryd.call69 rfl) (fun w1 hw1 => right13_c (kd) ai ni ci l sa ns sc ls bl w1 hl (by omega) (by omega) (by omega) (CF hw1 rfl hv) hls (by omega) (by omega) (by omega) (CF hw1 rfl hs))) rfl ?_
 show JL _ _ _ _ ((6, .bool (RightO (kd) l ls bl)) :: _) [_]
 refine AA (.bool (!(RightO (kd) l ls bl))) (D1 rfl) rfl (AA _ (AE rfl) rfl ?_)
 refine AJ (AD (CC (!(RightO (kd) l ls bl)) rfl (fun hb1 => ?_) (fun hb1 => ?_)))
 ·
  have hb2 : (RightO (kd) l ls bl) = false := by simpa using hb1
  refine BH (AD (CH _ rfl hb1 ?_))
  refine AF (AC (AA (.iface 50 (I64 2)) (DH BN rfl rfl) rfl ?_))
  refine AA _ (AE rfl) rfl ?_
  refine AJ (AD (BK (CS (A6 (CD [false] ?_)))))
  show JQ _ _ _ _ []
  refine BJ (.iface 50 (I64 2)) (res1 Tryd.results128 (BF rfl)) fun w1 hw1 => ?_
  have e1 : mayN pv ep kd l ls bl = 2 := by
   unfold mayN
   first | rw [if_pos ‹RightO kd l ls bl = true›] | rw [if_neg (by simp [*])]
   all_goals simp [*]
  rw [e1]
  exact ⟨_, [], rfl, ⟨rfl, rfl⟩, hw1.no⟩
 ·
  have hb3 : (RightO (kd) l ls bl) = true := by simpa using hb1
  by_cases hk1 : kd = 1
  ·
   have hpos := RightO_pos hb3 hk1
   rw [hls, hl] at hpos
   obtain ⟨x1, hx1⟩ : ∃ x, ls[0]? = some x := ⟨_, List.getElem?_eq_getElem (by rw [hls]; omega)⟩
   obtain ⟨bz1, oz1, hz1, hm1⟩ := F6 FH (by decide) hs hx1
   refine DB 37 1 [(0, Ptr nb1 2), (1, Ptr nb1 2), (2, I64 (kd)), (3, .bool (decide ((kd) = (1:Int)))), (4, .bool (decide ((kd) = (1:Int)))), (5, Ptr nb1 2), (6, Ptr nb1 4), (7, SL sa ns sc), (8, Ptr bz1 oz1), (9, Ptr bz1 oz1), (10, U64 x1.e), (11, Ptr nb1 1), (12, U64 ep), (13, .bool (decide (x1.e ≠ ep))), (14, .bool (decide (x1.e ≠ ep))), (15, .bool (decide (x1.e ≠ ep)))] B6 rfl (by decide +kernel) ?_
   refine DR ⟨[], [0, 1, 2, 3, 4, 5, 6, 7, 8, 9, 10, 11, 12, 13, 14, 15], [], [0, 1, 2, 3, 4, 5, 6, 7, 8, 9, 10, 11, 12, 13, 14, 15], []⟩ rfl rfl (by decide +kernel) rfl ⟨AP rfl rfl (AB 2 26 4 AQ rfl BE rfl rfl), AP rfl rfl (AB 0 3 1 AY rfl AW rfl rfl), AP rfl rfl (AL rfl (AX A0 (AR 0 rfl (AI (AH (AH (Seg.head))))))), AP rfl rfl (AT rfl rfl fun _ => BP _ _), CB rfl rfl rfl, ⟨_, rfl, C8 4 12 true _ rfl rfl rfl (decide_eq_true hk1) (AB 2 26 4 AQ rfl BE rfl rfl)⟩, ⟨_, rfl, C8 4 12 true _ rfl rfl rfl (decide_eq_true hk1) (AB 2 24 1 AY rfl DG rfl rfl)⟩, ⟨_, rfl, C8 4 12 true _ rfl rfl rfl (decide_eq_true hk1) (AL rfl (AX D6 (AR 0 rfl (AI (AH (AH (AH (AH (Seg.head)))))))))⟩, ⟨_, rfl, C8 4 12 true _ rfl rfl rfl (decide_eq_true hk1) (DI 161 49 oz1 CK BY rfl hz1 rfl (by omega) (by omega) (by omega))⟩, ⟨_, rfl, C8 4 12 true _ rfl rfl rfl (decide_eq_true hk1) (AB 0 22 1 CM rfl A1 rfl rfl)⟩, ⟨_, rfl, C8 4 12 true _ rfl rfl rfl (decide_eq_true hk1) (AL rfl (AX A8 (C9 (hm1.mem (by simp)) (AI (AI (Seg.head))) (by first | omega | (simp; done) | (simp; omega)))))⟩, ⟨_, rfl, C8 4 12 true _ rfl rfl rfl (decide_eq_true hk1) (AB 1 22 1 AQ rfl A1 rfl rfl)⟩, ⟨_, rfl, C8 4 12 true _ rfl rfl rfl (decide_eq_true hk1) (AL rfl (AX A8 (AR 0 rfl (AI (AH (Seg.head))))))⟩, ⟨_, rfl, C8 4 12 true _ rfl rfl rfl (decide_eq_true hk1) (AT rfl rfl fun _ => E3 x1.e ep)⟩, AP rfl rfl (BA _ rfl (decide_eq_true hk1) rfl), AP rfl rfl (AE rfl), trivial⟩ ?_
   refine C5 (F' := [(3, .bool (decide (x1.e ≠ ep))), (1, Ptr nb1 0), (2, .nilIface)]) (by kernel_rfl) ?_
   refine AD (CC (decide (x1.e ≠ ep)) rfl (fun hb4 => ?_) (fun hb4 => ?_))
   ·
    have hp4 : x1.e ≠ ep := of_decide_eq_true hb4
    refine AF (AC (AA (.iface 50 (I64 2)) (DH BN rfl rfl) rfl ?_))
    refine AA _ (AE rfl) rfl ?_
    refine AJ (AD (BK (CS (A6 (CD [false] ?_)))))
    show JQ _ _ _ _ []
    refine BJ (.iface 50 (I64 2)) (res1 Tryd.results128 (BF rfl)) fun w1 hw1 => ?_
    have e1 : mayN pv ep kd l ls bl = 2 := by
     unfold mayN
     first | rw [if_pos ‹RightO kd l ls bl = true›] | rw [if_neg (by simp [*])]
     rw [headE_of hx1]
     all_goals simp [*]
    rw [e1]
    exact ⟨_, [], rfl, ⟨rfl, rfl⟩, hw1.no⟩
   ·
    have hp4 : ¬ (x1.e ≠ ep) := of_decide_eq_false hb4
    refine AF (AC (AA (Ptr nb1 1) (AB 1 22 1 AQ rfl A1 rfl rfl) rfl ?_))
    refine AA _ (AL rfl (AX A8 (AR 0 rfl (AI (AH (Seg.head)))))) rfl ?_
    refine A7 (A3 133 _ (.bool (RightB (0:UInt64) ep)) (AV _ Tryd.call133 rfl) (fun w1 hw1 => right_c (0:UInt64) ep w1 )) rfl ?_
    show JL _ _ _ _ ((27, .bool (RightB (0:UInt64) ep)) :: _) [_]
    refine AA (.bool (!(RightB (0:UInt64) ep))) (D1 rfl) rfl (AA _ (AG rfl) rfl ?_)
    rcases Bool.eq_false_or_eq_true (RightB (0:UInt64) ep) with hb5 | hb5
    ·
     refine AM 4 29 false _ (Ptr nb1 0) rfl rfl (by rw [show (RightB (0:UInt64) ep) = true from hb5] <;> rfl) (AB 0 22 1 AQ rfl A1 rfl rfl) rfl ?_
     refine AM 4 29 false _ (U64 pv) rfl rfl (by rw [show (RightB (0:UInt64) ep) = true from hb5] <;> rfl) (AL rfl (AX A8 (AR 0 rfl (AI (Seg.head))))) rfl ?_
     refine AM 4 29 false _ (Ptr nb1 1) rfl rfl (by rw [show (RightB (0:UInt64) ep) = true from hb5] <;> rfl) (AB 1 22 1 AQ rfl A1 rfl rfl) rfl ?_
     refine AM 4 29 false _ (U64 ep) rfl rfl (by rw [show (RightB (0:UInt64) ep) = true from hb5] <;> rfl) (AL rfl (AX A8 (AR 0 rfl (AI (AH (Seg.head)))))) rfl ?_
     refine AM 4 29 false _ (.bool (decide (ep ≤ pv))) rfl rfl (by rw [show (RightB (0:UInt64) ep) = true from hb5] <;> rfl) (AT rfl rfl fun _ => bin_geq_u64 pv ep) rfl ?_
     refine AA _ (A5 _ rfl (by rw [show (RightB (0:UInt64) ep) = true from hb5] <;> rfl) rfl) rfl (AA _ (AE rfl) rfl ?_)
     refine AJ (AD (CC (decide (ep ≤ pv)) rfl (fun hb6 => ?_) (fun hb6 => ?_)))
     ·
      have hp6 : ep ≤ pv := of_decide_eq_true hb6
      refine AF (AC (AA (.iface 50 (I64 1)) (DH BN rfl rfl) rfl ?_))
      refine AA _ (AE rfl) rfl ?_
      refine AJ (AD (BK (CS (A6 (CD [false] ?_)))))
      show JQ _ _ _ _ []
      refine BJ (.iface 50 (I64 1)) (res1 Tryd.results128 (BF rfl)) fun w1 hw1 => ?_
      have e1 : mayN pv ep kd l ls bl = 1 := by
       unfold mayN
       first | rw [if_pos ‹RightO kd l ls bl = true›] | rw [if_neg (by simp [*])]
       rw [headE_of hx1]
       all_goals simp [*]
      rw [e1]
      exact ⟨_, [], rfl, ⟨rfl, rfl⟩, hw1.no⟩
     ·
      have hp6 : ¬ (ep ≤ pv) := of_decide_eq_false hb6
      refine BH (BU (AD (AF (AC (AA _ (AE rfl) rfl ?_)))))
      refine AJ (AD (BK (CD [false] ?_)))
      show JQ _ _ _ _ []
      refine BJ (.nilIface) (res1 Tryd.results128 (BF rfl)) fun w1 hw1 => ?_
      have e1 : mayN pv ep kd l ls bl = 0 := by
       unfold mayN
       first | rw [if_pos ‹RightO kd l ls bl = true›] | rw [if_neg (by simp [*])]
       rw [headE_of hx1]
       all_goals simp [*]
      rw [e1]
      exact ⟨_, [], rfl, ⟨rfl, rfl⟩, hw1.no⟩
    ·
     refine A9 5 4 29 false _ rfl rfl (by rw [show (RightB (0:UInt64) ep) = false from hb5] <;> rfl) rfl (AA _ (BA _ rfl (by rw [show (RightB (0:UInt64) ep) = false from hb5] <;> rfl) rfl) rfl ?_)
     refine AA _ (AE rfl) rfl ?_
     refine AJ (AD (CH _ rfl rfl ?_))
     refine AF (AC (AA (.iface 50 (I64 1)) (DH BN rfl rfl) rfl ?_))
     refine AA _ (AE rfl) rfl ?_
     refine AJ (AD (BK (CS (A6 (CD [false] ?_)))))
     show JQ _ _ _ _ []
     refine BJ (.iface 50 (I64 1)) (res1 Tryd.results128 (BF rfl)) fun w1 hw1 => ?_
     have e1 : mayN pv ep kd l ls bl = 1 := by
      unfold mayN
      first | rw [if_pos ‹RightO kd l ls bl = true›] | rw [if_neg (by simp [*])]
      rw [headE_of hx1]
      all_goals simp [*]
     rw [e1]
     exact ⟨_, [], rfl, ⟨rfl, rfl⟩, hw1.no⟩
  ·
   refine DB 37 1 [(0, Ptr nb1 2), (1, Ptr nb1 2), (2, I64 (kd)), (3, .bool (decide ((kd) = (1:Int)))), (4, .bool (decide ((kd) = (1:Int)))), (5, undef), (6, undef), (7, undef), (8, undef), (9, undef), (10, undef), (11, undef), (12, undef), (13, undef), (14, .bool false), (15, .bool false)] B6 rfl (by decide +kernel) ?_
   refine DR ⟨[], [0, 1, 2, 3, 4, 5, 6, 7, 8, 9, 10, 11, 12, 13, 14, 15], [], [0, 1, 2, 3, 4, 5, 6, 7, 8, 9, 10, 11, 12, 13, 14, 15], []⟩ rfl rfl (by decide +kernel) rfl ⟨AP rfl rfl (AB 2 26 4 AQ rfl BE rfl rfl), AP rfl rfl (AB 0 3 1 AY rfl AW rfl rfl), AP rfl rfl (AL rfl (AX A0 (AR 0 rfl (AI (AH (AH (Seg.head))))))), AP rfl rfl (AT rfl rfl fun _ => BP _ _), CB rfl rfl rfl, ⟨_, rfl, D0 4 12 true _ rfl rfl rfl (decide_eq_false hk1)⟩, ⟨_, rfl, D0 4 12 true _ rfl rfl rfl (decide_eq_false hk1)⟩, ⟨_, rfl, D0 4 12 true _ rfl rfl rfl (decide_eq_false hk1)⟩, ⟨_, rfl, D0 4 12 true _ rfl rfl rfl (decide_eq_false hk1)⟩, ⟨_, rfl, D0 4 12 true _ rfl rfl rfl (decide_eq_false hk1)⟩, ⟨_, rfl, D0 4 12 true _ rfl rfl rfl (decide_eq_false hk1)⟩, ⟨_, rfl, D0 4 12 true _ rfl rfl rfl (decide_eq_false hk1)⟩, ⟨_, rfl, D0 4 12 true _ rfl rfl rfl (decide_eq_false hk1)⟩, ⟨_, rfl, D0 4 12 true _ rfl rfl rfl (decide_eq_false hk1)⟩, AP rfl rfl (A5 _ rfl (decide_eq_false hk1) rfl), AP rfl rfl (AE rfl), trivial⟩ ?_
   refine C5 (F' := [(3, .bool false), (1, Ptr nb1 0), (2, .nilIface)]) (by kernel_rfl) ?_
   refine AD (BT _ rfl rfl ?_)
   refine AF (AC (AA (Ptr nb1 1) (AB 1 22 1 AQ rfl A1 rfl rfl) rfl ?_))
   refine AA _ (AL rfl (AX A8 (AR 0 rfl (AI (AH (Seg.head)))))) rfl ?_
   refine A7 (A3 133 _ (.bool (RightB (0:UInt64) ep)) (AV _ Tryd.call133 rfl) (fun w1 hw1 => right_c (0:UInt64) ep w1 )) rfl ?_
   show JL _ _ _ _ ((27, .bool (RightB (0:UInt64) ep)) :: _) [_]
   refine AA (.bool (!(RightB (0:UInt64) ep))) (D1 rfl) rfl (AA _ (AG rfl) rfl ?_)
   rcases Bool.eq_false_or_eq_true (RightB (0:UInt64) ep) with hb7 | hb7
   ·
    refine AM 4 29 false _ (Ptr nb1 0) rfl rfl (by rw [show (RightB (0:UInt64) ep) = true from hb7] <;> rfl) (AB 0 22 1 AQ rfl A1 rfl rfl) rfl ?_
    refine AM 4 29 false _ (U64 pv) rfl rfl (by rw [show (RightB (0:UInt64) ep) = true from hb7] <;> rfl) (AL rfl (AX A8 (AR 0 rfl (AI (Seg.head))))) rfl ?_
    refine AM 4 29 false _ (Ptr nb1 1) rfl rfl (by rw [show (RightB (0:UInt64) ep) = true from hb7] <;> rfl) (AB 1 22 1 AQ rfl A1 rfl rfl) rfl ?_
    refine AM 4 29 false _ (U64 ep) rfl rfl (by rw [show (RightB (0:UInt64) ep) = true from hb7] <;> rfl) (AL rfl (AX A8 (AR 0 rfl (AI (AH (Seg.head)))))) rfl ?_
    refine AM 4 29 false _ (.bool (decide (ep ≤ pv))) rfl rfl (by rw [show (RightB (0:UInt64) ep) = true from hb7] <;> rfl) (AT rfl rfl fun _ => bin_geq_u64 pv ep) rfl ?_
    refine AA _ (A5 _ rfl (by rw [show (RightB (0:UInt64) ep) = true from hb7] <;> rfl) rfl) rfl (AA _ (AE rfl) rfl ?_)
    refine AJ (AD (CC (decide (ep ≤ pv)) rfl (fun hb8 => ?_) (fun hb8 => ?_)))
    ·
     have hp8 : ep ≤ pv := of_decide_eq_true hb8
     refine AF (AC (AA (.iface 50 (I64 1)) (DH BN rfl rfl) rfl ?_))
     refine AA _ (AE rfl) rfl ?_
     refine AJ (AD (BK (CS (A6 (CD [false] ?_)))))
     show JQ _ _ _ _ []
     refine BJ (.iface 50 (I64 1)) (res1 Tryd.results128 (BF rfl)) fun w1 hw1 => ?_
     have e1 : mayN pv ep kd l ls bl = 1 := by
      unfold mayN
      first | rw [if_pos ‹RightO kd l ls bl = true›] | rw [if_neg (by simp [*])]
      all_goals simp [*]
     rw [e1]
     exact ⟨_, [], rfl, ⟨rfl, rfl⟩, hw1.no⟩
    ·
     have hp8 : ¬ (ep ≤ pv) := of_decide_eq_false hb8
     refine BH (BU (AD (AF (AC (AA _ (AE rfl) rfl ?_)))))
     refine AJ (AD (BK (CD [false] ?_)))
     show JQ _ _ _ _ []
     refine BJ (.nilIface) (res1 Tryd.results128 (BF rfl)) fun w1 hw1 => ?_
     have e1 : mayN pv ep kd l ls bl = 0 := by
      unfold mayN
      first | rw [if_pos ‹RightO kd l ls bl = true›] | rw [if_neg (by simp [*])]
      all_goals simp [*]
     rw [e1]
     exact ⟨_, [], rfl, ⟨rfl, rfl⟩, hw1.no⟩
   ·
    refine A9 5 4 29 false _ rfl rfl (by rw [show (RightB (0:UInt64) ep) = false from hb7] <;> rfl) rfl (AA _ (BA _ rfl (by rw [show (RightB (0:UInt64) ep) = false from hb7] <;> rfl) rfl) rfl ?_)
    refine AA _ (AE rfl) rfl ?_
    refine AJ (AD (CH _ rfl rfl ?_))
    refine AF (AC (AA (.iface 50 (I64 1)) (DH BN rfl rfl) rfl ?_))
    refine AA _ (AE rfl) rfl ?_
    refine AJ (AD (BK (CS (A6 (CD [false] ?_)))))
    show JQ _ _ _ _ []
    refine BJ (.iface 50 (I64 1)) (res1 Tryd.results128 (BF rfl)) fun w1 hw1 => ?_
    have e1 : mayN pv ep kd l ls bl = 1 := by
     unfold mayN
     first | rw [if_pos ‹RightO kd l ls bl = true›] | rw [if_neg (by simp [*])]
     all_goals simp [*]
    rw [e1]
    exact ⟨_, [], rfl, ⟨rfl, rfl⟩, hw1.no⟩
theorem put7_c (e : UInt64) (d t : List UInt8) (w : World) (hd : d.length = 32) (ht : t.length = 16) : Calls Tryd.prog 97 #[.agg ([U64 e] ++ cu8 d ++ cu8 t).toArray] w (Post w [] (fun v L => ∃ g sp cap, v = Slc g 0 56 cap ∧ L = [(Ez g (cu8 (putL e d t) ++ sp) 5)] ∧ sp.length = cap - 56 ∧ 56 ≤ cap ∧ cap ≤ maxLen)) := by
 have hmx : maxLen = 9223372036854775807 := rfl
 refine enter (P := Tryd.prog) (f := 97) (fn := Tryd.f97) w [] 25 [] [.agg ([U64 e] ++ cu8 d ++ cu8 t).toArray] Tryd.func97 rfl rfl (by simp) (BZ (by simp) (by simp) (by simp)) ?_
 show JC _ _ _ [(0, .agg ([U64 e] ++ cu8 d ++ cu8 t).toArray)] _
 refine AF (AC (A2 (CN (.agg ([U64 e] ++ cu8 d ++ cu8 t).toArray) ([U64 e] ++ cu8 d ++ cu8 t) rfl (by first | rfl | simp)) rfl ?_))
 rintro v1 L1 ⟨nb1, hnb1, rfl, rfl⟩
 show JL _ _ _ _ (_ :: _) [_]
 refine AA _ (AE rfl) rfl ?_
 refine AJ (AD (AF (AC (AA (.agg #[.nilIface, SL none 0 0]) (CY [] _ rfl (fun _ => by kernel_rfl)) rfl ?_))))
 refine A2 (CN (.agg #[.nilIface, SL none 0 0]) ([.nilIface, SL none 0 0]) rfl (by first | rfl | simp)) rfl ?_
 rintro v1 L1 ⟨nb2, hnb2, rfl, rfl⟩
 show JL _ _ _ _ (_ :: _) [_, _]
 refine AA _ (AE rfl) rfl ?_
 refine AJ (AD (AF (DB 25 5 [(0, Ptr nb2 0), (1, Ptr nb1 0), (2, U64 e), (4, Ptr nb1 1), (5, Slc nb1 1 32 32), (7, Ptr nb1 33), (8, Slc nb1 33 16 16)] B6 rfl (by decide +kernel) ?_)))
 refine C2 ⟨[], [0, 1, 2, 4, 5, 7, 8], [], [0, 1, 2, 4, 5, 7, 8], [3]⟩ 3 _ rfl rfl (by decide +kernel) rfl ⟨CB rfl rfl rfl, AP rfl rfl (AB 0 22 1 CM rfl A1 rfl rfl), AP rfl rfl (AL rfl (AX A8 (AR 0 rfl (AI (AI (Seg.head)))))), AP rfl rfl (AB 1 159 32 CM rfl ER rfl rfl), AP rfl rfl (DV 32 5 1 0 32 1 32 EC B7 rfl rfl rfl (by omega) (by omega) (by omega) (by omega) (by omega) 32 (by omega)), AP rfl rfl (AB 33 27 16 CM rfl B3 rfl rfl), AP rfl rfl (DV 16 5 1 0 16 33 16 B1 B7 rfl rfl rfl (by omega) (by omega) (by omega) (by omega) (by omega) 16 (by omega)), trivial⟩ rfl (BO rfl (BD 81 _ [false, true] [nb2] _ (AV _ B9 rfl) rfl (fun w1 hw1 => numN_c nb2 8 .nilIface e 8 w1 (hw1.en 1 rfl) (by unfold Szd; omega) (fun h => absurd h (by omega)) (by omega)))) ?_
 rintro v1 L1 ⟨_, ⟨rfl, nb3, sp1, cp1, rfl, hc1, hc2, hc3⟩, rfl⟩
 refine ⟨[], ?_⟩
 show DP _ _ _ _ _ _ _ _ [_, (Ez nb2 [.nilIface, Slc nb3 0 8 cp1] 149), (Ez nb3 (cu8 (numK 8 e 8) ++ sp1) 5)]
 refine C2 ⟨[3], [0, 1, 2, 4, 5, 7, 8], [0, 1, 2], [4, 5, 7, 8], [6]⟩ 6 _ rfl rfl (by decide +kernel) rfl ⟨AP rfl rfl (AB 1 159 32 CM rfl ER rfl rfl), AP rfl rfl (DV 32 5 1 0 32 1 32 EC B7 rfl rfl rfl (by omega) (by omega) (by omega) (by omega) (by omega) 32 (by omega)), AP rfl rfl (AB 33 27 16 CM rfl B3 rfl rfl), AP rfl rfl (DV 16 5 1 0 16 33 16 B1 B7 rfl rfl rfl (by omega) (by omega) (by omega) (by omega) (by omega) 16 (by omega)), trivial⟩ rfl (BO rfl (BD 82 _ [false, true, true] [nb2, nb3] _ (AV _ Tryd.call82 rfl) rfl (fun w1 hw1 => rawO_c nb2 nb3 8 cp1 40 .nilIface (numK 8 e 8) sp1 (some ⟨nb1, 1, none⟩) 32 32 d w1 (hw1.en 1 rfl) (hw1.en 2 rfl) (hw1.ne (i := 1) (j := 2) rfl rfl (by decide)) (show (numK 8 e 8).length = 8 from (AZ _ _ _)) hc1 hc2 hc3 (by omega) hd (by omega) (RdB.of hw1 (AR 0 rfl (AI (Seg.right 1 0 rfl rfl (AN _)))) (by intro _; simp only [List.mem_cons, List.not_mem_nil, or_false, not_or]; exact ⟨hw1.ne (i := 0) (j := 1) rfl rfl (by decide), hw1.ne (i := 0) (j := 2) rfl rfl (by decide)⟩)) (by omega)))) ?_
 rintro v1 L1 ⟨_, ⟨rfl, nb4, sp2, cp2, rfl, hc4, hc5, hc6⟩, rfl⟩
 refine ⟨[], ?_⟩
 show DP _ _ _ _ _ _ _ _ [_, (Ez nb2 [.nilIface, Slc nb4 0 40 cp2] 149), (Ez nb4 (cu8 ((numK 8 e 8) ++ d) ++ sp2) 5)]
 refine C2 ⟨[3, 6], [0, 1, 2, 4, 5, 7, 8], [0, 1, 2, 4, 5], [7, 8], [9]⟩ 9 _ rfl rfl (by decide +kernel) rfl ⟨AP rfl rfl (AB 33 27 16 CM rfl B3 rfl rfl), AP rfl rfl (DV 16 5 1 0 16 33 16 B1 B7 rfl rfl rfl (by omega) (by omega) (by omega) (by omega) (by omega) 16 (by omega)), trivial⟩ rfl (BO rfl (BD 82 _ [false, true, true] [nb2, nb4] _ (AV _ Tryd.call82 rfl) rfl (fun w1 hw1 => rawO_c nb2 nb4 40 cp2 56 .nilIface ((numK 8 e 8) ++ d) sp2 (some ⟨nb1, 33, none⟩) 16 16 t w1 (hw1.en 1 rfl) (hw1.en 2 rfl) (hw1.ne (i := 1) (j := 2) rfl rfl (by decide)) (show ((numK 8 e 8) ++ d).length = 40 from (by rw [List.length_append, (show (numK 8 e 8).length = 8 from (AZ _ _ _)), hd] <;> omega)) hc4 hc5 hc6 (by omega) ht (by omega) (RdB.of hw1 (AR 0 rfl (Seg.right 33 0 (by simp [hd]) rfl (AN _))) (by intro _; simp only [List.mem_cons, List.not_mem_nil, or_false, not_or]; exact ⟨hw1.ne (i := 0) (j := 1) rfl rfl (by decide), hw1.ne (i := 0) (j := 2) rfl rfl (by decide)⟩)) (by omega)))) ?_
 rintro v1 L1 ⟨_, ⟨rfl, nb5, sp3, cp3, rfl, hc7, hc8, hc9⟩, rfl⟩
 refine ⟨[], ?_⟩
 show DP _ _ _ _ _ _ _ _ [_, (Ez nb2 [.nilIface, Slc nb5 0 56 cp3] 149), (Ez nb5 (cu8 (((numK 8 e 8) ++ d) ++ t) ++ sp3) 5)]
 refine C2 ⟨[3, 6, 9], [0, 1, 2, 4, 5, 7, 8], [0, 1, 2, 4, 5, 7, 8], [], [10]⟩ 10 _ rfl rfl (by decide +kernel) rfl trivial rfl (BO rfl (C6 83 _ _ (AV _ E4 rfl) (fun w1 hw1 => F8 nb2 0 nb5 56 cp3 (((numK 8 e 8) ++ d) ++ t) w1 (RdA.of hw1 (AR 1 rfl (AN _)) (by simp)) rfl (show (((numK 8 e 8) ++ d) ++ t).length = 56 from (by rw [List.length_append, (show ((numK 8 e 8) ++ d).length = 40 from (by rw [List.length_append, (show (numK 8 e 8).length = 8 from (AZ _ _ _)), hd] <;> omega)), ht] <;> omega)) (by omega) (RdB.of hw1 (AR 2 rfl (AI (AN _))) (by simp))))) ?_
 rintro v1 L1 ⟨_, ⟨nb6, sp4, cp4, rfl, rfl, hc10, hc11, hc12⟩, rfl⟩
 refine ⟨[(11, .tuple #[Slc nb6 0 56 cp4, .nilIface]), (12, Slc nb6 0 56 cp4), (13, .nilIface), (14, Slc nb6 0 56 cp4), (15, .nilIface)], ?_⟩
 show DP _ _ _ _ _ _ _ _ [_, _, _, (Ez nb6 (cu8 (((numK 8 e 8) ++ d) ++ t) ++ sp4) 5)]
 refine DR ⟨[3, 6, 9, 10], [0, 1, 2, 4, 5, 7, 8, 11, 12, 13, 14, 15], [0, 1, 2, 4, 5, 7, 8], [11, 12, 13, 14, 15], []⟩ rfl rfl (by decide +kernel) rfl ⟨CB rfl rfl rfl, AP rfl rfl (BI rfl rfl), AP rfl rfl (BI rfl rfl), AP rfl rfl (AE rfl), AP rfl rfl (AE rfl), trivial⟩ ?_
 refine C5 (F' := [(4, Slc nb6 0 56 cp4), (5, .nilIface), (2, SL none 0 0)]) (by kernel_rfl) ?_
 refine AD (AF (AF (AC (AA _ (AG rfl) rfl ?_))))
 refine AA (.bool false) (DM _ _ _ rfl rfl (fun _ => FW ..) fun _ => FJ BG) rfl ?_
 refine AJ (AD (BT _ rfl rfl ?_))
 refine BH (AD (AF (AC (AA _ (AG rfl) rfl ?_))))
 refine AA _ (AE rfl) rfl ?_
 refine AJ (AD (BK (CD [false, false, false, true] ?_)))
 show JQ _ _ _ _ [_]
 refine BJ (Slc nb6 0 56 cp4) (res1 Tryd.results97 (BF rfl)) fun w1 hw1 => ?_
 have hq : ((numK 8 e 8) ++ d) ++ t = putL e d t := by rw [putL]
 rw [hq] at hw1
 exact ⟨_, _, rfl, ⟨nb6, sp4, cp4, rfl, rfl, hc10, hc11, hc12⟩, hw1.sub (by simp) (by simp)⟩
theorem text3_c (pv ep : UInt64) (k : Nat) (ai : Option Addr) (ni ci : Nat) (l : List UInt64) (sa : Option Addr) (ns sc : Nat) (ls : List SealR) (bl : UInt64) (tg : List UInt8)  (w : World) (hl : l.length = ni) (hnm : ni ≤ 2000000) (hnc : ni ≤ ci) (hcm : ci ≤ maxLen) (hv : RdV w ai (cu64 l)) (hls : ls.length = ns) (hnn : ns ≤ 2000000) (hnd : ns ≤ sc) (hcn : sc ≤ maxLen) (hs : RdV w sa (ls.flatMap sealC)) (htg : tg.length = 16) (hmay : mayN pv ep (k:Int) l ls bl = 0) (hk : k = 3)  : Calls Tryd.prog 114 #[.agg (V2 pv ep k ai ni ci sa ns sc bl tg).toArray] w (Post w [] (fun v L => ∃ g sp cap, v = .tuple #[Slc g 0 25 cap, .nilIface] ∧ L = [(Ez g (cu8 (tktT pv ep k l ls bl) ++ sp) 5)] ∧ sp.length = cap - 25 ∧ 25 ≤ cap ∧ cap ≤ maxLen)) := by
 have hmx : maxLen = 9223372036854775807 := rfl
 refine enter (P := Tryd.prog) (f := 114) (fn := Tryd.f114) w [] 75 [] [.agg (V2 pv ep k ai ni ci sa ns sc bl tg).toArray] Tryd.func114 rfl rfl (by simp) (BZ (by simp) (by simp) (by simp)) ?_
 show JC _ _ _ [(0, .agg (V2 pv ep k ai ni ci sa ns sc bl tg).toArray)] _
 refine AF (AC (A2 (CN (.agg (V2 pv ep k ai ni ci sa ns sc bl tg).toArray) (V2 pv ep k ai ni ci sa ns sc bl tg) rfl (by first | rfl | simp)) rfl ?_))
 rintro v1 L1 ⟨nb1, hnb1, rfl, rfl⟩
 show JL _ _ _ _ (_ :: _) [_]
 refine AA _ (AE rfl) rfl (AA _ (AE rfl) rfl ?_)
 refine AJ (AD (AF (AF (AC (AA _ (AL rfl (BR CA BB (by simp [htg]) (AR 0 rfl (AN _)))) rfl ?_)))))
 refine A7 (A3 128 _ (errV 50 (mayN pv ep ((k:Int)) l ls bl)) (AV _ Tryd.call128 rfl) (fun w1 hw1 => may13_c pv ep ((k:Int)) ai ni ci l sa ns sc ls bl tg w1 hl (by omega) (by omega) (by omega) (CF hw1 rfl hv) hls (by omega) (by omega) (by omega) (CF hw1 rfl hs) htg)) rfl ?_
 show JL _ _ _ _ ((12, errV 50 (mayN pv ep ((k:Int)) l ls bl)) :: _) [_]
 refine AA _ (AE rfl) rfl ?_
 refine AJ (AD (AF (AC (AA _ (AG rfl) rfl ?_))))
 refine AA (.bool (!(decide (mayN pv ep ((k:Int)) l ls bl = 0)))) (DM _ _ _ rfl rfl (fun _ => CE ..) fun _ => DW BG _ _) rfl ?_
 refine AJ (AD (BT _ rfl (by rw [show (decide (mayN pv ep ((k:Int)) l ls bl = 0)) = true from (decide_eq_true hmay)] <;> rfl) ?_))
 refine BH (AD (AF (AC (AA (Ptr nb1 2) (AB 2 26 4 AQ rfl BE rfl rfl) rfl ?_))))
 refine AA _ (AL rfl (BR D5 BE rfl (AR 0 rfl (DL (p := [U64 pv, U64 ep]) (q := cu8 tg) (vs := (V4 k ai ni ci sa ns sc bl)) (by first | rfl | (simp only [List.append_assoc, List.nil_append, List.append_nil, List.cons_append]; done)) rfl)))) rfl ?_
 refine A2 (C4 _ (V8) Tryd.zeroValue26 (by kernel_rfl)) rfl ?_
 rintro v1 L1 ⟨nb2, hnb2, rfl, rfl⟩
 show JL _ _ _ _ (_ :: _) [_, _]
 refine A7 (BS 1 nb2 4 _ 26 (V4 k ai ni ci sa ns sc bl) rfl rfl rfl BE rfl (by simp [Value.oneCell']) (Nat.le_of_ble_eq_true rfl) (BW (by simp []))) rfl ?_
 show JL _ _ _ _ _ [_, _]
 refine AJ (AD (AF (AC (AA (.agg #[.nilIface, SL none 0 0]) (CY [] _ rfl (fun _ => by kernel_rfl)) rfl ?_))))
 refine A2 (CN (.agg #[.nilIface, SL none 0 0]) ([.nilIface, SL none 0 0]) rfl (by first | rfl | simp)) rfl ?_
 rintro v1 L1 ⟨nb3, hnb3, rfl, rfl⟩
 show JL _ _ _ _ (_ :: _) [_, _, _]
 refine AA _ (AE rfl) rfl ?_
 refine AJ (AD (AF (DB 75 4 [(0, Ptr nb3 0), (1, Ptr nb1 0), (2, U64 pv), (4, Ptr nb1 1), (5, U64 ep), (7, Ptr nb2 0), (8, I64 k), (9, U64 (UInt64.ofNat k))] B6 rfl (by decide +kernel) ?_)))
 refine C2 ⟨[], [0, 1, 2, 4, 5, 7, 8, 9], [], [0, 1, 2, 4, 5, 7, 8, 9], [3]⟩ 3 _ rfl rfl (by decide +kernel) rfl ⟨CB rfl rfl rfl, AP rfl rfl (AB 0 22 1 AQ rfl A1 rfl rfl), AP rfl rfl (AL rfl (AX A8 (AR 0 rfl (AI (Seg.head))))), AP rfl rfl (AB 1 22 1 AQ rfl A1 rfl rfl), AP rfl rfl (AL rfl (AX A8 (AR 0 rfl (AI (AH (Seg.head)))))), AP rfl rfl (AB 0 3 1 AY rfl AW rfl rfl), AP rfl rfl (AL rfl (AX A0 (AR 1 rfl (Seg.head)))), AP rfl rfl (CV _ _ rfl fun _ => EB (by rw [A4]; rfl) AU k _ (by omega)), trivial⟩ rfl (BO rfl (BD 81 _ [false, false, true] [nb3] _ (AV _ B9 rfl) rfl (fun w1 hw1 => numN_c nb3 8 .nilIface pv 8 w1 (hw1.en 2 rfl) (by unfold Szd; omega) (fun h => absurd h (by omega)) (by omega)))) ?_
 rintro v1 L1 ⟨_, ⟨rfl, nb4, sp1, cp1, rfl, hc1, hc2, hc3⟩, rfl⟩
 refine ⟨[], ?_⟩
 show DP _ _ _ _ _ _ _ _ [_, _, (Ez nb3 [.nilIface, Slc nb4 0 8 cp1] 149), (Ez nb4 (cu8 (numK 8 pv 8) ++ sp1) 5)]
 refine C2 ⟨[3], [0, 1, 2, 4, 5, 7, 8, 9], [0, 1, 2], [4, 5, 7, 8, 9], [6]⟩ 6 _ rfl rfl (by decide +kernel) rfl ⟨AP rfl rfl (AB 1 22 1 AQ rfl A1 rfl rfl), AP rfl rfl (AL rfl (AX A8 (AR 0 rfl (AI (AH (Seg.head)))))), AP rfl rfl (AB 0 3 1 AY rfl AW rfl rfl), AP rfl rfl (AL rfl (AX A0 (AR 1 rfl (Seg.head)))), AP rfl rfl (CV _ _ rfl fun _ => EB (by rw [A4]; rfl) AU k _ (by omega)), trivial⟩ rfl (BO rfl (BD 81 _ [false, false, true, true] [nb3, nb4] _ (AV _ B9 rfl) rfl (fun w1 hw1 => E1 nb3 nb4 8 cp1 16 .nilIface (numK 8 pv 8) sp1 ep 8 w1 (hw1.en 2 rfl) (hw1.en 3 rfl) (hw1.ne (i := 2) (j := 3) rfl rfl (by decide)) (show (numK 8 pv 8).length = 8 from (AZ _ _ _)) hc1 hc2 hc3 (by omega) (by unfold Szd; omega) (fun h => absurd h (by omega)) (by omega)))) ?_
 rintro v1 L1 ⟨_, ⟨rfl, nb5, sp2, cp2, rfl, hc4, hc5, hc6⟩, rfl⟩
 refine ⟨[], ?_⟩
 show DP _ _ _ _ _ _ _ _ [_, _, (Ez nb3 [.nilIface, Slc nb5 0 16 cp2] 149), (Ez nb5 (cu8 ((numK 8 pv 8) ++ numK 8 ep 8) ++ sp2) 5)]
 refine C2 ⟨[3, 6], [0, 1, 2, 4, 5, 7, 8, 9], [0, 1, 2, 4, 5], [7, 8, 9], [10]⟩ 10 _ rfl rfl (by decide +kernel) rfl ⟨AP rfl rfl (AB 0 3 1 AY rfl AW rfl rfl), AP rfl rfl (AL rfl (AX A0 (AR 1 rfl (Seg.head)))), AP rfl rfl (CV _ _ rfl fun _ => EB (by rw [A4]; rfl) AU k _ (by omega)), trivial⟩ rfl (BO rfl (BD 81 _ [false, false, true, true] [nb3, nb5] _ (AV _ B9 rfl) rfl (fun w1 hw1 => E1 nb3 nb5 16 cp2 17 .nilIface ((numK 8 pv 8) ++ numK 8 ep 8) sp2 (UInt64.ofNat k) 1 w1 (hw1.en 2 rfl) (hw1.en 3 rfl) (hw1.ne (i := 2) (j := 3) rfl rfl (by decide)) (show ((numK 8 pv 8) ++ numK 8 ep 8).length = 16 from (by rw [List.length_append, (show (numK 8 pv 8).length = 8 from (AZ _ _ _)), AZ] <;> omega)) hc4 hc5 hc6 (by omega) (by unfold Szd; omega) (fun _ => shr8n (by omega)) (by omega)))) ?_
 rintro v1 L1 ⟨_, ⟨rfl, nb6, sp3, cp3, rfl, hc7, hc8, hc9⟩, rfl⟩
 refine ⟨[], ?_⟩
 show DP _ _ _ _ _ _ _ _ [_, _, (Ez nb3 [.nilIface, Slc nb6 0 17 cp3] 149), (Ez nb6 (cu8 (((numK 8 pv 8) ++ numK 8 ep 8) ++ numK 1 (UInt64.ofNat k) 1) ++ sp3) 5)]
 refine DR ⟨[3, 6, 10], [0, 1, 2, 4, 5, 7, 8, 9], [0, 1, 2, 4, 5, 7, 8, 9], [], []⟩ rfl rfl (by decide +kernel) rfl trivial ?_
 refine C5 (F' := [(2, SL none 0 0), (3, .nilIface), (5, Ptr nb2 0), (6, Ptr nb3 0)]) (by kernel_rfl) ?_
 refine AD (AF (AF (AC (AA (Ptr nb2 0) (AB 0 3 1 AY rfl AW rfl rfl) rfl ?_))))
 refine AA _ (AL rfl (AX A0 (AR 1 rfl (Seg.head)))) rfl ?_
 refine AA (.bool (decide (((k:Int)) = (3:Int)))) (AT rfl rfl fun _ => BP _ _) rfl ?_
 refine AJ (AD (CH _ rfl (decide_eq_true (by omega)) ?_))
 refine AF (AC (AA _ (AG rfl) rfl ?_))
 refine AA (Ptr nb2 3) (AB 3 22 1 AY rfl A1 rfl rfl) rfl (AA _ (AL rfl (AX A8 (AR 1 rfl (AH (AH (AH (Seg.head))))))) rfl ?_)
 refine A2 (BD 81 _ [false, false, true, true] [nb3, nb6] _ (AV _ B9 rfl) rfl (fun w1 hw1 => E1 nb3 nb6 17 cp3 25 .nilIface (((numK 8 pv 8) ++ numK 8 ep 8) ++ numK 1 (UInt64.ofNat k) 1) sp3 bl 8 w1 (hw1.en 2 rfl) (hw1.en 3 rfl) (hw1.ne (i := 2) (j := 3) rfl rfl (by decide)) (show (((numK 8 pv 8) ++ numK 8 ep 8) ++ numK 1 (UInt64.ofNat k) 1).length = 17 from (by rw [List.length_append, (show ((numK 8 pv 8) ++ numK 8 ep 8).length = 16 from (by rw [List.length_append, (show (numK 8 pv 8).length = 8 from (AZ _ _ _)), AZ] <;> omega)), AZ] <;> omega)) hc7 hc8 hc9 (by omega) (by unfold Szd; omega) (fun h => absurd h (by omega)) (by omega))) rfl ?_
 rintro v1 L1 ⟨_, ⟨rfl, nb7, sp4, cp4, rfl, hc10, hc11, hc12⟩, rfl⟩
 show JL _ _ _ _ ((37, Ptr nb3 0) :: _) [_, _, (Ez nb3 [.nilIface, Slc nb7 0 25 cp4] 149), (Ez nb7 (cu8 ((((numK 8 pv 8) ++ numK 8 ep 8) ++ numK 1 (UInt64.ofNat k) 1) ++ numK 8 bl 8) ++ sp4) 5)]
 refine A2 (C6 83 _ _ (AV _ E4 rfl) (fun w1 hw1 => F8 nb3 0 nb7 25 cp4 ((((numK 8 pv 8) ++ numK 8 ep 8) ++ numK 1 (UInt64.ofNat k) 1) ++ numK 8 bl 8) w1 (RdA.of hw1 (AR 2 rfl (AN _)) (by simp)) rfl (show ((((numK 8 pv 8) ++ numK 8 ep 8) ++ numK 1 (UInt64.ofNat k) 1) ++ numK 8 bl 8).length = 25 from (by rw [List.length_append, (show (((numK 8 pv 8) ++ numK 8 ep 8) ++ numK 1 (UInt64.ofNat k) 1).length = 17 from (by rw [List.length_append, (show ((numK 8 pv 8) ++ numK 8 ep 8).length = 16 from (by rw [List.length_append, (show (numK 8 pv 8).length = 8 from (AZ _ _ _)), AZ] <;> omega)), AZ] <;> omega)), AZ] <;> omega)) (by omega) (RdB.of hw1 (AR 3 rfl (AI (AN _))) (by simp)))) rfl ?_
 rintro v1 L1 ⟨_, ⟨nb8, sp5, cp5, rfl, rfl, hc13, hc14, hc15⟩, rfl⟩
 show JL _ _ _ _ ((38, .tuple #[Slc nb8 0 25 cp5, .nilIface]) :: _) [_, _, _, _, (Ez nb8 (cu8 ((((numK 8 pv 8) ++ numK 8 ep 8) ++ numK 1 (UInt64.ofNat k) 1) ++ numK 8 bl 8) ++ sp5) 5)]
 refine AA _ (BI rfl rfl) rfl (AA _ (BI rfl rfl) rfl (AA _ (AE rfl) rfl (AA _ (AE rfl) rfl ?_)))
 refine AJ (AD (BK (A6 (CD [false, false, false, false, true] ?_))))
 show JQ _ _ _ _ [_]
 refine BJ (.tuple #[Slc nb8 0 25 cp5, .nilIface]) (res2 Tryd.results114 (BF rfl) (BF rfl)) fun w1 hw1 => ?_
 have hq : (((numK 8 pv 8) ++ numK 8 ep 8) ++ numK 1 (UInt64.ofNat k) 1) ++ numK 8 bl 8 = tktT pv ep k l ls bl := by
  unfold tktT
  rw [if_pos hk]
 rw [hq] at hw1
 exact ⟨_, _, rfl, ⟨nb8, sp5, cp5, rfl, rfl, hc13, hc14, hc15⟩, hw1.sub (by simp) (by simp)⟩
theorem text12_c (pv ep : UInt64) (k : Nat) (ai : Option Addr) (ni ci : Nat) (l : List UInt64) (sa : Option Addr) (ns sc : Nat) (ls : List SealR) (bl : UInt64) (tg : List UInt8) (tot : Nat)  (w : World) (hl : l.length = ni) (hnm : ni ≤ 2000000) (hnc : ni ≤ ci) (hcm : ci ≤ maxLen) (hv : RdV w ai (cu64 l)) (hls : ls.length = ns) (hnn : ns ≤ 2000000) (hnd : ns ≤ sc) (hcn : sc ≤ maxLen) (hs : RdV w sa (ls.flatMap sealC)) (htg : tg.length = 16) (hmay : mayN pv ep (k:Int) l ls bl = 0) (hk : k = 1 ∨ k = 2) (hsm : ns ≤ 300) (htot : 18 + 4*ni + 56*ns = tot)  : Calls Tryd.prog 114 #[.agg (V2 pv ep k ai ni ci sa ns sc bl tg).toArray] w (Post w [] (fun v L => ∃ g sp cap, v = .tuple #[Slc g 0 tot cap, .nilIface] ∧ L = [(Ez g (cu8 (tktT pv ep k l ls bl) ++ sp) 5)] ∧ sp.length = cap - tot ∧ tot ≤ cap ∧ cap ≤ maxLen)) := by
 have hmx : maxLen = 9223372036854775807 := rfl
 have hRO := FZ hmay
 have hRI := RightO_idx hRO (by omega)
 have hRp := RightI_pos hRI
 rw [hl] at hRp
 refine enter (P := Tryd.prog) (f := 114) (fn := Tryd.f114) w [] 75 [] [.agg (V2 pv ep k ai ni ci sa ns sc bl tg).toArray] Tryd.func114 rfl rfl (by simp) (BZ (by simp) (by simp) (by simp)) ?_
 show JC _ _ _ [(0, .agg (V2 pv ep k ai ni ci sa ns sc bl tg).toArray)] _
 refine AF (AC (A2 (CN (.agg (V2 pv ep k ai ni ci sa ns sc bl tg).toArray) (V2 pv ep k ai ni ci sa ns sc bl tg) rfl (by first | rfl | simp)) rfl ?_))
 rintro v1 L1 ⟨nb1, hnb1, rfl, rfl⟩
 show JL _ _ _ _ (_ :: _) [_]
 refine AA _ (AE rfl) rfl (AA _ (AE rfl) rfl ?_)
 refine AJ (AD (AF (AF (AC (AA _ (AL rfl (BR CA BB (by simp [htg]) (AR 0 rfl (AN _)))) rfl ?_)))))
 refine A7 (A3 128 _ (errV 50 (mayN pv ep ((k:Int)) l ls bl)) (AV _ Tryd.call128 rfl) (fun w1 hw1 => may13_c pv ep ((k:Int)) ai ni ci l sa ns sc ls bl tg w1 hl (by omega) (by omega) (by omega) (CF hw1 rfl hv) hls (by omega) (by omega) (by omega) (CF hw1 rfl hs) htg)) rfl ?_
 show JL _ _ _ _ ((12, errV 50 (mayN pv ep ((k:Int)) l ls bl)) :: _) [_]
 refine AA _ (AE rfl) rfl ?_
 refine AJ (AD (AF (AC (AA _ (AG rfl) rfl ?_))))
 refine AA (.bool (!(decide (mayN pv ep ((k:Int)) l ls bl = 0)))) (DM _ _ _ rfl rfl (fun _ => CE ..) fun _ => DW BG _ _) rfl ?_
 refine AJ (AD (BT _ rfl (by rw [show (decide (mayN pv ep ((k:Int)) l ls bl = 0)) = true from (decide_eq_true hmay)] <;> rfl) ?_))
 refine BH (AD (AF (AC (AA (Ptr nb1 2) (AB 2 26 4 AQ rfl BE rfl rfl) rfl ?_))))
 refine AA _ (AL rfl (BR D5 BE rfl (AR 0 rfl (DL (p := [U64 pv, U64 ep]) (q := cu8 tg) (vs := (V4 k ai ni ci sa ns sc bl)) (by first | rfl | (simp only [List.append_assoc, List.nil_append, List.append_nil, List.cons_append]; done)) rfl)))) rfl ?_
 refine A2 (C4 _ (V8) Tryd.zeroValue26 (by kernel_rfl)) rfl ?_
 rintro v1 L1 ⟨nb2, hnb2, rfl, rfl⟩
 show JL _ _ _ _ (_ :: _) [_, _]
 refine A7 (BS 1 nb2 4 _ 26 (V4 k ai ni ci sa ns sc bl) rfl rfl rfl BE rfl (by simp [Value.oneCell']) (Nat.le_of_ble_eq_true rfl) (BW (by simp []))) rfl ?_
 show JL _ _ _ _ _ [_, _]
 refine AJ (AD (AF (AC (AA (.agg #[.nilIface, SL none 0 0]) (CY [] _ rfl (fun _ => by kernel_rfl)) rfl ?_))))
 refine A2 (CN (.agg #[.nilIface, SL none 0 0]) ([.nilIface, SL none 0 0]) rfl (by first | rfl | simp)) rfl ?_
 rintro v1 L1 ⟨nb3, hnb3, rfl, rfl⟩
 show JL _ _ _ _ (_ :: _) [_, _, _]
 refine AA _ (AE rfl) rfl ?_
 refine AJ (AD (AF (DB 75 4 [(0, Ptr nb3 0), (1, Ptr nb1 0), (2, U64 pv), (4, Ptr nb1 1), (5, U64 ep), (7, Ptr nb2 0), (8, I64 k), (9, U64 (UInt64.ofNat k))] B6 rfl (by decide +kernel) ?_)))
 refine C2 ⟨[], [0, 1, 2, 4, 5, 7, 8, 9], [], [0, 1, 2, 4, 5, 7, 8, 9], [3]⟩ 3 _ rfl rfl (by decide +kernel) rfl ⟨CB rfl rfl rfl, AP rfl rfl (AB 0 22 1 AQ rfl A1 rfl rfl), AP rfl rfl (AL rfl (AX A8 (AR 0 rfl (AI (Seg.head))))), AP rfl rfl (AB 1 22 1 AQ rfl A1 rfl rfl), AP rfl rfl (AL rfl (AX A8 (AR 0 rfl (AI (AH (Seg.head)))))), AP rfl rfl (AB 0 3 1 AY rfl AW rfl rfl), AP rfl rfl (AL rfl (AX A0 (AR 1 rfl (Seg.head)))), AP rfl rfl (CV _ _ rfl fun _ => EB (by rw [A4]; rfl) AU k _ (by omega)), trivial⟩ rfl (BO rfl (BD 81 _ [false, false, true] [nb3] _ (AV _ B9 rfl) rfl (fun w1 hw1 => numN_c nb3 8 .nilIface pv 8 w1 (hw1.en 2 rfl) (by unfold Szd; omega) (fun h => absurd h (by omega)) (by omega)))) ?_
 rintro v1 L1 ⟨_, ⟨rfl, nb4, sp1, cp1, rfl, hc1, hc2, hc3⟩, rfl⟩
 refine ⟨[], ?_⟩
 show DP _ _ _ _ _ _ _ _ [_, _, (Ez nb3 [.nilIface, Slc nb4 0 8 cp1] 149), (Ez nb4 (cu8 (numK 8 pv 8) ++ sp1) 5)]
 refine C2 ⟨[3], [0, 1, 2, 4, 5, 7, 8, 9], [0, 1, 2], [4, 5, 7, 8, 9], [6]⟩ 6 _ rfl rfl (by decide +kernel) rfl ⟨AP rfl rfl (AB 1 22 1 AQ rfl A1 rfl rfl), AP rfl rfl (AL rfl (AX A8 (AR 0 rfl (AI (AH (Seg.head)))))), AP rfl rfl (AB 0 3 1 AY rfl AW rfl rfl), AP rfl rfl (AL rfl (AX A0 (AR 1 rfl (Seg.head)))), AP rfl rfl (CV _ _ rfl fun _ => EB (by rw [A4]; rfl) AU k _ (by omega)), trivial⟩ rfl (BO rfl (BD 81 _ [false, false, true, true] [nb3, nb4] _ (AV _ B9 rfl) rfl (fun w1 hw1 => E1 nb3 nb4 8 cp1 16 .nilIface (numK 8 pv 8) sp1 ep 8 w1 (hw1.en 2 rfl) (hw1.en 3 rfl) (hw1.ne (i := 2) (j := 3) rfl rfl (by decide)) (show (numK 8 pv 8).length = 8 from (AZ _ _ _)) hc1 hc2 hc3 (by omega) (by unfold Szd; omega) (fun h => absurd h (by omega)) (by omega)))) ?_
 rintro v1 L1 ⟨_, ⟨rfl, nb5, sp2, cp2, rfl, hc4, hc5, hc6⟩, rfl⟩
 refine ⟨[], ?_⟩
 show DP _ _ _ _ _ _ _ _ [_, _, (Ez nb3 [.nilIface, Slc nb5 0 16 cp2] 149), (Ez nb5 (cu8 ((numK 8 pv 8) ++ numK 8 ep 8) ++ sp2) 5)]
 refine C2 ⟨[3, 6], [0, 1, 2, 4, 5, 7, 8, 9], [0, 1, 2, 4, 5], [7, 8, 9], [10]⟩ 10 _ rfl rfl (by decide +kernel) rfl ⟨AP rfl rfl (AB 0 3 1 AY rfl AW rfl rfl), AP rfl rfl (AL rfl (AX A0 (AR 1 rfl (Seg.head)))), AP rfl rfl (CV _ _ rfl fun _ => EB (by rw [A4]; rfl) AU k _ (by omega)), trivial⟩ rfl (BO rfl (BD 81 _ [false, false, true, true] [nb3, nb5] _ (AV _ B9 rfl) rfl (fun w1 hw1 => E1 nb3 nb5 16 cp2 17 .nilIface ((numK 8 pv 8) ++ numK 8 ep 8) sp2 (UInt64.ofNat k) 1 w1 (hw1.en 2 rfl) (hw1.en 3 rfl) (hw1.ne (i := 2) (j := 3) rfl rfl (by decide)) (show ((numK 8 pv 8) ++ numK 8 ep 8).length = 16 from (by rw [List.length_append, (show (numK 8 pv 8).length = 8 from (AZ _ _ _)), AZ] <;> omega)) hc4 hc5 hc6 (by omega) (by unfold Szd; omega) (fun _ => shr8n (by omega)) (by omega)))) ?_
 rintro v1 L1 ⟨_, ⟨rfl, nb6, sp3, cp3, rfl, hc7, hc8, hc9⟩, rfl⟩
 refine ⟨[], ?_⟩
 show DP _ _ _ _ _ _ _ _ [_, _, (Ez nb3 [.nilIface, Slc nb6 0 17 cp3] 149), (Ez nb6 (cu8 (((numK 8 pv 8) ++ numK 8 ep 8) ++ numK 1 (UInt64.ofNat k) 1) ++ sp3) 5)]
 refine DR ⟨[3, 6, 10], [0, 1, 2, 4, 5, 7, 8, 9], [0, 1, 2, 4, 5, 7, 8, 9], [], []⟩ rfl rfl (by decide +kernel) rfl trivial ?_
 refine C5 (F' := [(2, SL none 0 0), (3, .nilIface), (5, Ptr nb2 0), (6, Ptr nb3 0)]) (by kernel_rfl) ?_
 refine AD (AF (AF (AC (AA (Ptr nb2 0) (AB 0 3 1 AY rfl AW rfl rfl) rfl ?_))))
 refine AA _ (AL rfl (AX A0 (AR 1 rfl (Seg.head)))) rfl ?_
 refine AA (.bool (decide (((k:Int)) = (3:Int)))) (AT rfl rfl fun _ => BP _ _) rfl ?_
 refine AJ (AD (BT _ rfl (decide_eq_false (by omega)) ?_))
 refine BH (AD (AF (AC (AA _ (AG rfl) rfl ?_))))
 refine AA (Ptr nb2 1) (AB 1 23 1 AY rfl BV rfl rfl) rfl (AA _ (AL rfl (AX B4 (AR 1 rfl (AH (Seg.head))))) rfl ?_)
 refine AA (I64 ni) (DA BL rfl) rfl ?_
 refine AA (I64 ((ni:Int) - 1)) (AT rfl rfl fun _ => E7 _ _ ((ni:Int) - 1) (by omega) (by omega)) rfl ?_
 refine AA (U64 (UInt64.ofNat (ni - 1))) (CV _ _ rfl fun _ => EB (by rw [A4]; rfl) AU (ni - 1) _ (by omega)) rfl ?_
 refine A2 (BD 81 _ [false, false, true, true] [nb3, nb6] _ (AV _ B9 rfl) rfl (fun w1 hw1 => E1 nb3 nb6 17 cp3 18 .nilIface (((numK 8 pv 8) ++ numK 8 ep 8) ++ numK 1 (UInt64.ofNat k) 1) sp3 (UInt64.ofNat (ni - 1)) 1 w1 (hw1.en 2 rfl) (hw1.en 3 rfl) (hw1.ne (i := 2) (j := 3) rfl rfl (by decide)) (show (((numK 8 pv 8) ++ numK 8 ep 8) ++ numK 1 (UInt64.ofNat k) 1).length = 17 from (by rw [List.length_append, (show ((numK 8 pv 8) ++ numK 8 ep 8).length = 16 from (by rw [List.length_append, (show (numK 8 pv 8).length = 8 from (AZ _ _ _)), AZ] <;> omega)), AZ] <;> omega)) hc7 hc8 hc9 (by omega) (by unfold Szd; omega) (fun _ => shr8n (by omega)) (by omega))) rfl ?_
 rintro v1 L1 ⟨_, ⟨rfl, nb7, sp4, cp4, rfl, hc10, hc11, hc12⟩, rfl⟩
 show JL _ _ _ _ ((47, Ptr nb3 0) :: _) [_, _, (Ez nb3 [.nilIface, Slc nb7 0 18 cp4] 149), (Ez nb7 (cu8 ((((numK 8 pv 8) ++ numK 8 ep 8) ++ numK 1 (UInt64.ofNat k) 1) ++ numK 1 (UInt64.ofNat (ni - 1)) 1) ++ sp4) 5)]
 refine AJ (AD (AF (AF (AC (AA (Ptr nb2 1) (AB 1 23 1 AY rfl BV rfl rfl) rfl ?_)))))
 refine AA _ (AL rfl (AX B4 (AR 1 rfl (AH (Seg.head))))) rfl ?_
 refine AA (I64 ni) (DA BL rfl) rfl (AA _ (AG rfl) rfl ?_)
 refine AJ (AD (B5 ?_))
 skip
 refine CD [false, true, true, true] ?_
 show JC _ _ _ _ [_, _, _]
 refine EO (ι := Nat × List UInt8 × Nat × List Value × Nat) (fun ⟨i, oqi, gqi, spqi, cpqi⟩ => [(2, SL none 0 0), (3, .nilIface), (5, Ptr nb2 0), (6, Ptr nb3 0), (49, SL ai ni ci), (50, I64 ni), (51, I64 i)]) (fun ⟨i, oqi, gqi, spqi, cpqi⟩ => [(Ez nb2 (V4 k ai ni ci sa ns sc bl) 26), (Ez nb3 [.nilIface, Slc gqi 0 (4*i + 18) cpqi] 149), (Ez gqi (cu8 oqi ++ spqi) 5)]) (fun ⟨i, oqi, gqi, spqi, cpqi⟩ => i ≤ ni ∧ oqi = (((numK 8 pv 8 ++ numK 8 ep 8) ++ numK 1 (UInt64.ofNat k) 1) ++ numK 1 (UInt64.ofNat (ni - 1)) 1) ++ idxT l i ∧ oqi.length = (4*i + 18) ∧ spqi.length = cpqi - ((4*i + 18)) ∧ (4*i + 18) ≤ cpqi ∧ cpqi ≤ maxLen) (fun ⟨i, oqi, gqi, spqi, cpqi⟩ => ni - i) (0, (((numK 8 pv 8) ++ numK 8 ep 8) ++ numK 1 (UInt64.ofNat k) 1) ++ numK 1 (UInt64.ofNat (ni - 1)) 1, nb7, sp4, cp4) ⟨by omega, by rw [idxT_zero, List.append_nil], (by have h := (show ((((numK 8 pv 8) ++ numK 8 ep 8) ++ numK 1 (UInt64.ofNat k) 1) ++ numK 1 (UInt64.ofNat (ni - 1)) 1).length = 18 from (by rw [List.length_append, (show (((numK 8 pv 8) ++ numK 8 ep 8) ++ numK 1 (UInt64.ofNat k) 1).length = 17 from (by rw [List.length_append, (show ((numK 8 pv 8) ++ numK 8 ep 8).length = 16 from (by rw [List.length_append, (show (numK 8 pv 8).length = 8 from (AZ _ _ _)), AZ] <;> omega)), AZ] <;> omega)), AZ] <;> omega)); omega), (by have h := hc10; omega), by omega, by omega⟩ (Sub.all rfl) (by first | rfl | (simp; done)) ?_
 rintro ⟨i, oqi, gqi, spqi, cpqi⟩ ⟨hi1, hi2, hi3, hi4, hi5, hi6⟩
 show JC _ _ _ [_, _, _, _, _, _, _] [_, _, _]
 refine AF (AC (AA (.bool (decide (((i:Int)) < ((ni:Int))))) (AT rfl rfl fun _ => CL _ _) rfl ?_))
 refine AJ (AD (AF (CC (decide (((i:Int)) < ((ni:Int)))) rfl (fun hb1 => ?_) (fun hb1 => ?_))))
 ·
  have hp1 : ((i:Int)) < ((ni:Int)) := of_decide_eq_true hb1
  refine BH (AD (AF (B5 (AF (AC ?_)))))
  obtain ⟨bz1, oz1, hz1, hm1⟩ := RdV.pos hv (by rw [FS, hl]; omega)
  refine AA (Ptr bz1 (i + oz1)) (DI 22 1 (i + oz1) BL A1 rfl hz1 rfl (by omega) (by omega) (by omega)) rfl (AA _ (AL rfl (AX A8 (C9 (hm1.mem (by simp)) (Seg.get (g64_get (i := i) (by rw [hl]; omega))) (by first | omega | (simp; done) | (simp; omega))))) rfl ?_)
  refine AA _ (AE rfl) rfl ?_
  refine AJ (AD (AC (AA _ (AG rfl) rfl ?_)))
  refine AA _ (AG rfl) rfl ?_
  refine A2 (BD 81 _ [false, true, true] [nb3, gqi] _ (AV _ B9 rfl) rfl (fun w1 hw1 => E1 nb3 gqi (4*i + 18) cpqi (4*i + 22) .nilIface oqi spqi (g64 l i) 4 w1 (hw1.en 1 rfl) (hw1.en 2 rfl) (hw1.ne (i := 1) (j := 2) rfl rfl (by decide)) hi3 hi4 hi5 hi6 (by omega) (by unfold Szd; omega) (fun _ => idx_fit hRI (by omega)) (by omega))) rfl ?_
  rintro v1 L1 ⟨_, ⟨rfl, nb8, sp5, cp5, rfl, hc13, hc14, hc15⟩, rfl⟩
  show JL _ _ _ _ ((57, Ptr nb3 0) :: _) [_, (Ez nb3 [.nilIface, Slc nb8 0 (4*i + 22) cp5] 149), (Ez nb8 (cu8 (oqi ++ numK 4 (g64 l i) 4) ++ sp5) 5)]
  refine AJ (BU (AD (AC (AA (I64 ((i:Int) + 1)) (AT rfl rfl fun _ => DK _ _ ((i:Int) + 1) (by omega) (by omega)) rfl ?_))))
  refine AA _ (AG rfl) rfl ?_
  refine AJ (DU (EZ (i + 1, oqi ++ numK 4 (g64 l i) 4, nb8, sp5, cp5) ⟨by omega, by rw [hi2, idxT_succ, List.append_assoc], (by have h := (show (oqi ++ numK 4 (g64 l i) 4).length = (4*i + 22) from (by rw [List.length_append, hi3, AZ] <;> omega)); omega), (by have h := hc13; omega), by omega, by omega⟩ (by first | (simp; omega) | simp | (dsimp only; omega) | omega) (Sub.all rfl) (by first | rfl | rw [show (4*i + 22) = (4*(i + 1) + 18) by omega])))
 ·
  have hp1 : ¬ (((i:Int)) < ((ni:Int))) := of_decide_eq_false hb1
  refine EF (BC (BC (CX (AD (AF (AF (AC (AA (Ptr nb2 2) (AB 2 24 1 AY rfl DG rfl rfl) rfl ?_))))))))
  refine AA _ (AL rfl (AX D6 (AR 0 rfl (AH (AH (Seg.head)))))) rfl ?_
  refine AA (I64 ns) (DA CK rfl) rfl (AA _ (AG rfl) rfl ?_)
  refine AJ (AD (B5 ?_))
  have ei : ni = i := by omega
  subst ei
  show JC _ _ _ _ [(Ez nb2 (V4 k ai ni ci sa ns sc bl) 26), (Ez nb3 [.nilIface, Slc gqi 0 (4*ni + 18) cpqi] 149), (Ez gqi (cu8 oqi ++ spqi) 5)]
  refine CD [false, true, true] ?_
  show JC _ _ _ _ [_, _]
  refine EO (ι := Nat × List UInt8 × Nat × List Value × Nat) (fun ⟨j, oqj, gqj, spqj, cpqj⟩ => [(2, SL none 0 0), (3, .nilIface), (6, Ptr nb3 0), (60, SL sa ns sc), (61, I64 ns), (62, I64 j)]) (fun ⟨j, oqj, gqj, spqj, cpqj⟩ => [(Ez nb3 [.nilIface, Slc gqj 0 (56*j + 4*ni + 18) cpqj] 149), (Ez gqj (cu8 oqj ++ spqj) 5)]) (fun ⟨j, oqj, gqj, spqj, cpqj⟩ => j ≤ ns ∧ oqj = ((((numK 8 pv 8 ++ numK 8 ep 8) ++ numK 1 (UInt64.ofNat k) 1) ++ numK 1 (UInt64.ofNat (ni - 1)) 1) ++ idxT l ni) ++ selT (ls.take j) ∧ oqj.length = (56*j + 4*ni + 18) ∧ spqj.length = cpqj - ((56*j + 4*ni + 18)) ∧ (56*j + 4*ni + 18) ≤ cpqj ∧ cpqj ≤ maxLen) (fun ⟨j, oqj, gqj, spqj, cpqj⟩ => ns - j) (0, oqi, gqi, spqi, cpqi) ⟨by omega, by rw [hi2]; simp [selT_nil], (by have h := hi3; omega), (by have h := hi4; omega), by omega, by omega⟩ (Sub.all rfl) (by first | rfl | (simp; done)) ?_
  rintro ⟨j, oqj, gqj, spqj, cpqj⟩ ⟨hj1, hj2, hj3, hj4, hj5, hj6⟩
  show JC _ _ _ [_, _, _, _, _, _] [_, _]
  refine AF (AC (AA (.bool (decide (((j:Int)) < ((ns:Int))))) (AT rfl rfl fun _ => CL _ _) rfl ?_))
  refine AJ (AD (AF (CC (decide (((j:Int)) < ((ns:Int)))) rfl (fun hb2 => ?_) (fun hb2 => ?_))))
  ·
   have hp2 : ((j:Int)) < ((ns:Int)) := of_decide_eq_true hb2
   refine BH (AD (AF (B5 (AF (AC ?_)))))
   obtain ⟨x1, hx1⟩ : ∃ x, ls[j]? = some x := ⟨_, List.getElem?_eq_getElem (by rw [hls]; omega)⟩
   obtain ⟨bz2, oz2, hz2, hm2⟩ := F6 FH (by decide) hs hx1
   refine AA (Ptr bz2 (49*j + oz2)) (DI 161 49 (49*j + oz2) CK BY rfl hz2 rfl (by omega) (by omega) (by omega)) rfl ?_
   refine AA (.agg ([U64 x1.e] ++ cu8 x1.d ++ cu8 x1.t).toArray) (AL rfl (BR DN BY (by simp [x1.hd, x1.ht]) (C9 (hm2.mem (by simp)) (AN _) (by first | omega | (simp; done) | (simp; omega))))) rfl ?_
   refine A2 (C4 _ ([U64 0] ++ cu8 (zr8 32) ++ cu8 (zr8 16)) Tryd.zeroValue161 (by kernel_rfl)) rfl ?_
   rintro v1 L1 ⟨nb9, hnb9, rfl, rfl⟩
   show JL _ _ _ _ (_ :: _) [_, _, _]
   refine A7 (BS 2 nb9 49 _ 161 ([U64 x1.e] ++ cu8 x1.d ++ cu8 x1.t) rfl rfl rfl BY (by simp [x1.hd, x1.ht]) (B0 (B0 (by simp [Value.oneCell']) CZ) CZ) (by simp [(AO 32), (AO 16)]) (BW (by simp [(AO 32), (AO 16), x1.hd, x1.ht]))) rfl ?_
   show JL _ _ _ _ _ [_, _, _]
   refine AJ (AD (AC (AA _ (AG rfl) rfl ?_)))
   refine AA _ (AL rfl (BR DN BY (by simp [x1.hd, x1.ht]) (AR 2 rfl (AN _)))) rfl ?_
   refine A2 (C6 97 _ _ (AV _ Tryd.call97 rfl) (fun w1 hw1 => put7_c x1.e x1.d x1.t w1 x1.hd x1.ht)) rfl ?_
   rintro v1 L1 ⟨_, ⟨nb10, sp6, cp6, rfl, rfl, hc16, hc17, hc18⟩, rfl⟩
   show JL _ _ _ _ ((68, Slc nb10 0 56 cp6) :: _) [_, _, _, (Ez nb10 (cu8 (putL x1.e x1.d x1.t) ++ sp6) 5)]
   refine A2 (BD 82 _ [true, true, false, false] [nb3, gqj] _ (AV _ Tryd.call82 rfl) rfl (fun w1 hw1 => rawO_c nb3 gqj (56*j + 4*ni + 18) cpqj (56*j + 4*ni + 74) .nilIface oqj spqj (some ⟨nb10, 0, none⟩) 56 cp6 (putL x1.e x1.d x1.t) w1 (hw1.en 0 rfl) (hw1.en 1 rfl) (hw1.ne (i := 0) (j := 1) rfl rfl (by decide)) hj3 hj4 hj5 hj6 (by omega) (show (putL x1.e x1.d x1.t).length = 56 from (putL_len x1.hd x1.ht)) (by omega) (RdB.of hw1 (AR 3 rfl (AI (AN _))) (by intro _; simp only [List.mem_cons, List.not_mem_nil, or_false, not_or]; exact ⟨hw1.ne (i := 3) (j := 0) rfl rfl (by decide), hw1.ne (i := 3) (j := 1) rfl rfl (by decide)⟩)) (by omega))) rfl ?_
   rintro v1 L1 ⟨_, ⟨rfl, nb11, sp7, cp7, rfl, hc19, hc20, hc21⟩, rfl⟩
   show JL _ _ _ _ ((69, Ptr nb3 0) :: _) [_, _, (Ez nb3 [.nilIface, Slc nb11 0 (56*j + 4*ni + 74) cp7] 149), (Ez nb11 (cu8 (oqj ++ (putL x1.e x1.d x1.t)) ++ sp7) 5)]
   refine AJ (BU (AD (AC (AA (I64 ((j:Int) + 1)) (AT rfl rfl fun _ => DK _ _ ((j:Int) + 1) (by omega) (by omega)) rfl ?_))))
   refine AA _ (AG rfl) rfl ?_
   refine AJ (DU (CD [false, false, true, true] ?_))
   show K _ _ [_, _] _
   refine EZ (j + 1, oqj ++ (putL x1.e x1.d x1.t), nb11, sp7, cp7) ⟨by omega, by rw [hj2, ← take_step hx1, selT_app, List.append_assoc], (by have h := (show (oqj ++ (putL x1.e x1.d x1.t)).length = (56*j + 4*ni + 74) from (by rw [List.length_append, hj3, (show (putL x1.e x1.d x1.t).length = 56 from (putL_len x1.hd x1.ht))] <;> omega)); omega), (by have h := hc19; omega), by omega, by omega⟩ (by first | (simp; omega) | simp | (dsimp only; omega) | omega) (Sub.all rfl) (by first | rfl | rw [show (56*j + 4*ni + 74) = (56*(j + 1) + 4*ni + 18) by omega])
  ·
   have hp2 : ¬ (((j:Int)) < ((ns:Int))) := of_decide_eq_false hb2
   refine EF (BC (BC (CX (AD (AF (AC (AA _ (AG rfl) rfl ?_)))))))
   refine A2 (C6 83 _ _ (AV _ E4 rfl) (fun w1 hw1 => F8 nb3 0 gqj (56*j + 4*ni + 18) cpqj oqj w1 (RdA.of hw1 (AR 0 rfl (AN _)) (by simp)) rfl hj3 (by omega) (RdB.of hw1 (AR 1 rfl (AI (AN _))) (by simp)))) rfl ?_
   rintro v1 L1 ⟨_, ⟨nb12, sp8, cp8, rfl, rfl, hc22, hc23, hc24⟩, rfl⟩
   show JL _ _ _ _ ((72, .tuple #[Slc nb12 0 (56*j + 4*ni + 18) cp8, .nilIface]) :: _) [_, _, (Ez nb12 (cu8 oqj ++ sp8) 5)]
   refine AA _ (BI rfl rfl) rfl (AA _ (BI rfl rfl) rfl (AA _ (AE rfl) rfl (AA _ (AE rfl) rfl ?_)))
   refine AJ (AD (BK (CD [false, false, true] ?_)))
   show JQ _ _ _ _ [_]
   refine BJ (.tuple #[Slc nb12 0 (56*j + 4*ni + 18) cp8, .nilIface]) (res2 Tryd.results114 (BF rfl) (BF rfl)) fun w1 hw1 => ?_
   obtain rfl : j = ns := by omega
   have hq : oqj = tktT pv ep k l ls bl := by
    unfold tktT
    rw [if_neg (by omega), hl, hj2, List.take_of_length_le (by omega)]
   rw [hq] at hw1
   obtain rfl : tot = (56*j + 4*ni + 18) := by omega
   exact ⟨_, _, rfl, ⟨nb12, sp8, cp8, rfl, rfl, hc22, hc23, hc24⟩, hw1.sub (by simp) (by simp)⟩
attribute [local irreducible] tktT mayN idxT selT
theorem text_w (pv ep : UInt64) (k : Nat) (ai : Option Addr) (ni ci : Nat) (l : List UInt64) (sa : Option Addr) (ns sc : Nat) (ls : List SealR) (bl : UInt64) (tg : List UInt8) (tot : Nat) (w : World) (hl : l.length = ni) (hnm : ni ≤ 2000000) (hnc : ni ≤ ci) (hcm : ci ≤ maxLen) (hv : RdV w ai (cu64 l)) (hls : ls.length = ns) (hnn : ns ≤ 2000000) (hnd : ns ≤ sc) (hcn : sc ≤ maxLen) (hs : RdV w sa (ls.flatMap sealC)) (htg : tg.length = 16) (hmay : mayN pv ep (k:Int) l ls bl = 0) (hk : k = 1 ∨ k = 2 ∨ k = 3) (hsm : ns ≤ 300) (htot : tktN k ni ns = tot) : Calls Tryd.prog 114 #[.agg (V2 pv ep k ai ni ci sa ns sc bl tg).toArray] w (Post w [] (fun v L => ∃ g sp cap, v = .tuple #[Slc g 0 tot cap, .nilIface] ∧ L = [(Ez g (cu8 (tktT pv ep k l ls bl) ++ sp) 5)] ∧ sp.length = cap - tot ∧ tot ≤ cap ∧ cap ≤ maxLen)) := by
  by_cases h3 : k = 3
  · have e : tot = 25 := by rw [← htot]; unfold tktN; rw [if_pos h3]
    subst e
    exact text3_c pv ep k ai ni ci l sa ns sc ls bl tg w hl hnm hnc hcm hv hls hnn hnd hcn hs htg hmay h3
  · exact text12_c pv ep k ai ni ci l sa ns sc ls bl tg tot w hl hnm hnc hcm hv hls hnn hnd hcn hs htg hmay (by omega) hsm (by rw [← htot]; unfold tktN; rw [if_neg h3])
theorem textB_c (pv ep : UInt64) (kd : Int) (ai : Option Addr) (ni ci : Nat) (l : List UInt64) (sa : Option Addr) (ns sc : Nat) (ls : List SealR) (bl : UInt64) (tg : List UInt8)  (w : World) (hl : l.length = ni) (hnm : ni ≤ 2000000) (hnc : ni ≤ ci) (hcm : ci ≤ maxLen) (hv : RdV w ai (cu64 l)) (hls : ls.length = ns) (hnn : ns ≤ 2000000) (hnd : ns ≤ sc) (hcn : sc ≤ maxLen) (hs : RdV w sa (ls.flatMap sealC)) (htg : tg.length = 16) (hm : mayN pv ep kd l ls bl ≠ 0)  : Calls Tryd.prog 114 #[.agg (V2 pv ep (kd) ai ni ci sa ns sc bl tg).toArray] w (Post w [] (fun v L => v = .tuple #[SL none 0 0, errV 50 (mayN pv ep kd l ls bl)] ∧ L = [])) := by
 have hmx : maxLen = 9223372036854775807 := rfl
 refine enter (P := Tryd.prog) (f := 114) (fn := Tryd.f114) w [] 75 [] [.agg (V2 pv ep (kd) ai ni ci sa ns sc bl tg).toArray] Tryd.func114 rfl rfl (by simp) (BZ (by simp) (by simp) (by simp)) ?_
 show JC _ _ _ [(0, .agg (V2 pv ep (kd) ai ni ci sa ns sc bl tg).toArray)] _
 refine AF (AC (A2 (CN (.agg (V2 pv ep (kd) ai ni ci sa ns sc bl tg).toArray) (V2 pv ep (kd) ai ni ci sa ns sc bl tg) rfl (by first | rfl | simp)) rfl ?_))
 rintro v1 L1 ⟨nb1, hnb1, rfl, rfl⟩
 show JL _ _ _ _ (_ :: _) [_]
 refine AA _ (AE rfl) rfl (AA _ (AE rfl) rfl ?_)
 refine AJ (AD (AF (AF (AC (AA _ (AL rfl (BR CA BB (by simp [htg]) (AR 0 rfl (AN _)))) rfl ?_)))))
 refine A7 (A3 128 _ (errV 50 (mayN pv ep (kd) l ls bl)) (AV _ Tryd.call128 rfl) (fun w1 hw1 => may13_c pv ep (kd) ai ni ci l sa ns sc ls bl tg w1 hl (by omega) (by omega) (by omega) (CF hw1 rfl hv) hls (by omega) (by omega) (by omega) (CF hw1 rfl hs) htg)) rfl ?_
 show JL _ _ _ _ ((12, errV 50 (mayN pv ep (kd) l ls bl)) :: _) [_]
 refine AA _ (AE rfl) rfl ?_
 refine AJ (AD (AF (AC (AA _ (AG rfl) rfl ?_))))
 refine AA (.bool (!(decide (mayN pv ep (kd) l ls bl = 0)))) (DM _ _ _ rfl rfl (fun _ => CE ..) fun _ => DW BG _ _) rfl ?_
 refine AJ (AD (CH _ rfl (by rw [show (decide (mayN pv ep (kd) l ls bl = 0)) = false from (decide_eq_false hm)] <;> rfl) ?_))
 refine AF (AC (AA _ (AG rfl) rfl ?_))
 refine AA _ (AE rfl) rfl (AA _ (AE rfl) rfl ?_)
 refine AJ (AD (BK (A6 (CD [false] ?_))))
 show JQ _ _ _ _ []
 refine BJ (.tuple #[SL none 0 0, errV 50 (mayN pv ep (kd) l ls bl)]) (res2 Tryd.results114 (BF rfl) (BF rfl)) fun w1 hw1 => ?_
 exact ⟨_, [], rfl, ⟨rfl, rfl⟩, hw1.no⟩
theorem put13_c (pv ep : UInt64) (k : Nat) (ai : Option Addr) (ni ci : Nat) (l : List UInt64) (sa : Option Addr) (ns sc : Nat) (ls : List SealR) (bl : UInt64) (tg : List UInt8) (tot : Nat)  (w : World) (hl : l.length = ni) (hnm : ni ≤ 2000000) (hnc : ni ≤ ci) (hcm : ci ≤ maxLen) (hv : RdV w ai (cu64 l)) (hls : ls.length = ns) (hnn : ns ≤ 2000000) (hnd : ns ≤ sc) (hcn : sc ≤ maxLen) (hs : RdV w sa (ls.flatMap sealC)) (htg : tg.length = 16) (hmay : mayN pv ep (k:Int) l ls bl = 0) (hk : k = 1 ∨ k = 2 ∨ k = 3) (hsm : ns ≤ 300) (htot : tktN k ni ns = tot) (htb : tot ≤ 30000)  : Calls Tryd.prog 47 #[.agg (V2 pv ep k ai ni ci sa ns sc bl tg).toArray] w (Post w [] (fun v L => ∃ g sp cap, v = .tuple #[Slc g 0 (tot + 16) cap, .nilIface] ∧ L = [(Ez g (cu8 ((tktT pv ep k l ls bl) ++ tg) ++ sp) 5)] ∧ sp.length = cap - (tot + 16) ∧ (tot + 16) ≤ cap ∧ cap ≤ maxLen)) := by
 have hmx : maxLen = 9223372036854775807 := rfl
 refine enter (P := Tryd.prog) (f := 47) (fn := Tryd.f47) w [] 18 [] [.agg (V2 pv ep k ai ni ci sa ns sc bl tg).toArray] Tryd.func47 rfl rfl (by simp) (BZ (by simp) (by simp) (by simp)) ?_
 show JC _ _ _ [(0, .agg (V2 pv ep k ai ni ci sa ns sc bl tg).toArray)] _
 refine AF (AC (A2 (CN (.agg (V2 pv ep k ai ni ci sa ns sc bl tg).toArray) (V2 pv ep k ai ni ci sa ns sc bl tg) rfl (by first | rfl | simp)) rfl ?_))
 rintro v1 L1 ⟨nb1, hnb1, rfl, rfl⟩
 show JL _ _ _ _ (_ :: _) [_]
 refine AA _ (AE rfl) rfl (AA _ (AE rfl) rfl ?_)
 refine AJ (AD (AF (AC (AA _ (AL rfl (BR CA BB (by simp [htg]) (AR 0 rfl (AN _)))) rfl ?_))))
 refine A2 (C6 114 _ _ (AV _ Tryd.call114 rfl) (fun w1 hw1 => text_w pv ep k ai ni ci l sa ns sc ls bl tg tot w1 hl (by omega) (by omega) (by omega) (CF hw1 rfl hv) hls (by omega) (by omega) (by omega) (CF hw1 rfl hs) htg hmay hk hsm htot)) rfl ?_
 rintro v1 L1 ⟨_, ⟨nb2, sp1, cp1, rfl, rfl, hc1, hc2, hc3⟩, rfl⟩
 show JL _ _ _ _ ((8, .tuple #[Slc nb2 0 tot cp1, .nilIface]) :: _) [_, (Ez nb2 (cu8 (tktT pv ep k l ls bl) ++ sp1) 5)]
 refine AA _ (AG rfl) rfl (AA _ (BI rfl rfl) rfl (AA _ (BI rfl rfl) rfl (AA _ (AE rfl) rfl (AA _ (AE rfl) rfl ?_))))
 refine AJ (AD (AF (AF (AC (AA _ (AG rfl) rfl ?_)))))
 refine AA (.bool false) (DM _ _ _ rfl rfl (fun _ => FW ..) fun _ => FJ BG) rfl ?_
 refine AJ (AD (BT _ rfl rfl ?_))
 refine BH (AD (AF (AC (AA _ (AG rfl) rfl ?_))))
 refine AA (Ptr nb1 6) (AB 6 27 16 AQ rfl B3 rfl rfl) rfl ?_
 refine AA (Slc nb1 6 16 16) (DV 16 5 1 0 16 6 16 B1 B7 rfl rfl rfl (by omega) (by omega) (by omega) (by omega) (by omega) 16 (by omega)) rfl ?_
 refine A2 (F2 43 5 [false, true] (Slc nb2 0 tot cp1) tot (tktT pv ep k l ls bl) tg (some ⟨nb1, 6, none⟩) 16 16 (tot + 16) BM F1 rfl (.inr ⟨nb2, sp1, cp1, rfl, rfl, (by first | exact (show (tktT pv ep k l ls bl).length = tot from ((FM hl hls).trans htot)) | simp [(show (tktT pv ep k l ls bl).length = tot from ((FM hl hls).trans htot))]), hc1, (by omega), (by omega)⟩) rfl (by first | exact htg | simp [htg]; try omega) (SrcAt.mem (AR 0 rfl (Seg.right 6 0 rfl rfl (AN _)))) (by omega) (by unfold maxLen; omega) (by omega)) rfl ?_
 rintro v1 L1 ⟨nb3, sp2, cp2, hg1, rfl, rfl, ha1, ha2, ha3, ha4⟩
 show JL _ _ _ _ ((17, Slc nb3 0 (tot + 16) cp2) :: _) [_, (Ez nb3 (cu8 ((tktT pv ep k l ls bl) ++ tg) ++ sp2) 5)]
 refine AA _ (AE rfl) rfl (AA _ (AE rfl) rfl ?_)
 refine AJ (AD (BK (CD [false, true] ?_)))
 show JQ _ _ _ _ [_]
 refine BJ (.tuple #[Slc nb3 0 (tot + 16) cp2, .nilIface]) (res2 Tryd.results47 (BF rfl) (BF rfl)) fun w1 hw1 => ?_
 exact ⟨_, _, rfl, ⟨nb3, sp2, cp2, rfl, rfl, ha2, ha3, ha4⟩, hw1.sub (by simp) (by simp)⟩
theorem putB_c (pv ep : UInt64) (kd : Int) (ai : Option Addr) (ni ci : Nat) (l : List UInt64) (sa : Option Addr) (ns sc : Nat) (ls : List SealR) (bl : UInt64) (tg : List UInt8)  (w : World) (hl : l.length = ni) (hnm : ni ≤ 2000000) (hnc : ni ≤ ci) (hcm : ci ≤ maxLen) (hv : RdV w ai (cu64 l)) (hls : ls.length = ns) (hnn : ns ≤ 2000000) (hnd : ns ≤ sc) (hcn : sc ≤ maxLen) (hs : RdV w sa (ls.flatMap sealC)) (htg : tg.length = 16) (hm : mayN pv ep kd l ls bl ≠ 0)  : Calls Tryd.prog 47 #[.agg (V2 pv ep (kd) ai ni ci sa ns sc bl tg).toArray] w (Post w [] (fun v L => v = .tuple #[SL none 0 0, errV 50 (mayN pv ep kd l ls bl)] ∧ L = [])) := by
 have hmx : maxLen = 9223372036854775807 := rfl
 refine enter (P := Tryd.prog) (f := 47) (fn := Tryd.f47) w [] 18 [] [.agg (V2 pv ep (kd) ai ni ci sa ns sc bl tg).toArray] Tryd.func47 rfl rfl (by simp) (BZ (by simp) (by simp) (by simp)) ?_
 show JC _ _ _ [(0, .agg (V2 pv ep (kd) ai ni ci sa ns sc bl tg).toArray)] _
 refine AF (AC (A2 (CN (.agg (V2 pv ep (kd) ai ni ci sa ns sc bl tg).toArray) (V2 pv ep (kd) ai ni ci sa ns sc bl tg) rfl (by first | rfl | simp)) rfl ?_))
 rintro v1 L1 ⟨nb1, hnb1, rfl, rfl⟩
 show JL _ _ _ _ (_ :: _) [_]
 refine AA _ (AE rfl) rfl (AA _ (AE rfl) rfl ?_)
 refine AJ (AD (AF (AC (AA _ (AL rfl (BR CA BB (by simp [htg]) (AR 0 rfl (AN _)))) rfl ?_))))
 refine A7 (A3 114 _ (.tuple #[SL none 0 0, errV 50 (mayN pv ep (kd) l ls bl)]) (AV _ Tryd.call114 rfl) (fun w1 hw1 => textB_c pv ep (kd) ai ni ci l sa ns sc ls bl tg w1 hl (by omega) (by omega) (by omega) (CF hw1 rfl hv) hls (by omega) (by omega) (by omega) (CF hw1 rfl hs) htg hm)) rfl ?_
 show JL _ _ _ _ ((8, .tuple #[SL none 0 0, errV 50 (mayN pv ep (kd) l ls bl)]) :: _) [_]
 refine AA _ (AG rfl) rfl (AA _ (BI rfl rfl) rfl (AA _ (BI rfl rfl) rfl (AA _ (AE rfl) rfl (AA _ (AE rfl) rfl ?_))))
 refine AJ (AD (AF (AF (AC (AA _ (AG rfl) rfl ?_)))))
 refine AA (.bool (!(decide (mayN pv ep (kd) l ls bl = 0)))) (DM _ _ _ rfl rfl (fun _ => CE ..) fun _ => DW BG _ _) rfl ?_
 refine AJ (AD (CH _ rfl (by rw [show (decide (mayN pv ep (kd) l ls bl = 0)) = false from (decide_eq_false hm)] <;> rfl) ?_))
 refine AF (AC (AA _ (AG rfl) rfl ?_))
 refine AA _ (AE rfl) rfl (AA _ (AE rfl) rfl ?_)
 refine AJ (AD (BK (A6 (CD [false] ?_))))
 show JQ _ _ _ _ []
 refine BJ (.tuple #[SL none 0 0, errV 50 (mayN pv ep (kd) l ls bl)]) (res2 Tryd.results47 (BF rfl) (BF rfl)) fun w1 hw1 => ?_
 exact ⟨_, [], rfl, ⟨rfl, rfl⟩, hw1.no⟩
theorem bld38_0123 {w : World} {v0 : Value} {v1 : Value} {c2 : List Value} {c3 : List Value} (h0 : v0.cells = [v0].toArray) (h1 : v1.cells = [v1].toArray) (h2 : c2.length = 4) (h3 : c3.length = 16) : (Instr.build 38 ([(0, v0), (1, v1), (2, .agg c2.toArray), (3, .agg c3.toArray)] : List (Nat × Value)).toArray).run Tryd.prog w = .ok (.agg (((([v0] : List Value) ++ ([v1] : List Value)) ++ c2) ++ c3).toArray) w :=
 ET (places := #[(0, 1), (1, 1), (2, 4), (6, 16)]) (Z := (([U64 0] : List Value) ++ (([U64 0] : List Value) ++ (([I64 0, .slice none 0 0, .slice none 0 0, U64 0] : List Value) ++ ((cu8 (zr8 16) : List Value) ++ []))))) (fun _ => by kernel_rfl) C3 (fun _ => by kernel_rfl) ((FV ([U64 0] : List Value) (([U64 0] : List Value) ++ (([I64 0, .slice none 0 0, .slice none 0 0, U64 0] : List Value) ++ ((cu8 (zr8 16) : List Value) ++ []))) ([v0] : List Value) h0 (by simp [AO]) rfl).trans ((E2 ([v0] : List Value) ([U64 0] : List Value) (([I64 0, .slice none 0 0, .slice none 0 0, U64 0] : List Value) ++ ((cu8 (zr8 16) : List Value) ++ [])) ([v1] : List Value) h1 (by simp [AO]) rfl).trans ((E2 (([v0] : List Value) ++ ([v1] : List Value)) ([I64 0, .slice none 0 0, .slice none 0 0, U64 0] : List Value) ((cu8 (zr8 16) : List Value) ++ []) c2 rfl (by simp [AO, h2]) (by simp [h2, AO])).trans ((E2 ((([v0] : List Value) ++ ([v1] : List Value)) ++ c2) (cu8 (zr8 16) : List Value) [] c3 rfl (by simp [AO, h2, h3]) (by simp [h3, AO])).trans (by simp [Instr.fill])))))
attribute [local irreducible] blankB spanB reqR
theorem spanA_c (fs : UInt64) (mn : Int)  (w : World) (h : mn < 1)  : Calls Tryd.prog 86 #[I64 32, U64 fs, I64 (mn)] w (Post w [] (fun v L => v = .bool (spanB fs mn) ∧ L = [])) := by
 refine enter w [] 35 [] [I64 32, U64 fs, I64 (mn)] Tryd.func86 rfl rfl (by simp) (BZ (by simp) (by simp) (by simp)) ?_
 show JC _ _ _ [(0, I64 32), (1, U64 fs), (2, I64 (mn))] _
 refine AF (AC (AA _ (AE rfl) rfl ?_))
 refine AJ (AD (AF (AF (AC (AA _ (AG rfl) rfl ?_)))))
 refine AA (.bool (decide ((32:Int) < (0:Int)))) (AT rfl rfl fun _ => CL _ _) rfl ?_
 refine AA _ (AG rfl) rfl ?_
 refine AM 2 10 false _ _ rfl rfl (by decide) (AG rfl) rfl ?_
 refine AM 2 10 false _ (.bool (decide ((32:Int) < (32:Int)))) rfl rfl (by decide) (AT rfl rfl fun _ => DJ _ _) rfl ?_
 refine AA _ (A5 _ rfl (by decide) rfl) rfl (AA _ (AG rfl) rfl ?_)
 refine AM 6 14 false _ _ rfl rfl (by decide) (AG rfl) rfl ?_
 refine AM 6 14 false _ (.bool (decide ((mn) < (1:Int)))) rfl rfl (by decide) (AT rfl rfl fun _ => CL _ _) rfl ?_
 refine AA _ (A5 _ rfl (by decide) rfl) rfl (AA _ (AG rfl) rfl ?_)
 refine A9 2 10 18 false _ rfl rfl (decide_eq_true (by omega)) rfl (AA _ (BA _ rfl (decide_eq_true (by omega)) rfl) rfl ?_)
 refine AJ (AD (CH _ rfl rfl ?_))
 refine AF (AC (AA _ (AE rfl) rfl ?_))
 refine AJ (AD (BK (A6 (BJ (.bool false) (res1 Tryd.results86 (BF rfl)) fun w1 hw1 => ?_))))
 exact ⟨_, [], rfl, ⟨congrArg Value.bool (spanB_no (by omega)).symm, rfl⟩, hw1.no⟩
theorem spanB_c (fs : UInt64) (mn : Int)  (w : World) (h : 256 < mn)  : Calls Tryd.prog 86 #[I64 32, U64 fs, I64 (mn)] w (Post w [] (fun v L => v = .bool (spanB fs mn) ∧ L = [])) := by
 refine enter w [] 35 [] [I64 32, U64 fs, I64 (mn)] Tryd.func86 rfl rfl (by simp) (BZ (by simp) (by simp) (by simp)) ?_
 show JC _ _ _ [(0, I64 32), (1, U64 fs), (2, I64 (mn))] _
 refine AF (AC (AA _ (AE rfl) rfl ?_))
 refine AJ (AD (AF (AF (AC (AA _ (AG rfl) rfl ?_)))))
 refine AA (.bool (decide ((32:Int) < (0:Int)))) (AT rfl rfl fun _ => CL _ _) rfl ?_
 refine AA _ (AG rfl) rfl ?_
 refine AM 2 10 false _ _ rfl rfl (by decide) (AG rfl) rfl ?_
 refine AM 2 10 false _ (.bool (decide ((32:Int) < (32:Int)))) rfl rfl (by decide) (AT rfl rfl fun _ => DJ _ _) rfl ?_
 refine AA _ (A5 _ rfl (by decide) rfl) rfl (AA _ (AG rfl) rfl ?_)
 refine AM 6 14 false _ _ rfl rfl (by decide) (AG rfl) rfl ?_
 refine AM 6 14 false _ (.bool (decide ((mn) < (1:Int)))) rfl rfl (by decide) (AT rfl rfl fun _ => CL _ _) rfl ?_
 refine AA _ (A5 _ rfl (by decide) rfl) rfl (AA _ (AG rfl) rfl ?_)
 refine AM 10 18 false _ _ rfl rfl (decide_eq_false (by omega)) (AG rfl) rfl ?_
 refine AM 10 18 false _ (.bool (decide ((256:Int) < (mn)))) rfl rfl (decide_eq_false (by omega)) (AT rfl rfl fun _ => DJ _ _) rfl ?_
 refine AA _ (A5 _ rfl (decide_eq_false (by omega)) rfl) rfl ?_
 refine AJ (AD (CH _ rfl (decide_eq_true (by omega)) ?_))
 refine AF (AC (AA _ (AE rfl) rfl ?_))
 refine AJ (AD (BK (A6 (BJ (.bool false) (res1 Tryd.results86 (BF rfl)) fun w1 hw1 => ?_))))
 exact ⟨_, [], rfl, ⟨congrArg Value.bool (spanB_no (by omega)).symm, rfl⟩, hw1.no⟩
theorem spanC_c (fs : UInt64) (mn : Nat)  (w : World) (h1 : 1 ≤ mn) (h2 : mn ≤ 256)  : Calls Tryd.prog 86 #[I64 32, U64 fs, I64 mn] w (Post w [] (fun v L => v = .bool (spanB fs (mn:Int)) ∧ L = [])) := by
 have hmx : maxLen = 9223372036854775807 := rfl
 refine enter w [] 35 [] [I64 32, U64 fs, I64 mn] Tryd.func86 rfl rfl (by simp) (BZ (by simp) (by simp) (by simp)) ?_
 show JC _ _ _ [(0, I64 32), (1, U64 fs), (2, I64 mn)] _
 refine AF (AC (AA _ (AE rfl) rfl ?_))
 refine AJ (AD (AF (AF (AC (AA _ (AG rfl) rfl ?_)))))
 refine AA (.bool (decide ((32:Int) < (0:Int)))) (AT rfl rfl fun _ => CL _ _) rfl ?_
 refine AA _ (AG rfl) rfl ?_
 refine AM 2 10 false _ _ rfl rfl (by decide) (AG rfl) rfl ?_
 refine AM 2 10 false _ (.bool (decide ((32:Int) < (32:Int)))) rfl rfl (by decide) (AT rfl rfl fun _ => DJ _ _) rfl ?_
 refine AA _ (A5 _ rfl (by decide) rfl) rfl (AA _ (AG rfl) rfl ?_)
 refine AM 6 14 false _ _ rfl rfl (by decide) (AG rfl) rfl ?_
 refine AM 6 14 false _ (.bool (decide (((mn:Int)) < (1:Int)))) rfl rfl (by decide) (AT rfl rfl fun _ => CL _ _) rfl ?_
 refine AA _ (A5 _ rfl (by decide) rfl) rfl (AA _ (AG rfl) rfl ?_)
 refine AM 10 18 false _ _ rfl rfl (decide_eq_false (by omega)) (AG rfl) rfl ?_
 refine AM 10 18 false _ (.bool (decide ((256:Int) < ((mn:Int))))) rfl rfl (decide_eq_false (by omega)) (AT rfl rfl fun _ => DJ _ _) rfl ?_
 refine AA _ (A5 _ rfl (decide_eq_false (by omega)) rfl) rfl ?_
 refine AJ (AD (BT _ rfl (decide_eq_false (by omega)) ?_))
 refine BH (AD (AF (AC (AA _ (AG rfl) rfl ?_))))
 refine AA (U64 ((1:UInt64) <<< (32:UInt64))) (AT rfl rfl fun _ => bin_shl_u64 (1:UInt64) _ _ 32 (by decide) rfl) rfl ?_
 refine AA _ (AE rfl) rfl ?_
 refine AJ (AD (AF (AC (AA _ (AG rfl) rfl ?_))))
 refine AA _ (AG rfl) rfl ?_
 refine AA (.bool (decide (fs < ((1:UInt64) <<< (32:UInt64))))) (AT rfl rfl fun _ => bin_lss_u64 fs ((1:UInt64) <<< (32:UInt64))) rfl ?_
 refine AA _ (AG rfl) rfl ?_
 rcases Bool.eq_false_or_eq_true (decide (fs < ((1:UInt64) <<< (32:UInt64)))) with hb1 | hb1
 ·
  have hp1 : fs < ((1:UInt64) <<< (32:UInt64)) := of_decide_eq_true hb1
  refine AM 3 27 true _ _ rfl rfl hb1 (AG rfl) rfl ?_
  refine AM 3 27 true _ (U64 (UInt64.ofNat mn)) rfl rfl hb1 (CV _ _ rfl fun _ => EB (by rw [A4]; rfl) AU mn _ (by omega)) rfl ?_
  refine AM 3 27 true _ _ rfl rfl hb1 (AG rfl) rfl ?_
  refine AM 3 27 true _ _ rfl rfl hb1 (AG rfl) rfl ?_
  refine AM 3 27 true _ (U64 (((1:UInt64) <<< (32:UInt64)) - fs)) rfl rfl hb1 (AT rfl rfl fun _ => bin_sub_u64 ((1:UInt64) <<< (32:UInt64)) fs) rfl ?_
  refine AM 3 27 true _ (.bool (decide ((UInt64.ofNat mn) ≤ (((1:UInt64) <<< (32:UInt64)) - fs)))) rfl rfl hb1 (AT rfl rfl fun _ => bin_leq_u64 (UInt64.ofNat mn) (((1:UInt64) <<< (32:UInt64)) - fs)) rfl ?_
  refine AA _ (BA _ rfl hb1 rfl) rfl (AA _ (AE rfl) rfl ?_)
  refine AJ (AD (BK (BJ (.bool (decide ((UInt64.ofNat mn) ≤ (((1:UInt64) <<< (32:UInt64)) - fs)))) (res1 Tryd.results86 (BF rfl)) fun w1 hw1 => ?_)))
  refine ⟨_, [], rfl, ⟨congrArg Value.bool ?_, rfl⟩, hw1.no⟩
  rw [span_ok h1 h2]
  first | exact (decide_eq_false (span_no (by assumption) h1)).symm | exact decide_eq_decide.2 ⟨fun h => span_hi (by assumption) h h2, fun e => Classical.byContradiction (fun hn => span_lo (by assumption) hn h2 e)⟩
 ·
  have hp1 : ¬ (fs < ((1:UInt64) <<< (32:UInt64))) := of_decide_eq_false hb1
  refine A9 6 3 27 true _ rfl rfl hb1 rfl (AA _ (A5 _ rfl hb1 rfl) rfl ?_)
  refine AA _ (AE rfl) rfl ?_
  refine AJ (AD (BK (BJ (.bool false) (res1 Tryd.results86 (BF rfl)) fun w1 hw1 => ?_)))
  refine ⟨_, [], rfl, ⟨congrArg Value.bool ?_, rfl⟩, hw1.no⟩
  rw [span_ok h1 h2]
  first | exact (decide_eq_false (span_no (by assumption) h1)).symm | exact decide_eq_decide.2 ⟨fun h => span_hi (by assumption) h h2, fun e => Classical.byContradiction (fun hn => span_lo (by assumption) hn h2 e)⟩
theorem span_w (fs : UInt64) (mn : Int) (w : World) : Calls Tryd.prog 86 #[I64 32, U64 fs, I64 mn] w (Post w [] (fun v L => v = .bool (spanB fs mn) ∧ L = [])) := by
  by_cases h1 : mn < 1
  · exact spanA_c fs mn w h1
  by_cases h2 : 256 < mn
  · exact spanB_c fs mn w h2
  · obtain ⟨k, rfl⟩ : ∃ k : Nat, mn = k := ⟨mn.toNat, by omega⟩
    exact spanC_c fs k w (by omega) (by omega)
theorem blank_c (pv ep : UInt64) (kd : Int) (ai : Option Addr) (ni ci : Nat) (l : List UInt64) (sa : Option Addr) (ns sc : Nat) (ls : List SealR) (bl : UInt64) (tg : List UInt8)  (w : World) (hl : l.length = ni) (hnm : ni ≤ 2000000) (hnc : ni ≤ ci) (hcm : ci ≤ maxLen) (hv : RdV w ai (cu64 l)) (hls : ls.length = ns) (hnn : ns ≤ 2000000) (hnd : ns ≤ sc) (hcn : sc ≤ maxLen) (hs : RdV w sa (ls.flatMap sealC)) (htg : tg.length = 16)  : Calls Tryd.prog 84 #[.agg (V2 pv ep (kd) ai ni ci sa ns sc bl tg).toArray] w (Post w [] (fun v L => v = .bool (blankB pv ep kd l ls bl tg) ∧ L = [])) := by
 have hmx : maxLen = 9223372036854775807 := rfl
 refine enter (P := Tryd.prog) (f := 84) (fn := Tryd.f84) w [] 6 [] [.agg (V2 pv ep (kd) ai ni ci sa ns sc bl tg).toArray] Tryd.func84 rfl rfl (by simp) (BZ (by simp) (by simp) (by simp)) ?_
 show JC _ _ _ [(0, .agg (V2 pv ep (kd) ai ni ci sa ns sc bl tg).toArray)] _
 refine AF (AC (A2 (CN (.agg (V2 pv ep (kd) ai ni ci sa ns sc bl tg).toArray) (V2 pv ep (kd) ai ni ci sa ns sc bl tg) rfl (by first | rfl | simp)) rfl ?_))
 rintro v1 L1 ⟨nb1, hnb1, rfl, rfl⟩
 show JL _ _ _ _ (_ :: _) [_]
 refine AA _ (AE rfl) rfl ?_
 refine AJ (AD (AF (AC (AA _ (AL rfl (BR CA BB (by simp [htg]) (AR 0 rfl (AN _)))) rfl ?_))))
 refine AA (.agg (V5).toArray) (CY [] _ rfl (fun _ => by kernel_rfl)) rfl ?_
 refine A7 (A3 49 _ (.bool (decide (pv = (0:UInt64) ∧ ep = (0:UInt64) ∧ tg = (zr8 16) ∧ (kd) = (0:Int) ∧ bl = (0:UInt64) ∧ l = ([] : List UInt64) ∧ ls = ([] : List SealR)))) (AV _ Tryd.call49 rfl) (fun w1 hw1 => same13_c pv ep (kd) ai ni ci l sa ns sc ls bl tg (0:UInt64) (0:UInt64) (0:Int) none 0 0 ([] : List UInt64) none 0 0 ([] : List SealR) (0:UInt64) (zr8 16) w1 hl (by omega) (by omega) (by omega) (CF hw1 rfl hv) hls (by omega) (by omega) (by omega) (CF hw1 rfl hs) htg rfl (by omega) (by omega) (by omega) RdV.nil rfl (by omega) (by omega) (by omega) RdV.nil (AO 16))) rfl ?_
 show JL _ _ _ _ ((5, .bool (decide (pv = (0:UInt64) ∧ ep = (0:UInt64) ∧ tg = (zr8 16) ∧ (kd) = (0:Int) ∧ bl = (0:UInt64) ∧ l = ([] : List UInt64) ∧ ls = ([] : List SealR)))) :: _) [_]
 refine AA _ (AE rfl) rfl ?_
 refine AJ (AD (BK (CD [false] ?_)))
 show JQ _ _ _ _ []
 refine BJ (.bool (decide (pv = (0:UInt64) ∧ ep = (0:UInt64) ∧ tg = (zr8 16) ∧ (kd) = (0:Int) ∧ bl = (0:UInt64) ∧ l = ([] : List UInt64) ∧ ls = ([] : List SealR)))) (res1 Tryd.results84 (BF rfl)) fun w1 hw1 => ?_
 exact ⟨_, [], rfl, ⟨congrArg Value.bool (show _ = _ from by unfold blankB; rfl), rfl⟩, hw1.no⟩
theorem wmayK_c (pv ep : UInt64) (k : Nat) (ai : Option Addr) (ni ci : Nat) (l : List UInt64) (sa : Option Addr) (ns sc : Nat) (ls : List SealR) (bl : UInt64) (tg : List UInt8) (tot : Nat)  (w : World) (hl : l.length = ni) (hnm : ni ≤ 2000000) (hnc : ni ≤ ci) (hcm : ci ≤ maxLen) (hv : RdV w ai (cu64 l)) (hls : ls.length = ns) (hnn : ns ≤ 2000000) (hnd : ns ≤ sc) (hcn : sc ≤ maxLen) (hs : RdV w sa (ls.flatMap sealC)) (htg : tg.length = 16) (hmay : mayN pv ep (k:Int) l ls bl = 0) (hk : k = 1 ∨ k = 2 ∨ k = 3) (hsm : ns ≤ 300) (htot : tktN k ni ns = tot) (htb : tot ≤ 30000)  : Calls Tryd.prog 87 #[.agg (V2 pv ep k ai ni ci sa ns sc bl tg).toArray] w (Post w [] (fun v L => v = .bool true ∧ L = [])) := by
 have hmx : maxLen = 9223372036854775807 := rfl
 refine enter (P := Tryd.prog) (f := 87) (fn := Tryd.f87) w [] 12 [] [.agg (V2 pv ep k ai ni ci sa ns sc bl tg).toArray] Tryd.func87 rfl rfl (by simp) (BZ (by simp) (by simp) (by simp)) ?_
 show JC _ _ _ [(0, .agg (V2 pv ep k ai ni ci sa ns sc bl tg).toArray)] _
 refine AF (AC (A2 (CN (.agg (V2 pv ep k ai ni ci sa ns sc bl tg).toArray) (V2 pv ep k ai ni ci sa ns sc bl tg) rfl (by first | rfl | simp)) rfl ?_))
 rintro v1 L1 ⟨nb1, hnb1, rfl, rfl⟩
 show JL _ _ _ _ (_ :: _) [_]
 refine AA _ (AE rfl) rfl ?_
 refine AJ (AD (AF (AC (AA _ (AL rfl (BR CA BB (by simp [htg]) (AR 0 rfl (AN _)))) rfl ?_))))
 refine A2 (C6 47 _ _ (AV _ Tryd.call47 rfl) (fun w1 hw1 => put13_c pv ep k ai ni ci l sa ns sc ls bl tg tot w1 hl (by omega) (by omega) (by omega) (CF hw1 rfl hv) hls (by omega) (by omega) (by omega) (CF hw1 rfl hs) htg hmay hk hsm htot (by omega))) rfl ?_
 rintro v1 L1 ⟨_, ⟨nb2, sp1, cp1, rfl, rfl, hc1, hc2, hc3⟩, rfl⟩
 show JL _ _ _ _ ((7, .tuple #[Slc nb2 0 (tot + 16) cp1, .nilIface]) :: _) [_, (Ez nb2 (cu8 ((tktT pv ep k l ls bl) ++ tg) ++ sp1) 5)]
 refine AA _ (AG rfl) rfl (AA _ (BI rfl rfl) rfl (AA _ (BI rfl rfl) rfl (AA _ (AE rfl) rfl (AA _ (AE rfl) rfl ?_))))
 refine AJ (AD (AF (AC (AA _ (AG rfl) rfl ?_))))
 refine AA (.bool true) (DM _ _ _ rfl rfl (fun _ => FW ..) fun _ => F5 BG) rfl ?_
 refine AA _ (AE rfl) rfl ?_
 refine AJ (AD (BK (CD [false, false] ?_)))
 show JQ _ _ _ _ []
 refine BJ (.bool true) (res1 Tryd.results87 (BF rfl)) fun w1 hw1 => ?_
 exact ⟨_, [], rfl, ⟨rfl, rfl⟩, hw1.no⟩
theorem wmayB_c (pv ep : UInt64) (kd : Int) (ai : Option Addr) (ni ci : Nat) (l : List UInt64) (sa : Option Addr) (ns sc : Nat) (ls : List SealR) (bl : UInt64) (tg : List UInt8)  (w : World) (hl : l.length = ni) (hnm : ni ≤ 2000000) (hnc : ni ≤ ci) (hcm : ci ≤ maxLen) (hv : RdV w ai (cu64 l)) (hls : ls.length = ns) (hnn : ns ≤ 2000000) (hnd : ns ≤ sc) (hcn : sc ≤ maxLen) (hs : RdV w sa (ls.flatMap sealC)) (htg : tg.length = 16) (hm : mayN pv ep kd l ls bl ≠ 0)  : Calls Tryd.prog 87 #[.agg (V2 pv ep (kd) ai ni ci sa ns sc bl tg).toArray] w (Post w [] (fun v L => v = .bool false ∧ L = [])) := by
 have hmx : maxLen = 9223372036854775807 := rfl
 refine enter (P := Tryd.prog) (f := 87) (fn := Tryd.f87) w [] 12 [] [.agg (V2 pv ep (kd) ai ni ci sa ns sc bl tg).toArray] Tryd.func87 rfl rfl (by simp) (BZ (by simp) (by simp) (by simp)) ?_
 show JC _ _ _ [(0, .agg (V2 pv ep (kd) ai ni ci sa ns sc bl tg).toArray)] _
 refine AF (AC (A2 (CN (.agg (V2 pv ep (kd) ai ni ci sa ns sc bl tg).toArray) (V2 pv ep (kd) ai ni ci sa ns sc bl tg) rfl (by first | rfl | simp)) rfl ?_))
 rintro v1 L1 ⟨nb1, hnb1, rfl, rfl⟩
 show JL _ _ _ _ (_ :: _) [_]
 refine AA _ (AE rfl) rfl ?_
 refine AJ (AD (AF (AC (AA _ (AL rfl (BR CA BB (by simp [htg]) (AR 0 rfl (AN _)))) rfl ?_))))
 refine A7 (A3 47 _ (.tuple #[SL none 0 0, errV 50 (mayN pv ep (kd) l ls bl)]) (AV _ Tryd.call47 rfl) (fun w1 hw1 => putB_c pv ep (kd) ai ni ci l sa ns sc ls bl tg w1 hl (by omega) (by omega) (by omega) (CF hw1 rfl hv) hls (by omega) (by omega) (by omega) (CF hw1 rfl hs) htg hm)) rfl ?_
 show JL _ _ _ _ ((7, .tuple #[SL none 0 0, errV 50 (mayN pv ep (kd) l ls bl)]) :: _) [_]
 refine AA _ (AG rfl) rfl (AA _ (BI rfl rfl) rfl (AA _ (BI rfl rfl) rfl (AA _ (AE rfl) rfl (AA _ (AE rfl) rfl ?_))))
 refine AJ (AD (AF (AC (AA _ (AG rfl) rfl ?_))))
 refine AA (.bool (decide (mayN pv ep (kd) l ls bl = 0))) (DM _ _ _ rfl rfl (fun _ => CE ..) fun _ => eql_errV BG _ _) rfl ?_
 refine AA _ (AE rfl) rfl ?_
 refine AJ (AD (BK (CD [false] ?_)))
 show JQ _ _ _ _ []
 refine BJ (.bool (decide (mayN pv ep (kd) l ls bl = 0))) (res1 Tryd.results87 (BF rfl)) fun w1 hw1 => ?_
 exact ⟨_, [], rfl, ⟨congrArg Value.bool (decide_eq_false hm), rfl⟩, hw1.no⟩
theorem wmay_w (pv ep : UInt64) (kd : Int) (ai : Option Addr) (ni ci : Nat) (l : List UInt64) (sa : Option Addr) (ns sc : Nat) (ls : List SealR) (bl : UInt64) (tg : List UInt8) (w : World) (hl : l.length = ni) (hnm : ni ≤ 2000000) (hnc : ni ≤ ci) (hcm : ci ≤ maxLen) (hv : RdV w ai (cu64 l)) (hls : ls.length = ns) (hnn : ns ≤ 2000000) (hnd : ns ≤ sc) (hcn : sc ≤ maxLen) (hs : RdV w sa (ls.flatMap sealC)) (htg : tg.length = 16) (hbi : ni ≤ 300) (hbs : ns ≤ 300) : Calls Tryd.prog 87 #[.agg (V2 pv ep (kd) ai ni ci sa ns sc bl tg).toArray] w (Post w [] (fun v L => v = .bool (decide (mayN pv ep kd l ls bl = 0)) ∧ L = [])) := by
  by_cases hm : mayN pv ep kd l ls bl = 0
  · obtain ⟨k, rfl, hk⟩ : ∃ k : Nat, kd = k ∧ (k = 1 ∨ k = 2 ∨ k = 3) := by
      rcases RightO_cases (FZ hm) with ⟨rfl, _⟩ | ⟨rfl, _⟩ | ⟨rfl, _⟩
      · exact ⟨1, rfl, .inl rfl⟩
      · exact ⟨2, rfl, .inr (.inl rfl)⟩
      · exact ⟨3, rfl, .inr (.inr rfl)⟩
    rw [decide_eq_true hm]
    exact wmayK_c pv ep k ai ni ci l sa ns sc ls bl tg (tktN k ni ns) w hl hnm hnc hcm hv hls hnn hnd hcn hs htg hm hk hbs rfl (tktN_le (by omega) (by omega))
  · rw [decide_eq_false hm]
    exact wmayB_c pv ep kd ai ni ci l sa ns sc ls bl tg w hl hnm hnc hcm hv hls hnn hnd hcn hs htg hm
end Go.Proofs.YtkdpdgpphpngeaaDoor
