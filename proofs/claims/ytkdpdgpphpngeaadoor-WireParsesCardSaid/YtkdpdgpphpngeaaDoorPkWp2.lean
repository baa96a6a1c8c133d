import Derived.Test.YtkdpdgpphpngeaaDoorPkWp1
set_option maxHeartbeats 8000000
set_option linter.unusedVariables false
set_option linter.unusedSimpArgs false
set_option maxRecDepth 100000
namespace Go.Proofs.YtkdpdgpphpngeaaDoor
open Go Go.Sx Go.RowKit
open Go.Value renaming slice → SL
open Go.ChangeShapes Go.WideShapes
structure ItemR where
 b : Bool
 s : SealR
theorem ItemR.eq_iff (x y : ItemR) : x = y ↔ x.b = y.b ∧ x.s.e = y.s.e ∧ x.s.d = y.s.d ∧ x.s.t = y.s.t := by
 refine ⟨fun h => by rw [h]; exact ⟨rfl, rfl, rfl, rfl⟩, fun h => ?_⟩
 obtain ⟨a, s⟩ := x
 obtain ⟨a', s'⟩ := y
 obtain ⟨h1, h2⟩ := h
 have h3 : s = s' := (SealR.eq_iff s s').2 h2
 have h1 : a = a' := h1
 rw [h1, h3]
instance : DecidableEq ItemR := fun x y => decidable_of_iff _ (ItemR.eq_iff x y).symm
def itemC (x : ItemR) : List Value := [.bool x.b] ++ sealC x.s
theorem itemC_eq (x : ItemR) : itemC x = [.bool x.b, U64 x.s.e] ++ cu8 x.s.d ++ cu8 x.s.t := by simp [itemC, sealC]
theorem FG (x : ItemR) : (itemC x).length = 50 := by unfold itemC; rw [List.length_append, D8]; rfl
def plainV (b : Bool) (e : UInt64) (d t : List UInt8) : Bool := b || decide (e = 0 ∧ d = zr8 32 ∧ t = zr8 16)
def plainB (x : ItemR) : Bool := plainV x.b x.s.e x.s.d x.s.t
section
variable {C : Cx} {F : Frm} {L : List Ent}
theorem res4 {fn : Func} {r s q p : ResultVar} {v u x y : Value} (hr : fn.results = #[r, s, q, p]) (h : RV C F L r v) (h' : RV C F L s u) (h2 : RV C F L q x) (h3 : RV C F L p y) :
  ∀ a w, Fr F C a → Hp C.w0 C.M L w → (results fn a.tmps).run C.P w = .ok (.tuple #[v, u, x, y]) w := fun a w ha hw => by
 have e1 := h a w ha hw
 have e2 := h' a w ha hw
 have e3 := h2 a w ha hw
 have e4 := h3 a w ha hw
 simp [results_eq, hr, e1, e2, e3, e4]
theorem one_item (z : ItemR) : ∀ v ∈ itemC z, v.oneCell' = true := by
 intro v hv
 unfold itemC at hv
 simp only [List.mem_append, List.mem_cons, List.not_mem_nil, or_false] at hv
 rcases hv with rfl | hv
 ·
  rfl
 ·
  exact one_seal _ v hv
theorem itrows_len (l : List ItemR) : (l.flatMap itemC).length = l.length * 50 := by
 induction l with
 | nil => rfl
 | cons a l ih => rw [List.flatMap_cons, List.length_append, FG, ih, List.length_cons]; omega
theorem E1 {x y : Operand} {ty : TypeId} (t e bytes : Nat) (zv : Value) (m : List Bool) (v : Value) (n : Nat) (l : List ItemR) (z : ItemR) (ao : Option Addr) (c tot : Nat)
  (hu : C.P.underlying t = some (.slice e)) (hi : (C.P.info? e).map (fun i => (i.zero, i.size, i.bytes)) = some (some zv, 50, bytes)) (hzs : zv.cells.size = 50)
  (hx : ev F x = some v)
  (hv : (v = .slice none 0 0 ∧ n = 0 ∧ l = [] ∧ take? m L = []) ∨ (∃ g sp cap, v = Slc g 0 n cap ∧ take? m L = [⟨g, l.flatMap itemC ++ sp, e, (0, 0)⟩] ∧ l.length = n ∧ sp.length = cap * 50 - n * 50 ∧ n ≤ cap ∧ cap ≤ maxLen))
  (hy : ev F y = some (.slice ao 1 c)) (hm : SrcAt C L ao (itemC z)) (hmax : (n + 1) * bytes ≤ 140737488355328) (hmax' : n + 1 ≤ maxLen) (htot : n + 1 = tot) :
  Step C F L (.call { callee := .builtin .append, args := #[x, y], argTypes := #[t, t] }) ty fun v' L' => ∃ g sp cap, (C.w0.heap.size ≤ g ∨ g ∈ C.M) ∧ v' = Slc g 0 tot cap ∧ L' = rest? m L ++ [⟨g, (l ++ [z]).flatMap itemC ++ sp, e, (0, 0)⟩] ∧ (l ++ [z]).length = tot ∧ sp.length = cap * 50 - tot * 50 ∧ tot ≤ cap ∧ cap ≤ maxLen := by
 subst htot
 have hv' : (v = .slice none 0 0 ∧ n = 0 ∧ l.flatMap itemC = [] ∧ take? m L = [] ∧ 0 < 1) ∨ (∃ g sp cap, v = Slc g 0 n cap ∧ take? m L = [⟨g, l.flatMap itemC ++ sp, e, (0, 0)⟩] ∧ (l.flatMap itemC).length = n * 50 ∧ (l.flatMap itemC ++ sp).length = cap * 50 ∧ n ≤ cap ∧ cap ≤ maxLen) := by
  rcases hv with ⟨h1, h2, h3, h4⟩ | ⟨g, sp, cap, h1, h2, h3, h4, h5, h6⟩
  ·
   exact .inl ⟨h1, h2, by rw [h3]; rfl, h4, by omega⟩
  ·
   refine .inr ⟨g, sp, cap, h1, h2, by rw [itrows_len, h3], ?_, h5, h6⟩
   rw [List.length_append, h4, itrows_len, h3]; omega
 have h := Step_append (C := C) (F := F) (L := L) (x := x) (y := y) (ty := ty) t e 50 bytes zv m v n (l.flatMap itemC) (itemC z) ao 1 c hu hi hzs (by decide) hx hv' hy (by rw [FG]) hm (one_item z) hmax hmax'
 intro a w ha hw d pos aft g Kk Q hq
 refine h a w ha hw d pos aft g Kk Q ?_
 rintro v' L' w' ⟨g, sp, cap, h1, h2, h3, h4, h5, h6, h7⟩ hw'
 have e1 : l.flatMap itemC ++ itemC z = (l ++ [z]).flatMap itemC := by rw [List.flatMap_append]; simp
 rw [e1] at h3 h4 h5
 rw [itrows_len] at h4
 refine hq v' L' w' ⟨g, sp, cap, h1, h2, h3, by omega, ?_, h6, h7⟩ hw'
 rw [List.length_append, itrows_len] at h5
 omega
end
def itB (er rk : Int) : Bool := decide (er = 0) && (decide (rk = 1) || decide (rk = 2))
def chB (er rk : Int) (th : Bool) : Bool := decide (er = 0) && (decide (rk = 4) && th)
def bB (er rk : Int) (th : Bool) : Bool := decide (er = 0) && ((decide (rk = 1) || decide (rk = 2)) || (decide (rk = 3) || (decide (rk = 4) && th)))
def aB (er rk : Int) (th : Bool) : Bool := bB er rk th && decide (rk ≠ 1)
def c1B (er rk : Int) : Bool := decide (1 ≤ rk ∧ rk ≤ 5 ∧ 0 ≤ er ∧ er ≤ 14)
def c2B (it : Bool) (lj : List ItemR) : Bool := if it then decide (1 ≤ lj.length ∧ lj.length ≤ 256) && !(lj.any (fun x => !plainB x)) else decide (lj.length = 0)
def c3B (ch th bt my : Bool) : Bool := if ch then my else (!th && bt)
def c4B (a b : Bool) (na nb : Nat) : Bool := decide (na ≤ 256 ∧ nb ≤ 8192) && ((a || decide (na = 0)) && (b || decide (nb = 0)))
theorem c1_no {er rk : Int} (h : ¬ (1 ≤ rk ∧ rk ≤ 5 ∧ 0 ≤ er ∧ er ≤ 14)) : true = !(c1B er rk) := by rw [show c1B er rk = false from decide_eq_false h]; rfl
theorem c1_last {er rk : Int} (h : 1 ≤ rk ∧ rk ≤ 5 ∧ 0 ≤ er) : decide (14 < er) = !(c1B er rk) := by
 unfold c1B; rw [← decide_not]; exact decide_eq_decide.2 (by omega)
theorem c2_t {it : Bool} {lj : List ItemR} (h : (it && !(c2B true lj)) = true) : c2B it lj = false := by
 cases it
 ·
  simp at h
 ·
  simpa using h
theorem c2_f {it : Bool} {lj : List ItemR} (h : (it && !(c2B true lj)) = false) (hi : it = true) : c2B it lj = true := by
 subst hi; simpa using h
theorem c2_n {lj : List ItemR} {n : Nat} (hl : lj.length = n) : c2B false lj = decide (n = 0) := by subst hl; rfl
theorem c2_e {lj : List ItemR} {n : Nat} (hl : lj.length = n) (h : 1 ≤ n ∧ n ≤ 256) : lj.any (fun x => !plainB x) = !(c2B true lj) := by
 subst hl
 unfold c2B
 rw [if_pos rfl, decide_eq_true h]
 simp
theorem c2_no {lj : List ItemR} {n : Nat} (hl : lj.length = n) (h : ¬ (1 ≤ n ∧ n ≤ 256)) : true = !(c2B true lj) := by
 subst hl
 unfold c2B
 rw [if_pos rfl, decide_eq_false h]
 rfl
theorem c3_t {ch th bt my : Bool} (h : (ch && !my) = true) : c3B ch th bt my = false := by
 cases ch <;> cases my <;> simp_all [c3B]
theorem c3_f {ch th bt my : Bool} (h : (ch && !my) = false) (hc : ch = true) : c3B ch th bt my = true := by
 subst hc; cases my <;> simp_all [c3B]
theorem c3_n {th bt my : Bool} : c3B false th bt my = (!th && bt) := rfl
theorem c2_same {it : Bool} {lj : List ItemR} {n : Nat} (hl : lj.length = n) (h1 : it = decide (0 < n)) (h2 : n ≤ 256) (h3 : lj.any (fun x => !plainB x) = false) : c2B it lj = true := by
 subst hl
 subst h1
 unfold c2B
 by_cases h : 0 < lj.length
 ·
  rw [if_pos (decide_eq_true h), decide_eq_true ⟨by omega, h2⟩, h3]; rfl
 ·
  rw [if_neg (by simpa using h), decide_eq_true (by omega)]
theorem c2_any {it : Bool} {lj : List ItemR} {n : Nat} (hl : lj.length = n) (h1 : it = decide (0 < n)) (h0 : 0 < n) (h3 : lj.any (fun x => !plainB x) = true) : c2B it lj = false := by
 subst hl
 rw [h1, decide_eq_true h0]
 unfold c2B
 rw [if_pos rfl, h3]; simp
theorem c2_len {it : Bool} {lj : List ItemR} {n : Nat} (hl : lj.length = n) (h : it ≠ decide (0 < n) ∨ 256 < n) : c2B it lj = false := by
 subst hl
 unfold c2B
 cases it
 ·
  rw [if_neg (by decide)]
  refine decide_eq_false (fun e => ?_)
  rcases h with h | h
  ·
   exact h (by rw [e]; rfl)
  ·
   omega
 ·
  rw [if_pos rfl, decide_eq_false (fun e => ?_)]
  ·
   rfl
  ·
   rcases h with h | h
   ·
    exact h (decide_eq_true (by omega)).symm
   ·
    omega
def c2x (it : Bool) (n : Nat) : Bool := !(it == decide ((0:Int) < (n:Int))) || decide ((256:Int) < (n:Int))
theorem c2x_f {it : Bool} {n : Nat} (h : c2x it n = false) : it = decide (0 < n) ∧ n ≤ 256 := by
 unfold c2x at h
 rw [Bool.or_eq_false_iff] at h
 have h1 := of_decide_eq_false h.2
 have h2 : it = decide ((0:Int) < (n:Int)) := by simpa using h.1
 exact ⟨by rw [h2]; exact decide_eq_decide.2 (by omega), by omega⟩
theorem c2x_t {it : Bool} {lj : List ItemR} {n : Nat} (hl : lj.length = n) (h : c2x it n = true) : c2B it lj = false := by
 refine c2_len hl ?_
 by_cases h1 : it = decide (0 < n)
 ·
  refine .inr ?_
  have h2 : it = decide ((0:Int) < (n:Int)) := by rw [h1]; exact decide_eq_decide.2 (by omega)
  unfold c2x at h
  rw [← h2] at h
  simp at h
  omega
 ·
  exact .inl h1
theorem plain_b {x : ItemR} (h : x.b = true) : (fun x => !plainB x) x = false := by
 show (!plainV x.b x.s.e x.s.d x.s.t) = false
 unfold plainV; rw [h]; rfl
theorem plain_s {x : ItemR} (h : decide (x.s.e = 0 ∧ x.s.d = zr8 32 ∧ x.s.t = zr8 16) = true) : (fun x => !plainB x) x = false := by
 show (!plainV x.b x.s.e x.s.d x.s.t) = false
 unfold plainV; rw [h]; simp
theorem plain_n {x : ItemR} (hb : x.b = false) (h : decide (x.s.e = 0 ∧ x.s.d = zr8 32 ∧ x.s.t = zr8 16) = false) : (fun x => !plainB x) x = true := by
 show (!plainV x.b x.s.e x.s.d x.s.t) = true
 unfold plainV; rw [h, hb]; rfl
def repR (rk er : Int) (th : Bool) (lj : List ItemR) (bt my : Bool) (na nb : Nat) : Bool :=
 c1B er rk && (c2B (itB er rk) lj && (c3B (chB er rk th) th bt my && c4B (aB er rk th) (bB er rk th) na nb))
def itmT (x : ItemR) : List UInt8 := if x.b then numK 1 (bitU x.b) 1 ++ putL x.s.e x.s.d x.s.t else numK 1 (bitU x.b) 1
def itmsT (l : List ItemR) : List UInt8 := l.flatMap itmT
theorem itms_step {l : List ItemR} {i : Nat} {x : ItemR} (h : l[i]? = some x) : itmsT (l.take i) ++ itmT x = itmsT (l.take (i + 1)) := by
 unfold itmsT
 rw [← EZ h, List.flatMap_append]; simp
theorem repR_all {rk er : Int} {th bt my : Bool} {lj : List ItemR} {na nb : Nat} (h : repR rk er th lj bt my na nb = true) : c1B er rk = true ∧ c2B (itB er rk) lj = true ∧ c3B (chB er rk th) th bt my = true ∧ c4B (aB er rk th) (bB er rk th) na nb = true := by
 unfold repR at h
 simpa [Bool.and_eq_true] using h
theorem itB_ne {er rk : Int} (h : er ≠ 0) : itB er rk = false := by unfold itB; rw [decide_eq_false h]; rfl
theorem chB_ne {er rk : Int} {th : Bool} (h : er ≠ 0) : chB er rk th = false := by unfold chB; rw [decide_eq_false h]; rfl
theorem bB_ne {er rk : Int} {th : Bool} (h : er ≠ 0) : bB er rk th = false := by unfold bB; rw [decide_eq_false h]; rfl
theorem aB_ne {er rk : Int} {th : Bool} (h : er ≠ 0) : aB er rk th = false := by unfold aB; rw [bB_ne h]; rfl
theorem c2_len1 {lj : List ItemR} {nj : Nat} (hl : lj.length = nj) (h : c2B true lj = true) : 1 ≤ nj ∧ nj ≤ 256 := by
 subst hl
 unfold c2B at h
 rw [if_pos rfl, Bool.and_eq_true] at h
 exact of_decide_eq_true h.1
theorem c2_len0 {lj : List ItemR} {nj : Nat} (hl : lj.length = nj) (h : c2B false lj = true) : nj = 0 := by
 rw [c2_n hl] at h
 exact of_decide_eq_true h
section
variable {H : Type} {enc : TypeId × Value → H} {P : Program} {w : World} {base : Nat} {spare : Nat → Bool} {held : Bool} {sz : Bool} {t : TypeId} {cs : List Value}
end
end Go.Proofs.YtkdpdgpphpngeaaDoor
namespace Go.Proofs.YtkdpdgpphpngeaaDoor
open Go Go.Sx
open Go.Value renaming slice → SL
attribute [local irreducible] mid zr8 numK valK rvalK JL JC JQ DP Ev Ld MemAt Seg Step Cl RV Qok Cok
theorem leftZ_c (rb e : Nat) (ao : Option Addr) (n c : Nat) (w : World) (hw : RdA w rb 0 [errV 50 e, SL ao n c]) (he : e = 0) : Calls Tryd.prog 61 #[Ptr rb 0] w (Post w [] (fun v L => v = I64 (n : Int) ∧ L = [])) := by
 refine enter w [] 18 [] [Ptr rb 0] Tryd.func61 rfl rfl ZM (A2 ZM ZM ZM) ?_
 show JC _ _ _ [_] _
 refine Z2 9 ?_
 refine AE (.bool false) (CG _ _ _ rfl rfl (fun _ => EQ ..) fun _ => EX Tryd.underlying110) rfl ?_
 refine Z2 2 ?_
 refine AD 2 5 false _ _ rfl rfl rfl (B3 rfl) rfl ?_
 refine Z2 2 ?_
 refine AD 2 5 false _ _ rfl rfl rfl (AR rfl (B1 Tryd.isAgg45 (BP (hw.mem ZM) (Seg.head) (by first | omega | (simp; done) | (simp; omega))))) rfl ?_
 refine AD 2 5 false _ (.bool (!(decide (e = 0)))) rfl rfl rfl (CG _ _ _ rfl rfl (fun _ => BL ..) fun _ => CW AV _ _) rfl ?_
 refine Z2 3 ?_
 refine AY _ rfl (by rw [show (decide (e = 0)) = true from (decide_eq_true he)] <;> rfl) ?_
 refine Z2 5 ?_
 refine AE _ (B3 rfl) rfl ?_
 refine Z2 1 ?_
 refine AE _ (AR rfl (B1 Tryd.isAgg43 (BP (hw.mem ZM) (B0 (Seg.head)) (by first | omega | (simp; done) | (simp; omega))))) rfl ?_
 refine Z2 5 ?_
 refine Z1 fun w1 hw1 => ?_
 exact ⟨_, [], rfl, ⟨rfl, rfl⟩, hw1.no⟩
theorem leftE_c (rb e : Nat) (sv : Value) (w : World) (hw : RdA w rb 0 [errV 50 e, sv]) (he : e ≠ 0) : Calls Tryd.prog 61 #[Ptr rb 0] w (Post w [] (fun v L => v = I64 0 ∧ L = [])) := by
 refine enter w [] 18 [] [Ptr rb 0] Tryd.func61 rfl rfl ZM (A2 ZM ZM ZM) ?_
 show JC _ _ _ [_] _
 refine Z2 9 ?_
 refine AE (.bool false) (CG _ _ _ rfl rfl (fun _ => EQ ..) fun _ => EX Tryd.underlying110) rfl ?_
 refine Z2 2 ?_
 refine AD 2 5 false _ _ rfl rfl rfl (B3 rfl) rfl ?_
 refine Z2 2 ?_
 refine AD 2 5 false _ _ rfl rfl rfl (AR rfl (B1 Tryd.isAgg45 (BP (hw.mem ZM) (Seg.head) (by first | omega | (simp; done) | (simp; omega))))) rfl ?_
 refine AD 2 5 false _ (.bool (!(decide (e = 0)))) rfl rfl rfl (CG _ _ _ rfl rfl (fun _ => BL ..) fun _ => CW AV _ _) rfl ?_
 refine Z2 3 ?_
 refine A7 _ rfl (by rw [show (decide (e = 0)) = false from (decide_eq_false he)] <;> rfl) ?_
 refine Z2 7 ?_
 refine Z1 fun w1 hw1 => ?_
 exact ⟨_, [], rfl, ⟨rfl, rfl⟩, hw1.no⟩
theorem left_w (rb e : Nat) (ao : Option Addr) (n c : Nat) (w : World) (hw : RdA w rb 0 [errV 50 e, SL ao n c]) : Calls Tryd.prog 61 #[Ptr rb 0] w (Post w [] (fun v L => v = I64 ((leftN e n : Nat) : Int) ∧ L = [])) := by
 by_cases he : e = 0
 ·
  rw [leftN, if_pos he]; exact leftZ_c rb e ao n c w hw he
 ·
  rw [leftN, if_neg he]; exact leftE_c rb e _ w hw he
theorem failRd_c (rb e k : Nat) (sv : Value) (w : World) (h0 : w.heap[rb]? = some (.cells [errV 50 e, sv].toArray 204 (0, 0)))  : Calls Tryd.prog 121 #[Ptr rb 0, errV 50 k] w (Post w [rb] (fun v L => v = .tuple #[] ∧ L = [(Ez rb [errV 50 (erN e k), sv] 204)])) := by
 refine enter w [rb] 11 [(Ez rb [errV 50 e, sv] 204)] [Ptr rb 0, errV 50 k] Tryd.func121 rfl rfl ZM (A2 (by simpa using h0) ZM ZM) ?_
 show JC _ _ _ [_, _] _
 refine Z2 3 ?_
 refine AE (.bool true) (CG _ _ _ rfl rfl (fun _ => EQ ..) fun _ => neq_ptr_nil Tryd.underlying110) rfl ?_
 refine A1 (AK (A7 _ rfl rfl ?_))
 refine Z2 2 ?_
 refine AE _ (B3 rfl) rfl ?_
 refine Z2 2 ?_
 refine AF (C5 144 [Ptr rb 0, errV 50 k] 0 (Ez rb [errV 50 e, sv] 204) _ (fun v e' l' => v = .tuple #[] ∧ e' = (Ez rb [errV 50 (erN e k), sv] 204) ∧ l' = []) (AH _ Tryd.call144 rfl) rfl (by rintro v l ⟨rfl, rfl⟩; exact ⟨_, _, rfl, rfl, rfl, rfl, rfl⟩) (fun w1 hw1 => failR_c rb e k sv w1 (hw1.en 0 rfl))) rfl ?_
 rintro v1 L1 ⟨_, _, ⟨rfl, rfl, rfl⟩, rfl⟩
 show JL _ _ _ _ (_ :: _) [_]
 refine A1 (JQ_end (.tuple #[]) (res0 Tryd.results121 ) fun w1 hw1 => ?_)
 exact ⟨_, _, rfl, ⟨rfl, rfl⟩, hw1⟩
theorem D5 (rb e k : Nat) (sv : Value) (w : World) (hk : k ≠ 0) (h0 : w.heap[rb]? = some (.cells [errV 50 e, sv].toArray 204 (0, 0))) : Calls Tryd.prog 121 #[Ptr rb 0, .iface 50 (I64 (k : Int))] w (Post w [rb] (fun v L => v = .tuple #[] ∧ L = [(Ez rb [errV 50 (erN e k), sv] 204)])) := by
 have h := failRd_c rb e k sv w h0
 rw [errV_pos hk] at h
 exact h
theorem rawRB0_c (rb e : Nat) (ao : Option Addr) (n c : Nat) (s : Int) (w : World) (h0 : w.heap[rb]? = some (.cells [errV 50 e, SL ao n c].toArray 204 (0, 0))) (he : e = 0) (hs : s < 0 ∨ (n:Int) < s) : Calls Tryd.prog 127 #[Ptr rb 0, I64 (s)] w (Post w [rb] (fun v L => v = SL none 0 0 ∧ L = [(Ez rb [errV 50 (erN e 2), SL ao n c] 204)])) := by
 refine enter w [rb] 36 [(Ez rb [errV 50 e, SL ao n c] 204)] [Ptr rb 0, I64 (s)] Tryd.func127 rfl rfl ZM (A2 (by simpa using h0) ZM ZM) ?_
 show JC _ _ _ [_, _] _
 refine Z2 11 ?_
 rcases Bool.eq_false_or_eq_true (decide ((s) < (0:Int))) with hb1 | hb1
 ·
  have hp1 := of_decide_eq_true hb1
  refine Z2 7 ?_
  refine A7 _ rfl rfl ?_
  refine Z2 4 ?_
  refine AF (C5 121 [Ptr rb 0, .iface 50 (I64 2)] 0 (Ez rb [errV 50 e, SL ao n c] 204) _ (fun v e' l' => v = .tuple #[] ∧ e' = (Ez rb [errV 50 (erN e 2), SL ao n c] 204) ∧ l' = []) (AH _ DE rfl) rfl (by rintro v l ⟨rfl, rfl⟩; exact ⟨_, _, rfl, rfl, rfl, rfl, rfl⟩) (fun w1 hw1 => D5 rb e 2 (SL ao n c) w1 ZD (hw1.en 0 rfl))) rfl ?_
  rintro v1 L1 ⟨_, _, ⟨rfl, rfl, rfl⟩, rfl⟩
  show JL _ _ _ _ (_ :: _) [_]
  refine Z2 9 ?_
  refine Z1 fun w1 hw1 => ?_
  exact ⟨_, _, rfl, ⟨rfl, rfl⟩, hw1⟩
 have hp1 := of_decide_eq_false hb1
 refine Z2 2 ?_
 refine B6 2 8 false _ rfl rfl hb1 (AJ 61 _ (I64 n) (AH _ C7 rfl) (fun w1 hw1 => leftZ_c rb e ao n c w1 (RdA.of hw1 (A0 0 rfl (AG _)) ZM) he)) rfl ?_
 rintro v1 L1 ⟨rfl, rfl⟩
 show JL _ _ _ _ (_ :: _) [_]
 refine Z2 4 ?_
 refine A7 _ rfl (decide_eq_true ZO) ?_
 refine Z2 4 ?_
 refine AF (C5 121 [Ptr rb 0, .iface 50 (I64 2)] 0 (Ez rb [errV 50 e, SL ao n c] 204) _ (fun v e' l' => v = .tuple #[] ∧ e' = (Ez rb [errV 50 (erN e 2), SL ao n c] 204) ∧ l' = []) (AH _ DE rfl) rfl (by rintro v l ⟨rfl, rfl⟩; exact ⟨_, _, rfl, rfl, rfl, rfl, rfl⟩) (fun w1 hw1 => D5 rb e 2 (SL ao n c) w1 ZD (hw1.en 0 rfl))) rfl ?_
 rintro v1 L1 ⟨_, _, ⟨rfl, rfl, rfl⟩, rfl⟩
 show JL _ _ _ _ (_ :: _) [_]
 refine Z2 9 ?_
 refine Z1 fun w1 hw1 => ?_
 exact ⟨_, _, rfl, ⟨rfl, rfl⟩, hw1⟩
theorem rawRB1_c (rb e : Nat) (sv : Value) (s : Int) (w : World) (h0 : w.heap[rb]? = some (.cells [errV 50 e, sv].toArray 204 (0, 0))) (he : e ≠ 0) (hs : s ≠ 0) : Calls Tryd.prog 127 #[Ptr rb 0, I64 (s)] w (Post w [rb] (fun v L => v = SL none 0 0 ∧ L = [(Ez rb [errV 50 (erN e 2), sv] 204)])) := by
 refine enter w [rb] 36 [(Ez rb [errV 50 e, sv] 204)] [Ptr rb 0, I64 (s)] Tryd.func127 rfl rfl ZM (A2 (by simpa using h0) ZM ZM) ?_
 show JC _ _ _ [_, _] _
 refine Z2 11 ?_
 rcases Bool.eq_false_or_eq_true (decide ((s) < (0:Int))) with hb1 | hb1
 ·
  have hp1 := of_decide_eq_true hb1
  refine Z2 7 ?_
  refine A7 _ rfl rfl ?_
  refine Z2 4 ?_
  refine AF (C5 121 [Ptr rb 0, .iface 50 (I64 2)] 0 (Ez rb [errV 50 e, sv] 204) _ (fun v e' l' => v = .tuple #[] ∧ e' = (Ez rb [errV 50 (erN e 2), sv] 204) ∧ l' = []) (AH _ DE rfl) rfl (by rintro v l ⟨rfl, rfl⟩; exact ⟨_, _, rfl, rfl, rfl, rfl, rfl⟩) (fun w1 hw1 => D5 rb e 2 sv w1 ZD (hw1.en 0 rfl))) rfl ?_
  rintro v1 L1 ⟨_, _, ⟨rfl, rfl, rfl⟩, rfl⟩
  show JL _ _ _ _ (_ :: _) [_]
  refine Z2 9 ?_
  refine Z1 fun w1 hw1 => ?_
  exact ⟨_, _, rfl, ⟨rfl, rfl⟩, hw1⟩
 have hp1 := of_decide_eq_false hb1
 refine Z2 2 ?_
 refine B6 2 8 false _ rfl rfl hb1 (AJ 61 _ (I64 0) (AH _ C7 rfl) (fun w1 hw1 => leftE_c rb e sv w1 (RdA.of hw1 (A0 0 rfl (AG _)) ZM) he)) rfl ?_
 rintro v1 L1 ⟨rfl, rfl⟩
 show JL _ _ _ _ (_ :: _) [_]
 refine Z2 4 ?_
 refine A7 _ rfl (decide_eq_true ZO) ?_
 refine Z2 4 ?_
 refine AF (C5 121 [Ptr rb 0, .iface 50 (I64 2)] 0 (Ez rb [errV 50 e, sv] 204) _ (fun v e' l' => v = .tuple #[] ∧ e' = (Ez rb [errV 50 (erN e 2), sv] 204) ∧ l' = []) (AH _ DE rfl) rfl (by rintro v l ⟨rfl, rfl⟩; exact ⟨_, _, rfl, rfl, rfl, rfl, rfl⟩) (fun w1 hw1 => D5 rb e 2 sv w1 ZD (hw1.en 0 rfl))) rfl ?_
 rintro v1 L1 ⟨_, _, ⟨rfl, rfl, rfl⟩, rfl⟩
 show JL _ _ _ _ (_ :: _) [_]
 refine Z2 9 ?_
 refine Z1 fun w1 hw1 => ?_
 exact ⟨_, _, rfl, ⟨rfl, rfl⟩, hw1⟩
theorem rawROk_c (rb e : Nat) (ao : Option Addr) (n c : Nat) (z : List UInt8) (s n2 c2 : Nat) (w : World) (h0 : w.heap[rb]? = some (.cells [errV 50 e, SL ao n c].toArray 204 (0, 0))) (hz : z.length = n) (hn : n ≤ 2000000000) (hc : n ≤ c) (hcm : c ≤ maxLen) (hr : RdB w [rb] ao z) (he : e = 0) (h1 : 0 < s) (h2 : s ≤ n) (ht1 : s + n2 = n) (ht2 : s + c2 = c) : Calls Tryd.prog 127 #[Ptr rb 0, I64 s] w (Post w [rb] (fun v L => ∃ g sp cap, v = Slc g 0 s cap ∧ L = [(Ez rb [errV 50 e, SL (advA ao c s) n2 c2] 204), (Ez g (cu8 (mid z 0 s) ++ sp) 5)] ∧ sp.length = cap - s ∧ s ≤ cap ∧ cap ≤ maxLen)) := by
 have hsome : ao.isNone = false := by
  obtain ⟨_, _, ha, _⟩ := hr.pos ZO
  rw [ha]; rfl
 refine enter w [rb] 36 [(Ez rb [errV 50 e, SL ao n c] 204)] [Ptr rb 0, I64 s] Tryd.func127 rfl rfl ZM (A2 (by simpa using h0) ZM ZM) ?_
 show JC _ _ _ [_, _] _
 refine Z2 11 ?_
 refine AD 2 8 false _ _ rfl rfl (decide_eq_false ZO) ZE rfl ?_
 refine AD 2 8 false _ _ rfl rfl (decide_eq_false ZO) ZE rfl ?_
 refine B6 2 8 false _ rfl rfl (decide_eq_false ZO) (AJ 61 _ (I64 n) (AH _ C7 rfl) (fun w1 hw1 => leftZ_c rb e ao n c w1 (RdA.of hw1 (A0 0 rfl (AG _)) ZM) he)) rfl ?_
 rintro v1 L1 ⟨rfl, rfl⟩
 show JL _ _ _ _ (_ :: _) [_]
 refine AD 2 8 false _ (.bool (decide (((n:Int)) < ((s:Int))))) rfl rfl (decide_eq_false ZO) ZE rfl ?_
 refine AE _ (BO _ rfl (decide_eq_false ZO) rfl) rfl ?_
 refine A1 (AK (AY _ rfl (decide_eq_false ZO) ?_))
 refine Z2 9 ?_
 refine AY _ rfl (decide_eq_false ZO) ?_
 refine Z2 5 ?_
 refine AE _ (B3 rfl) rfl ?_
 refine Z2 3 ?_
 have hl1 : (mid z 0 s).length = s := EK (by rw [hz]; omega)
 have hr1 := RdB.pre hr s
 refine AE (SL ao s c) (Ev_sliceHi 5 1 s AM AW rfl rfl ZO) rfl ?_
 refine AF (A5 108 _ _ (AH _ Tryd.call108 rfl) (fun w1 hw1 => sclone_c ao s c (mid z 0 s) w1 hsome hl1 ZO (hr1.at (M' := []) hw1 ZM))) rfl ?_
 rintro v1 L1 ⟨_, ⟨nb1, sp1, cp1, rfl, rfl, hc1, hc2, hc3⟩, rfl⟩
 show JL _ _ _ _ (_ :: _) [_, _]
 refine Z2 7 ?_
 refine AE _ (B3 rfl) rfl ?_
 refine Z2 3 ?_
 have hl2 : (z.drop s).length = (n - s) := by rw [List.length_drop, hz] <;> omega
 have hr2 := RdB.adv (c := c) hr s (by rw [hz]; omega) (by rw [hz]; omega)
 refine AE (SL (advA ao c s) (n - s) (c - s)) (Ev_sliceLo 5 s (n - s) (c - s) AM AW rfl rfl ZO ZO ZO ZO) rfl (AE _ (B3 rfl) rfl ?_)
 refine Z2 11 ?_
 refine Z1 fun w1 hw1 => ?_
 obtain rfl : n2 = (n - s) := by omega
 obtain rfl : c2 = (c - s) := by omega
 exact ⟨_, _, rfl, ⟨nb1, sp1, cp1, rfl, rfl, hc1, hc2, hc3⟩, hw1⟩
theorem numRF_c (rb e : Nat) (sv : Value) (s : Int) (w : World) (h0 : w.heap[rb]? = some (.cells [errV 50 e, sv].toArray 204 (0, 0))) (hs : ¬ Szd s) : Calls Tryd.prog 109 #[Ptr rb 0, I64 (s)] w (Post w [rb] (fun v L => v = U64 0 ∧ L = [(Ez rb [errV 50 (erN e 2), sv] 204)])) := by
 refine enter w [rb] 29 [(Ez rb [errV 50 e, sv] 204)] [Ptr rb 0, I64 (s)] Tryd.func109 rfl rfl ZM (A2 (by simpa using h0) ZM ZM) ?_
 show JC _ _ _ [_, _] _
 refine Z2 9 ?_
 refine AC (AJ 143 _ (.bool false) (AH _ Tryd.call143 rfl) (fun w1 _ => sizedF_c (s) w1 hs)) rfl ?_
 show JL _ _ _ _ (_ :: _) [_]
 refine Z2 3 ?_
 refine A7 _ rfl rfl ?_
 refine Z2 4 ?_
 refine AF (C5 121 [Ptr rb 0, .iface 50 (I64 2)] 0 (Ez rb [errV 50 e, sv] 204) _ (fun v e' l' => v = .tuple #[] ∧ e' = (Ez rb [errV 50 (erN e 2), sv] 204) ∧ l' = []) (AH _ DE rfl) rfl (by rintro v l ⟨rfl, rfl⟩; exact ⟨_, _, rfl, rfl, rfl, rfl, rfl⟩) (fun w1 hw1 => D5 rb e 2 sv w1 ZD (hw1.en 0 rfl))) rfl ?_
 rintro v1 L1 ⟨_, _, ⟨rfl, rfl, rfl⟩, rfl⟩
 show JL _ _ _ _ (_ :: _) [_]
 refine Z2 9 ?_
 refine Z1 fun w1 hw1 => ?_
 exact ⟨_, _, rfl, ⟨rfl, rfl⟩, hw1⟩
theorem numRS_c (rb e : Nat) (ao : Option Addr) (n c : Nat) (s : Int) (w : World) (h0 : w.heap[rb]? = some (.cells [errV 50 e, SL ao n c].toArray 204 (0, 0))) (he : e = 0) (hs : Szd s) (hn : (n:Int) < s) : Calls Tryd.prog 109 #[Ptr rb 0, I64 (s)] w (Post w [rb] (fun v L => v = U64 0 ∧ L = [(Ez rb [errV 50 (erN e 2), SL ao n c] 204)])) := by
 refine enter w [rb] 29 [(Ez rb [errV 50 e, SL ao n c] 204)] [Ptr rb 0, I64 (s)] Tryd.func109 rfl rfl ZM (A2 (by simpa using h0) ZM ZM) ?_
 show JC _ _ _ [_, _] _
 refine Z2 9 ?_
 refine AC (AJ 143 _ (.bool true) (AH _ Tryd.call143 rfl) (fun w1 _ => sizedT_c (s) w1 hs)) rfl ?_
 show JL _ _ _ _ (_ :: _) [_]
 refine Z2 3 ?_
 refine AY _ rfl rfl ?_
 refine Z2 12 ?_
 refine AF (C5 127 [Ptr rb 0, I64 (s)] 0 (Ez rb [errV 50 e, SL ao n c] 204) _ (fun v e' l' => v = SL none 0 0 ∧ e' = (Ez rb [errV 50 (erN e 2), SL ao n c] 204) ∧ l' = []) (AH _ Tryd.call127 rfl) rfl (by rintro v l ⟨rfl, rfl⟩; exact ⟨_, _, rfl, rfl, rfl, rfl, rfl⟩) (fun w1 hw1 => rawRB0_c rb e ao n c (s) w1 (hw1.en 0 rfl) he (.inr hn))) rfl ?_
 rintro v1 L1 ⟨_, _, ⟨rfl, rfl, rfl⟩, rfl⟩
 show JL _ _ _ _ (_ :: _) [_]
 refine Z2 5 ?_
 refine C3 (ι := Unit) (fun _ => [(4, U64 0), (16, SL none 0 0), (17, I64 0), (18, I64 0), (5, U64 0)]) (fun _ => [(Ez rb [errV 50 (erN e 2), SL ao n c] 204)]) (fun _ => True) (fun _ => 1) () trivial (Sub.all rfl) rfl ?_
 rintro _ _
 show JC _ _ _ [_, _, _, _, _] [_]
 refine Z2 6 ?_
 refine AY _ rfl ZD ?_
 refine Z2 12 ?_
 refine Z1 fun w1 hw1 => ?_
 exact ⟨_, _, rfl, ⟨rfl, rfl⟩, hw1⟩
theorem numRE_c (rb e : Nat) (sv : Value) (s : Int) (w : World) (h0 : w.heap[rb]? = some (.cells [errV 50 e, sv].toArray 204 (0, 0))) (he : e ≠ 0) (hs : Szd s) : Calls Tryd.prog 109 #[Ptr rb 0, I64 (s)] w (Post w [rb] (fun v L => v = U64 0 ∧ L = [(Ez rb [errV 50 (erN e 2), sv] 204)])) := by
 refine enter w [rb] 29 [(Ez rb [errV 50 e, sv] 204)] [Ptr rb 0, I64 (s)] Tryd.func109 rfl rfl ZM (A2 (by simpa using h0) ZM ZM) ?_
 show JC _ _ _ [_, _] _
 refine Z2 9 ?_
 refine AC (AJ 143 _ (.bool true) (AH _ Tryd.call143 rfl) (fun w1 _ => sizedT_c (s) w1 hs)) rfl ?_
 show JL _ _ _ _ (_ :: _) [_]
 refine Z2 3 ?_
 refine AY _ rfl rfl ?_
 refine Z2 12 ?_
 refine AF (C5 127 [Ptr rb 0, I64 (s)] 0 (Ez rb [errV 50 e, sv] 204) _ (fun v e' l' => v = SL none 0 0 ∧ e' = (Ez rb [errV 50 (erN e 2), sv] 204) ∧ l' = []) (AH _ Tryd.call127 rfl) rfl (by rintro v l ⟨rfl, rfl⟩; exact ⟨_, _, rfl, rfl, rfl, rfl, rfl⟩) (fun w1 hw1 => rawRB1_c rb e sv (s) w1 (hw1.en 0 rfl) he (by unfold Szd at hs; omega))) rfl ?_
 rintro v1 L1 ⟨_, _, ⟨rfl, rfl, rfl⟩, rfl⟩
 show JL _ _ _ _ (_ :: _) [_]
 refine Z2 5 ?_
 refine C3 (ι := Unit) (fun _ => [(4, U64 0), (16, SL none 0 0), (17, I64 0), (18, I64 0), (5, U64 0)]) (fun _ => [(Ez rb [errV 50 (erN e 2), sv] 204)]) (fun _ => True) (fun _ => 1) () trivial (Sub.all rfl) rfl ?_
 rintro _ _
 show JC _ _ _ [_, _, _, _, _] [_]
 refine Z2 6 ?_
 refine AY _ rfl ZD ?_
 refine Z2 12 ?_
 refine Z1 fun w1 hw1 => ?_
 exact ⟨_, _, rfl, ⟨rfl, rfl⟩, hw1⟩
theorem numROk_c (rb e : Nat) (ao : Option Addr) (n c : Nat) (z : List UInt8) (k n2 c2 : Nat) (w : World) (h0 : w.heap[rb]? = some (.cells [errV 50 e, SL ao n c].toArray 204 (0, 0))) (hz : z.length = n) (hn : n ≤ 2000000000) (hc : n ≤ c) (hcm : c ≤ maxLen) (hr : RdB w [rb] ao z) (he : e = 0) (hs : Szd (k:Int)) (h2 : k ≤ n) (ht1 : k + n2 = n) (ht2 : k + c2 = c) : Calls Tryd.prog 109 #[Ptr rb 0, I64 k] w (Post w [rb] (fun v L => v = U64 (valK z k) ∧ L = [(Ez rb [errV 50 e, SL (advA ao c k) n2 c2] 204)])) := by
 have hs4 : k = 1 ∨ k = 2 ∨ k = 4 ∨ k = 8 := by have := hs; unfold Szd at this; omega
 refine enter w [rb] 29 [(Ez rb [errV 50 e, SL ao n c] 204)] [Ptr rb 0, I64 k] Tryd.func109 rfl rfl ZM (A2 (by simpa using h0) ZM ZM) ?_
 show JC _ _ _ [_, _] _
 refine Z2 9 ?_
 refine AC (AJ 143 _ (.bool true) (AH _ Tryd.call143 rfl) (fun w1 _ => sizedT_c ((k:Int)) w1 hs)) rfl ?_
 show JL _ _ _ _ (_ :: _) [_]
 refine Z2 3 ?_
 refine AY _ rfl rfl ?_
 refine Z2 12 ?_
 have hl1 : (z.drop k).length = (n - k) := by rw [List.length_drop, hz] <;> omega
 have hr1 := RdB.adv (c := c) hr k (by rw [hz]; omega) (by rw [hz]; omega)
 have hl2 : (mid z 0 k).length = k := EK (by rw [hz]; omega)
 refine AF (BE 127 _ [true] [rb] _ (AH _ Tryd.call127 rfl) rfl (fun w1 hw1 => rawROk_c rb e ao n c z k (n - k) (c - k) w1 (hw1.en 0 rfl) hz ZO ZO ZO (hr.at (M' := [rb]) hw1 (hw1.apart [0] _ rfl)) he (by unfold Szd at hs; omega) h2 ZO ZO)) rfl ?_
 rintro v1 L1 ⟨_, ⟨nb1, sp1, cp1, rfl, rfl, hc1, hc2, hc3⟩, rfl⟩
 show JL _ _ _ _ (_ :: _) [_, _]
 refine Z2 5 ?_
 refine C3 (ι := Nat × UInt64) (fun ⟨j, y⟩ => [(4, U64 0), (16, Slc nb1 0 k cp1), (17, I64 k), (18, I64 j), (5, U64 y)]) (fun ⟨j, y⟩ => [(Ez rb [errV 50 e, SL (advA ao c k) (n - k) (c - k)] 204), (Ez nb1 (cu8 (mid z 0 k) ++ sp1) 5)]) (fun ⟨j, y⟩ => j ≤ k ∧ y = valK (mid z 0 k) j) (fun ⟨j, y⟩ => k - j) (0, 0) ⟨ZO, by rw [valK]⟩ (Sub.all rfl) rfl ?_
 rintro ⟨j, y⟩ ⟨hx1, hx2⟩
 show JC _ _ _ [_, _, _, _, _] [_, _]
 refine Z2 6 ?_
 refine AX _ rfl (fun hb1 => ?_) (fun hb1 => ?_)
 ·
  have hp1 := of_decide_eq_true hb1
  refine Z2 6 ?_
  refine AE (Ptr nb1 j) (Ev_indexSl 5 1 j AM AW rfl rfl ZO ZO ZO) rfl ?_
  refine AE _ (AR rfl (B1 CM (A0 1 rfl (AU (Seg.get (g8_get (i := j) (by rw [hl2]; omega))))))) rfl ?_
  refine Z2 5 ?_
  refine AE (U64 (y <<< (8:UInt64))) (AT rfl rfl fun _ => bin_shl_u64 y _ _ 8 ZD rfl) rfl ?_
  refine Z2 1 ?_
  refine AE (U64 ((g8 (mid z 0 k) j).toUInt64)) (EW _ _ rfl fun _ => conv_u8_u64 (by rw [BS]; rfl) BQ _) rfl ?_
  refine AE (U64 ((y <<< (8:UInt64)) ||| ((g8 (mid z 0 k) j).toUInt64))) (AT rfl rfl fun _ => bin_or_u64 (y <<< (8:UInt64)) ((g8 (mid z 0 k) j).toUInt64)) rfl ?_
  refine Z2 5 ?_
  refine AE (I64 ((j:Int) + 1)) (AT rfl rfl fun _ => BR _ _ ((j:Int) + 1) ZO ZO) rfl ?_
  refine Z2 1 ?_
  refine A1 (B5 (C1 (j + 1, (y <<< (8:UInt64)) ||| ((g8 (mid z 0 k) j).toUInt64)) ⟨ZO, by rw [valK, ← hx2]⟩ (by first | (simp; omega) | simp | (dsimp only; omega) | omega) (Sub.all rfl) rfl))
 have hp1 := of_decide_eq_false hb1
 refine Z2 12 ?_
 refine A8 [true, false] ?_
 show JQ _ _ _ _ [_]
 refine Z1 fun w1 hw1 => ?_
 have e1 : j = k := by omega
 have e2 : valK (mid z 0 k) k = valK z k := valK_congr k fun i hi => by rw [g8_mid hi, Nat.zero_add]
 obtain rfl : n2 = (n - k) := by omega
 obtain rfl : c2 = (c - k) := by omega
 exact ⟨_, _, rfl, ⟨by rw [hx2, e1, e2], rfl⟩, hw1⟩
theorem hasRE_c (rb e : Nat) (sv : Value) (w : World) (h0 : w.heap[rb]? = some (.cells [errV 50 e, sv].toArray 204 (0, 0))) (he : e ≠ 0) : Calls Tryd.prog 152 #[Ptr rb 0] w (Post w [rb] (fun v L => v = .agg (cu8 (zr8 32)).toArray ∧ L = [(Ez rb [errV 50 (erN e 2), sv] 204)])) := by
 refine enter w [rb] 9 [(Ez rb [errV 50 e, sv] 204)] [Ptr rb 0] Tryd.func152 rfl rfl ZM (A2 (by simpa using h0) ZM ZM) ?_
 show JC _ _ _ [_] _
 refine A4 (AO (AF (AS _ (cu8 (zr8 32)) CK ZR) rfl ?_))
 rintro v1 L1 ⟨nb1, hnb1, rfl, rfl⟩
 show JL _ _ _ _ (_ :: _) [_, _]
 refine Z2 4 ?_
 refine AF (AS _ (cu8 (zr8 32)) CK ZR) rfl ?_
 rintro v1 L1 ⟨nb2, hnb2, rfl, rfl⟩
 show JL _ _ _ _ (_ :: _) [_, _, _]
 refine A1 (AK (A4 (Z8 9 3 [(0, Slc nb2 0 32 32), (1, Ptr rb 0)] ?_)))
 refine Z7 ⟨[], [0, 1], [], [0, 1], [2]⟩ 2 (hq := ⟨AA rfl rfl (B4 32 5 1 0 32 0 32 DK AW rfl rfl rfl ZO ZO ZO ZO ZO 32 ZO), BM rfl rfl rfl, trivial⟩) (AL rfl (C5 127 [Ptr rb 0, I64 32] 0 (Ez rb [errV 50 e, sv] 204) _ (fun v e' l' => v = SL none 0 0 ∧ e' = (Ez rb [errV 50 (erN e 2), sv] 204) ∧ l' = []) (AH _ Tryd.call127 rfl) rfl (by rintro v l ⟨rfl, rfl⟩; exact ⟨_, _, rfl, rfl, rfl, rfl, rfl⟩) (fun w1 hw1 => rawRB1_c rb e sv (32:Int) w1 (hw1.en 0 rfl) he ZD))) ?_
 rintro v1 L1 ⟨_, _, ⟨rfl, rfl, rfl⟩, rfl⟩
 refine ⟨[], ?_⟩
 show DP _ _ _ _ _ _ _ _ [_, _, _]
 refine Z6 ⟨[2], [0, 1], [1], [0], [3]⟩ 3 (hq := ⟨AA rfl rfl (B4 32 5 1 0 32 0 32 DK AW rfl rfl rfl ZO ZO ZO ZO ZO 32 ZO), trivial⟩) (AL rfl (CP 43 43 5 2 nb2 0 32 32 (cu8 (zr8 32)) 54 none 0 0 0 [] (cu8 (zr8 32)) AM BZ rfl rfl rfl rfl rfl SrcAt.nil ZM ES (ET _ _))) ?_
 show DP _ _ _ _ _ _ _ _ [_, _, _]
 refine Z5 ⟨[2, 3], [0, 1], [0, 1], [], []⟩ ?_
 refine A9 (F' := [(2, Ptr nb1 0), (3, Ptr nb2 0)]) ZR ?_
 refine AK (A4 (AO (AE _ (AR rfl (BV DG BY (CI (AN 32)) (A0 2 rfl (AG _)))) rfl ?_)))
 refine AC (AB 1 nb1 32 _ 54 (cu8 (zr8 32)) rfl rfl rfl BY (CI (AN 32)) (by first | exact A6 | exact EF | exact EB | (simp [cu8, cu32, cu64, Value.oneCell']; done)) ZS (AI ZS)) rfl ?_
 show JL _ _ _ _ _ [_, _, _]
 refine A1 (AK (CH (A8 [true, true, false] ?_)))
 show JQ _ _ _ _ [_, _]
 refine DR (.agg (cu8 (zr8 32)).toArray) (res1 Tryd.results152 (EV rfl (BV DG BY (CI (AN 32)) (A0 1 rfl (AG _))))) fun w1 hw1 => ?_
 exact ⟨_, _, rfl, ⟨by first | rfl | simp [spl], rfl⟩, hw1.sub ZM ZM⟩
theorem hasRS_c (rb e : Nat) (ao : Option Addr) (n c : Nat) (w : World) (h0 : w.heap[rb]? = some (.cells [errV 50 e, SL ao n c].toArray 204 (0, 0))) (he : e = 0) (hl : n < 32) : Calls Tryd.prog 152 #[Ptr rb 0] w (Post w [rb] (fun v L => v = .agg (cu8 (zr8 32)).toArray ∧ L = [(Ez rb [errV 50 (erN e 2), SL ao n c] 204)])) := by
 refine enter w [rb] 9 [(Ez rb [errV 50 e, SL ao n c] 204)] [Ptr rb 0] Tryd.func152 rfl rfl ZM (A2 (by simpa using h0) ZM ZM) ?_
 show JC _ _ _ [_] _
 refine A4 (AO (AF (AS _ (cu8 (zr8 32)) CK ZR) rfl ?_))
 rintro v1 L1 ⟨nb1, hnb1, rfl, rfl⟩
 show JL _ _ _ _ (_ :: _) [_, _]
 refine Z2 4 ?_
 refine AF (AS _ (cu8 (zr8 32)) CK ZR) rfl ?_
 rintro v1 L1 ⟨nb2, hnb2, rfl, rfl⟩
 show JL _ _ _ _ (_ :: _) [_, _, _]
 refine A1 (AK (A4 (Z8 9 3 [(0, Slc nb2 0 32 32), (1, Ptr rb 0)] ?_)))
 refine Z7 ⟨[], [0, 1], [], [0, 1], [2]⟩ 2 (hq := ⟨AA rfl rfl (B4 32 5 1 0 32 0 32 DK AW rfl rfl rfl ZO ZO ZO ZO ZO 32 ZO), BM rfl rfl rfl, trivial⟩) (AL rfl (C5 127 [Ptr rb 0, I64 32] 0 (Ez rb [errV 50 e, SL ao n c] 204) _ (fun v e' l' => v = SL none 0 0 ∧ e' = (Ez rb [errV 50 (erN e 2), SL ao n c] 204) ∧ l' = []) (AH _ Tryd.call127 rfl) rfl (by rintro v l ⟨rfl, rfl⟩; exact ⟨_, _, rfl, rfl, rfl, rfl, rfl⟩) (fun w1 hw1 => rawRB0_c rb e ao n c (32:Int) w1 (hw1.en 0 rfl) he (.inr ZO)))) ?_
 rintro v1 L1 ⟨_, _, ⟨rfl, rfl, rfl⟩, rfl⟩
 refine ⟨[], ?_⟩
 show DP _ _ _ _ _ _ _ _ [_, _, _]
 refine Z6 ⟨[2], [0, 1], [1], [0], [3]⟩ 3 (hq := ⟨AA rfl rfl (B4 32 5 1 0 32 0 32 DK AW rfl rfl rfl ZO ZO ZO ZO ZO 32 ZO), trivial⟩) (AL rfl (CP 43 43 5 2 nb2 0 32 32 (cu8 (zr8 32)) 54 none 0 0 0 [] (cu8 (zr8 32)) AM BZ rfl rfl rfl rfl rfl SrcAt.nil ZM ES (ET _ _))) ?_
 show DP _ _ _ _ _ _ _ _ [_, _, _]
 refine Z5 ⟨[2, 3], [0, 1], [0, 1], [], []⟩ ?_
 refine A9 (F' := [(2, Ptr nb1 0), (3, Ptr nb2 0)]) ZR ?_
 refine AK (A4 (AO (AE _ (AR rfl (BV DG BY (CI (AN 32)) (A0 2 rfl (AG _)))) rfl ?_)))
 refine AC (AB 1 nb1 32 _ 54 (cu8 (zr8 32)) rfl rfl rfl BY (CI (AN 32)) (by first | exact A6 | exact EF | exact EB | (simp [cu8, cu32, cu64, Value.oneCell']; done)) ZS (AI ZS)) rfl ?_
 show JL _ _ _ _ _ [_, _, _]
 refine A1 (AK (CH (A8 [true, true, false] ?_)))
 show JQ _ _ _ _ [_, _]
 refine DR (.agg (cu8 (zr8 32)).toArray) (res1 Tryd.results152 (EV rfl (BV DG BY (CI (AN 32)) (A0 1 rfl (AG _))))) fun w1 hw1 => ?_
 exact ⟨_, _, rfl, ⟨by first | rfl | simp [spl], rfl⟩, hw1.sub ZM ZM⟩
theorem hasROk_c (rb e : Nat) (ao : Option Addr) (n c : Nat) (z : List UInt8)  (w : World) (h0 : w.heap[rb]? = some (.cells [errV 50 e, SL ao n c].toArray 204 (0, 0))) (hz : z.length = n) (hn : n ≤ 2000000000) (hc : n ≤ c) (hcm : c ≤ maxLen) (hr : RdB w [rb] ao z) (he : e = 0) (hl : 32 ≤ n) : Calls Tryd.prog 152 #[Ptr rb 0] w (Post w [rb] (fun v L => v = .agg (cu8 (mid z 0 32)).toArray ∧ L = [(Ez rb [errV 50 e, SL (advA ao c 32) (n - 32) (c - 32)] 204)])) := by
 refine enter w [rb] 9 [(Ez rb [errV 50 e, SL ao n c] 204)] [Ptr rb 0] Tryd.func152 rfl rfl ZM (A2 (by simpa using h0) ZM ZM) ?_
 show JC _ _ _ [_] _
 refine A4 (AO (AF (AS _ (cu8 (zr8 32)) CK ZR) rfl ?_))
 rintro v1 L1 ⟨nb1, hnb1, rfl, rfl⟩
 show JL _ _ _ _ (_ :: _) [_, _]
 refine Z2 4 ?_
 refine AF (AS _ (cu8 (zr8 32)) CK ZR) rfl ?_
 rintro v1 L1 ⟨nb2, hnb2, rfl, rfl⟩
 show JL _ _ _ _ (_ :: _) [_, _, _]
 refine A1 (AK (A4 (Z8 9 3 [(0, Slc nb2 0 32 32), (1, Ptr rb 0)] ?_)))
 have hl1 : (z.drop 32).length = (n - 32) := by rw [List.length_drop, hz] <;> omega
 have hr1 := RdB.adv (c := c) hr 32 (by rw [hz]; omega) (by rw [hz]; omega)
 have hl2 : (mid z 0 32).length = 32 := EK (by rw [hz]; omega)
 refine Z7 ⟨[], [0, 1], [], [0, 1], [2]⟩ 2 (hq := ⟨AA rfl rfl (B4 32 5 1 0 32 0 32 DK AW rfl rfl rfl ZO ZO ZO ZO ZO 32 ZO), BM rfl rfl rfl, trivial⟩) (AL rfl (BE 127 _ [true, false, false] [rb] _ (AH _ Tryd.call127 rfl) rfl (fun w1 hw1 => rawROk_c rb e ao n c z 32 (n - 32) (c - 32) w1 (hw1.en 0 rfl) hz ZO ZO ZO (hr.at (M' := [rb]) hw1 (hw1.apart [0] _ rfl)) he ZO hl ZO ZO))) ?_
 rintro v1 L1 ⟨_, ⟨nb3, sp1, cp1, rfl, rfl, hc1, hc2, hc3⟩, rfl⟩
 refine ⟨[], ?_⟩
 show DP _ _ _ _ _ _ _ _ [_, _, _, _]
 refine Z6 ⟨[2], [0, 1], [1], [0], [3]⟩ 3 (hq := ⟨AA rfl rfl (B4 32 5 1 0 32 0 32 DK AW rfl rfl rfl ZO ZO ZO ZO ZO 32 ZO), trivial⟩) (AL rfl (CP 43 43 5 1 nb2 0 32 32 (cu8 (zr8 32)) 54 (some ⟨nb3, 0, none⟩) 32 cp1 32 (cu8 (mid z 0 32)) (cu8 (mid z 0 32)) AM BZ rfl rfl rfl rfl (by simp [hl2]; try omega) (SrcAt.mem (A0 3 rfl (AU (AG _)))) (by simp [(AN 32)]; try omega) (by first | exact A6 | exact EF | exact EB | (simp [cu8, cu32, cu64, Value.oneCell']; done)) (AI (by simp [(AN 32), hl2])))) ?_
 show DP _ _ _ _ _ _ _ _ [_, _, _, _]
 refine Z5 ⟨[2, 3], [0, 1], [0, 1], [], []⟩ ?_
 refine A9 (F' := [(2, Ptr nb1 0), (3, Ptr nb2 0)]) ZR ?_
 refine AK (A4 (AO (AE _ (AR rfl (BV DG BY (CI hl2) (A0 1 rfl (AG _)))) rfl ?_)))
 refine AC (AB 0 nb1 32 _ 54 (cu8 (mid z 0 32)) rfl rfl rfl BY (CI hl2) (by first | exact A6 | exact EF | exact EB | (simp [cu8, cu32, cu64, Value.oneCell']; done)) ZS (AI (by simp [(AN 32), hl2]))) rfl ?_
 show JL _ _ _ _ _ [_, _, _, _]
 refine A1 (AK (CH (A8 [true, false, true, false] ?_)))
 show JQ _ _ _ _ [_, _]
 refine DR (.agg (cu8 (mid z 0 32)).toArray) (res1 Tryd.results152 (EV rfl (BV DG BY (CI hl2) (A0 0 rfl (AG _))))) fun w1 hw1 => ?_
 exact ⟨_, _, rfl, ⟨by first | rfl | simp [spl], rfl⟩, hw1.sub ZM ZM⟩
theorem flgRE_c (rb e : Nat) (sv : Value) (w : World) (h0 : w.heap[rb]? = some (.cells [errV 50 e, sv].toArray 204 (0, 0))) (he : e ≠ 0) : Calls Tryd.prog 119 #[Ptr rb 0] w (Post w [rb] (fun v L => v = .bool false ∧ L = [(Ez rb [errV 50 (erN e 2), sv] 204)])) := by
 refine enter w [rb] 21 [(Ez rb [errV 50 e, sv] 204)] [Ptr rb 0] Tryd.func119 rfl rfl ZM (A2 (by simpa using h0) ZM ZM) ?_
 show JC _ _ _ [_] _
 refine Z2 9 ?_
 refine AC (AJ 61 _ (I64 0) (AH _ C7 rfl) (fun w1 hw1 => leftE_c rb e sv w1 (RdA.of hw1 (A0 0 rfl (AG _)) ZM) he)) rfl ?_
 show JL _ _ _ _ (_ :: _) [_]
 refine Z2 2 ?_
 refine D4 7 3 6 false _ rfl rfl ZD rfl (AE _ (CC _ rfl ZD rfl) rfl ?_)
 refine A1 (AK (A7 _ rfl rfl ?_))
 refine Z2 4 ?_
 refine AF (C5 121 [Ptr rb 0, .iface 50 (I64 2)] 0 (Ez rb [errV 50 e, sv] 204) _ (fun v e' l' => v = .tuple #[] ∧ e' = (Ez rb [errV 50 (erN e 2), sv] 204) ∧ l' = []) (AH _ DE rfl) rfl (by rintro v l ⟨rfl, rfl⟩; exact ⟨_, _, rfl, rfl, rfl, rfl, rfl⟩) (fun w1 hw1 => D5 rb e 2 sv w1 ZD (hw1.en 0 rfl))) rfl ?_
 rintro v1 L1 ⟨_, _, ⟨rfl, rfl, rfl⟩, rfl⟩
 show JL _ _ _ _ (_ :: _) [_]
 refine Z2 9 ?_
 refine Z1 fun w1 hw1 => ?_
 exact ⟨_, _, rfl, ⟨rfl, rfl⟩, hw1⟩
theorem flgRS_c (rb e : Nat) (ao : Option Addr) (n c : Nat) (w : World) (h0 : w.heap[rb]? = some (.cells [errV 50 e, SL ao n c].toArray 204 (0, 0))) (he : e = 0) (hl : n = 0) : Calls Tryd.prog 119 #[Ptr rb 0] w (Post w [rb] (fun v L => v = .bool false ∧ L = [(Ez rb [errV 50 (erN e 2), SL ao n c] 204)])) := by
 refine enter w [rb] 21 [(Ez rb [errV 50 e, SL ao n c] 204)] [Ptr rb 0] Tryd.func119 rfl rfl ZM (A2 (by simpa using h0) ZM ZM) ?_
 show JC _ _ _ [_] _
 refine Z2 9 ?_
 refine AC (AJ 61 _ (I64 n) (AH _ C7 rfl) (fun w1 hw1 => leftZ_c rb e ao n c w1 (RdA.of hw1 (A0 0 rfl (AG _)) ZM) he)) rfl ?_
 show JL _ _ _ _ (_ :: _) [_]
 refine Z2 2 ?_
 refine D4 7 3 6 false _ rfl rfl (decide_eq_true ZO) rfl (AE _ (CC _ rfl (decide_eq_true ZO) rfl) rfl ?_)
 refine A1 (AK (A7 _ rfl rfl ?_))
 refine Z2 4 ?_
 refine AF (C5 121 [Ptr rb 0, .iface 50 (I64 2)] 0 (Ez rb [errV 50 e, SL ao n c] 204) _ (fun v e' l' => v = .tuple #[] ∧ e' = (Ez rb [errV 50 (erN e 2), SL ao n c] 204) ∧ l' = []) (AH _ DE rfl) rfl (by rintro v l ⟨rfl, rfl⟩; exact ⟨_, _, rfl, rfl, rfl, rfl, rfl⟩) (fun w1 hw1 => D5 rb e 2 (SL ao n c) w1 ZD (hw1.en 0 rfl))) rfl ?_
 rintro v1 L1 ⟨_, _, ⟨rfl, rfl, rfl⟩, rfl⟩
 show JL _ _ _ _ (_ :: _) [_]
 refine Z2 9 ?_
 refine Z1 fun w1 hw1 => ?_
 exact ⟨_, _, rfl, ⟨rfl, rfl⟩, hw1⟩
theorem flgRB_c (rb e : Nat) (ao : Option Addr) (n c : Nat) (z : List UInt8)  (w : World) (h0 : w.heap[rb]? = some (.cells [errV 50 e, SL ao n c].toArray 204 (0, 0))) (hz : z.length = n) (hn : n ≤ 2000000000) (hc : n ≤ c) (hcm : c ≤ maxLen) (hr : RdB w [rb] ao z) (he : e = 0) (hl : 1 ≤ n) (hb : (1:UInt8) < g8 z 0) : Calls Tryd.prog 119 #[Ptr rb 0] w (Post w [rb] (fun v L => v = .bool false ∧ L = [(Ez rb [errV 50 (erN e 2), SL ao n c] 204)])) := by
 refine enter w [rb] 21 [(Ez rb [errV 50 e, SL ao n c] 204)] [Ptr rb 0] Tryd.func119 rfl rfl ZM (A2 (by simpa using h0) ZM ZM) ?_
 show JC _ _ _ [_] _
 refine Z2 9 ?_
 refine AC (AJ 61 _ (I64 n) (AH _ C7 rfl) (fun w1 hw1 => leftZ_c rb e ao n c w1 (RdA.of hw1 (A0 0 rfl (AG _)) ZM) he)) rfl ?_
 show JL _ _ _ _ (_ :: _) [_]
 refine Z2 2 ?_
 refine AD 3 6 false _ _ rfl rfl (decide_eq_false ZO) ZE rfl ?_
 refine AD 3 6 false _ _ rfl rfl (decide_eq_false ZO) (B3 rfl) rfl ?_
 refine AD 3 6 false _ (Ptr rb 1) rfl rfl (decide_eq_false ZO) ZE rfl ?_
 refine AD 3 6 false _ (SL ao n c) rfl rfl (decide_eq_false ZO) ZE rfl ?_
 obtain ⟨bz1, oz1, hz1, hm1⟩ := hr.pos (by rw [hz]; omega)
 refine AD 3 6 false _ (Ptr bz1 oz1) rfl rfl (decide_eq_false ZO) (BK 5 1 oz1 AM AW rfl hz1 rfl ZO ZO ZO) rfl ?_
 refine AD 3 6 false _ (U8 (g8 z 0)) rfl rfl (decide_eq_false ZO) (AR rfl (B1 CM (BP (MemAt.base hm1.1 hm1.2.1 hm1.2.2) (Seg.get (g8_get (i := 0) (by rw [hz]; omega))) (by first | omega | (simp; done) | (simp; omega))))) rfl ?_
 refine AD 3 6 false _ (.bool (decide ((1:UInt8) < (g8 z 0)))) rfl rfl (decide_eq_false ZO) (AT rfl rfl fun _ => bin_gtr_u8 (g8 z 0) (1:UInt8)) rfl ?_
 refine AE _ (BO _ rfl (decide_eq_false ZO) rfl) rfl ?_
 refine A1 (AK (A7 _ rfl (decide_eq_true hb) ?_))
 refine Z2 4 ?_
 refine AF (C5 121 [Ptr rb 0, .iface 50 (I64 2)] 0 (Ez rb [errV 50 e, SL ao n c] 204) _ (fun v e' l' => v = .tuple #[] ∧ e' = (Ez rb [errV 50 (erN e 2), SL ao n c] 204) ∧ l' = []) (AH _ DE rfl) rfl (by rintro v l ⟨rfl, rfl⟩; exact ⟨_, _, rfl, rfl, rfl, rfl, rfl⟩) (fun w1 hw1 => D5 rb e 2 (SL ao n c) w1 ZD (hw1.en 0 rfl))) rfl ?_
 rintro v1 L1 ⟨_, _, ⟨rfl, rfl, rfl⟩, rfl⟩
 show JL _ _ _ _ (_ :: _) [_]
 refine Z2 9 ?_
 refine Z1 fun w1 hw1 => ?_
 exact ⟨_, _, rfl, ⟨rfl, rfl⟩, hw1⟩
theorem flgROk_c (rb e : Nat) (ao : Option Addr) (n c : Nat) (z : List UInt8)  (w : World) (h0 : w.heap[rb]? = some (.cells [errV 50 e, SL ao n c].toArray 204 (0, 0))) (hz : z.length = n) (hn : n ≤ 2000000000) (hc : n ≤ c) (hcm : c ≤ maxLen) (hr : RdB w [rb] ao z) (he : e = 0) (hl : 1 ≤ n) (hb : ¬ (1:UInt8) < g8 z 0) : Calls Tryd.prog 119 #[Ptr rb 0] w (Post w [rb] (fun v L => v = .bool (decide (g8 z 0 = 1)) ∧ L = [(Ez rb [errV 50 e, SL (advA ao c 1) (n - 1) (c - 1)] 204)])) := by
 refine enter w [rb] 21 [(Ez rb [errV 50 e, SL ao n c] 204)] [Ptr rb 0] Tryd.func119 rfl rfl ZM (A2 (by simpa using h0) ZM ZM) ?_
 show JC _ _ _ [_] _
 refine Z2 9 ?_
 refine AC (AJ 61 _ (I64 n) (AH _ C7 rfl) (fun w1 hw1 => leftZ_c rb e ao n c w1 (RdA.of hw1 (A0 0 rfl (AG _)) ZM) he)) rfl ?_
 show JL _ _ _ _ (_ :: _) [_]
 refine Z2 2 ?_
 refine AD 3 6 false _ _ rfl rfl (decide_eq_false ZO) ZE rfl ?_
 refine AD 3 6 false _ _ rfl rfl (decide_eq_false ZO) (B3 rfl) rfl ?_
 refine AD 3 6 false _ (Ptr rb 1) rfl rfl (decide_eq_false ZO) ZE rfl ?_
 refine AD 3 6 false _ (SL ao n c) rfl rfl (decide_eq_false ZO) ZE rfl ?_
 obtain ⟨bz1, oz1, hz1, hm1⟩ := hr.pos (by rw [hz]; omega)
 refine AD 3 6 false _ (Ptr bz1 oz1) rfl rfl (decide_eq_false ZO) (BK 5 1 oz1 AM AW rfl hz1 rfl ZO ZO ZO) rfl ?_
 refine AD 3 6 false _ (U8 (g8 z 0)) rfl rfl (decide_eq_false ZO) (AR rfl (B1 CM (BP (MemAt.base hm1.1 hm1.2.1 hm1.2.2) (Seg.get (g8_get (i := 0) (by rw [hz]; omega))) (by first | omega | (simp; done) | (simp; omega))))) rfl ?_
 refine AD 3 6 false _ (.bool (decide ((1:UInt8) < (g8 z 0)))) rfl rfl (decide_eq_false ZO) (AT rfl rfl fun _ => bin_gtr_u8 (g8 z 0) (1:UInt8)) rfl ?_
 refine AE _ (BO _ rfl (decide_eq_false ZO) rfl) rfl ?_
 refine A1 (AK (AY _ rfl (decide_eq_false hb) ?_))
 refine Z2 5 ?_
 have hl1 : (z.drop 1).length = (n - 1) := by rw [List.length_drop, hz] <;> omega
 have hr1 := RdB.adv (c := c) hr 1 (by rw [hz]; omega) (by rw [hz]; omega)
 refine AF (C5 109 [Ptr rb 0, I64 1] 0 (Ez rb [errV 50 e, SL ao n c] 204) _ (fun v e' l' => v = U64 (valK z 1) ∧ e' = (Ez rb [errV 50 e, SL (advA ao c 1) (n - 1) (c - 1)] 204) ∧ l' = []) (AH _ CA rfl) rfl (by rintro v l ⟨rfl, rfl⟩; exact ⟨_, _, rfl, rfl, rfl, rfl, rfl⟩) (fun w1 hw1 => numROk_c rb e ao n c z 1 (n - 1) (c - 1) w1 (hw1.en 0 rfl) hz ZO ZO ZO (hr.at (M' := [rb]) hw1 (hw1.apart [0] _ rfl)) he ZU ZO ZO ZO)) rfl ?_
 rintro v1 L1 ⟨_, _, ⟨rfl, rfl, rfl⟩, rfl⟩
 show JL _ _ _ _ (_ :: _) [_]
 refine AE (.bool (decide ((valK z 1) = (1:UInt64)))) (AT rfl rfl fun _ => DS (valK z 1) (1:UInt64)) rfl ?_
 refine Z2 4 ?_
 refine Z1 fun w1 hw1 => ?_
 exact ⟨_, _, rfl, ⟨congrArg Value.bool (decide_eq_decide.2 (Iff.of_eq (valK_flag z))), rfl⟩, hw1⟩
theorem endE_c (rb e : Nat) (sv : Value) (w : World) (hw : RdA w rb 0 [errV 50 e, sv]) (he : e ≠ 0) : Calls Tryd.prog 63 #[Ptr rb 0] w (Post w [] (fun v L => v = errV 50 e ∧ L = [])) := by
 refine enter w [] 27 [] [Ptr rb 0] Tryd.func63 rfl rfl ZM (A2 ZM ZM ZM) ?_
 show JC _ _ _ [_] _
 refine Z2 10 ?_
 refine AE (.bool false) (CG _ _ _ rfl rfl (fun _ => EQ ..) fun _ => EX Tryd.underlying110) rfl ?_
 refine Z2 3 ?_
 refine AY _ rfl rfl ?_
 refine Z2 3 ?_
 refine AE _ (B3 rfl) rfl ?_
 refine Z2 2 ?_
 refine AE _ (AR rfl (B1 Tryd.isAgg45 (BP (hw.mem ZM) (Seg.head) (by first | omega | (simp; done) | (simp; omega))))) rfl ?_
 refine AE (.bool (!(decide (e = 0)))) (CG _ _ _ rfl rfl (fun _ => BL ..) fun _ => CW AV _ _) rfl ?_
 refine Z2 3 ?_
 refine A7 _ rfl (by rw [show (decide (e = 0)) = false from (decide_eq_false he)] <;> rfl) ?_
 refine Z2 3 ?_
 refine AE _ (B3 rfl) rfl ?_
 refine Z2 2 ?_
 refine AE _ (AR rfl (B1 Tryd.isAgg45 (BP (hw.mem ZM) (Seg.head) (by first | omega | (simp; done) | (simp; omega))))) rfl ?_
 refine Z2 6 ?_
 refine Z1 fun w1 hw1 => ?_
 exact ⟨_, [], rfl, ⟨rfl, rfl⟩, hw1.no⟩
theorem endZ_c (rb e : Nat) (ao : Option Addr) (n c : Nat) (w : World) (hw : RdA w rb 0 [errV 50 e, SL ao n c]) (he : e = 0) (hn : n = 0) : Calls Tryd.prog 63 #[Ptr rb 0] w (Post w [] (fun v L => v = .nilIface ∧ L = [])) := by
 refine enter w [] 27 [] [Ptr rb 0] Tryd.func63 rfl rfl ZM (A2 ZM ZM ZM) ?_
 show JC _ _ _ [_] _
 refine Z2 10 ?_
 refine AE (.bool false) (CG _ _ _ rfl rfl (fun _ => EQ ..) fun _ => EX Tryd.underlying110) rfl ?_
 refine Z2 3 ?_
 refine AY _ rfl rfl ?_
 refine Z2 3 ?_
 refine AE _ (B3 rfl) rfl ?_
 refine Z2 2 ?_
 refine AE _ (AR rfl (B1 Tryd.isAgg45 (BP (hw.mem ZM) (Seg.head) (by first | omega | (simp; done) | (simp; omega))))) rfl ?_
 refine AE (.bool (!(decide (e = 0)))) (CG _ _ _ rfl rfl (fun _ => BL ..) fun _ => CW AV _ _) rfl ?_
 refine Z2 3 ?_
 refine AY _ rfl (by rw [show (decide (e = 0)) = true from (decide_eq_true he)] <;> rfl) ?_
 refine Z2 3 ?_
 refine AE _ (B3 rfl) rfl ?_
 refine Z2 1 ?_
 refine AE _ (AR rfl (B1 Tryd.isAgg43 (BP (hw.mem ZM) (B0 (Seg.head)) (by first | omega | (simp; done) | (simp; omega))))) rfl ?_
 refine Z2 5 ?_
 refine AY _ rfl (decide_eq_false ZO) ?_
 refine Z2 9 ?_
 refine Z1 fun w1 hw1 => ?_
 exact ⟨_, [], rfl, ⟨rfl, rfl⟩, hw1.no⟩
theorem endB_c (rb e : Nat) (ao : Option Addr) (n c : Nat) (w : World) (hw : RdA w rb 0 [errV 50 e, SL ao n c]) (he : e = 0) (hn : n ≠ 0) : Calls Tryd.prog 63 #[Ptr rb 0] w (Post w [] (fun v L => v = .iface 50 (I64 2) ∧ L = [])) := by
 refine enter w [] 27 [] [Ptr rb 0] Tryd.func63 rfl rfl ZM (A2 ZM ZM ZM) ?_
 show JC _ _ _ [_] _
 refine Z2 10 ?_
 refine AE (.bool false) (CG _ _ _ rfl rfl (fun _ => EQ ..) fun _ => EX Tryd.underlying110) rfl ?_
 refine Z2 3 ?_
 refine AY _ rfl rfl ?_
 refine Z2 3 ?_
 refine AE _ (B3 rfl) rfl ?_
 refine Z2 2 ?_
 refine AE _ (AR rfl (B1 Tryd.isAgg45 (BP (hw.mem ZM) (Seg.head) (by first | omega | (simp; done) | (simp; omega))))) rfl ?_
 refine AE (.bool (!(decide (e = 0)))) (CG _ _ _ rfl rfl (fun _ => BL ..) fun _ => CW AV _ _) rfl ?_
 refine Z2 3 ?_
 refine AY _ rfl (by rw [show (decide (e = 0)) = true from (decide_eq_true he)] <;> rfl) ?_
 refine Z2 3 ?_
 refine AE _ (B3 rfl) rfl ?_
 refine Z2 1 ?_
 refine AE _ (AR rfl (B1 Tryd.isAgg43 (BP (hw.mem ZM) (B0 (Seg.head)) (by first | omega | (simp; done) | (simp; omega))))) rfl ?_
 refine Z2 5 ?_
 refine A7 _ rfl (decide_eq_true ZO) ?_
 refine Z2 9 ?_
 refine Z1 fun w1 hw1 => ?_
 exact ⟨_, [], rfl, ⟨rfl, rfl⟩, hw1.no⟩
theorem end_w (rb e : Nat) (ao : Option Addr) (n c : Nat) (w : World) (hw : RdA w rb 0 [errV 50 e, SL ao n c]) : Calls Tryd.prog 63 #[Ptr rb 0] w (Post w [] (fun v L => v = errV 50 (endN e n) ∧ L = [])) := by
 by_cases he : e = 0
 ·
  by_cases hn : n = 0
  ·
   rw [endN, if_pos he, if_pos hn]; exact endZ_c rb e ao n c w hw he hn
  ·
   rw [endN, if_pos he, if_neg hn]; exact endB_c rb e ao n c w hw he hn
 ·
  rw [endN, if_neg he]; exact endE_c rb e _ w hw he
theorem from_c (ax : Option Addr) (p cx : Nat) (z : List UInt8) (w : World) (ha : ax.isNone = false) (hz : z.length = p) (hn : p ≤ 2000000000) (hr : RdB w [] ax z) : Calls Tryd.prog 59 #[SL ax p cx] w (Post w [] (fun v L => ∃ rb g sp cap, v = Ptr rb 0 ∧ L = [(Ez rb [.nilIface, Slc g 0 p cap] 204), (Ez g (cu8 z ++ sp) 5)] ∧ sp.length = cap - p ∧ p ≤ cap ∧ cap ≤ maxLen)) := by
 refine enter w [] 7 [] [SL ax p cx] Tryd.func59 rfl rfl ZM (A2 ZM ZM ZM) ?_
 show JC _ _ _ [_] _
 refine Z2 8 ?_
 refine AF (A5 108 _ _ (AH _ Tryd.call108 rfl) (fun w1 hw1 => sclone_c ax p cx z w1 ha hz ZO (hr.at (M' := []) hw1 ZM))) rfl ?_
 rintro v1 L1 ⟨_, ⟨nb1, sp1, cp1, rfl, rfl, hc1, hc2, hc3⟩, rfl⟩
 show JL _ _ _ _ (_ :: _) [_]
 refine AE (.agg #[.nilIface, Slc nb1 0 p cp1]) (DN [(1, Slc nb1 0 p cp1)] _ rfl (fun _ => by kernel_rfl)) rfl ?_
 refine AF (B2 (.agg #[.nilIface, Slc nb1 0 p cp1]) ([.nilIface, Slc nb1 0 p cp1]) rfl (by first | rfl | simp)) rfl ?_
 rintro v1 L1 ⟨nb2, hnb2, rfl, rfl⟩
 show JL _ _ _ _ (_ :: _) [_, _]
 refine Z2 4 ?_
 refine Z1 fun w1 hw1 => ?_
 exact ⟨_, _, rfl, ⟨nb2, nb1, sp1, cp1, rfl, rfl, hc1, hc2, hc3⟩, hw1.sub ZM (by simpa using hw1.ne (i := 1) (j := 0) rfl rfl ZD)⟩
theorem fromNil_c  (w : World) : Calls Tryd.prog 59 #[SL none 0 0] w (Post w [] (fun v L => ∃ rb, v = Ptr rb 0 ∧ L = [(Ez rb [.nilIface, SL none 0 0] 204)])) := by
 refine enter w [] 7 [] [SL none 0 0] Tryd.func59 rfl rfl ZM (A2 ZM ZM ZM) ?_
 show JC _ _ _ [_] _
 refine Z2 8 ?_
 refine AC (AJ 108 _ (SL none 0 0) (AH _ Tryd.call108 rfl) (fun w1 hw1 => scloneNil_c w1)) rfl ?_
 show JL _ _ _ _ (_ :: _) []
 refine AE (.agg #[.nilIface, SL none 0 0]) (DN [(1, SL none 0 0)] _ rfl (fun _ => by kernel_rfl)) rfl ?_
 refine AF (B2 (.agg #[.nilIface, SL none 0 0]) ([.nilIface, SL none 0 0]) rfl (by first | rfl | simp)) rfl ?_
 rintro v1 L1 ⟨nb1, hnb1, rfl, rfl⟩
 show JL _ _ _ _ (_ :: _) [_]
 refine Z2 4 ?_
 refine Z1 fun w1 hw1 => ?_
 exact ⟨_, _, rfl, ⟨nb1, rfl, rfl⟩, hw1.sub ZM ZM⟩
attribute [local irreducible] constL initL putL
theorem pright_c (ai : Option Addr) (ni ci : Nat) (l : List UInt64)  (w : World) (hl : l.length = ni) (hnm : ni ≤ 2000000) (hnc : ni ≤ ci) (hcm : ci ≤ maxLen) (hv : RdV w ai (cu64 l))  : Calls Tryd.prog 85 #[I64 32, SL ai ni ci] w (Post w [] (fun v L => v = .bool (decide (RightI l)) ∧ L = [])) := by
 have hmx : maxLen = 9223372036854775807 := rfl
 refine enter w [] 48 [] [I64 32, SL ai ni ci] Tryd.func85 rfl rfl ZM (A2 ZM ZM ZM) ?_
 show JC _ _ _ [_, _] _
 refine Z2 11 ?_
 refine AD 2 9 false _ _ rfl rfl ZD ZE rfl ?_
 refine AD 2 9 false _ (.bool (decide ((32:Int) < (32:Int)))) rfl rfl ZD ZE rfl ?_
 refine AE _ (BO _ rfl ZD rfl) rfl ?_
 refine Z2 1 ?_
 refine AD 6 13 false _ _ rfl rfl ZD ZE rfl ?_
 refine AD 6 13 false _ (I64 ni) rfl rfl ZD ZE rfl ?_
 refine AD 6 13 false _ (.bool (decide (((ni:Int)) < (1:Int)))) rfl rfl ZD ZE rfl ?_
 refine AE _ (BO _ rfl ZD rfl) rfl ?_
 refine Z2 1 ?_
 rcases Bool.eq_false_or_eq_true (decide (((ni:Int)) < (1:Int))) with hb1 | hb1
 ·
  have hp1 := of_decide_eq_true hb1
  refine Z2 6 ?_
  refine A7 _ rfl rfl ?_
  refine Z2 7 ?_
  refine Z1 fun w1 hw1 => ?_
  refine ⟨_, [], rfl, ⟨congrArg Value.bool (Eq.symm (decide_eq_false (fun h => ?_))), rfl⟩, hw1.no⟩
  first | (have := h.1; omega) | (have := h.2.1; omega) | exact h.2.2 i ZO (.inl ‹_›) | exact h.2.2 i ZO (.inr ⟨ZO, ‹_›⟩) | exact h.2.2 i ZO (.inl ((shr32 _).1 ‹_›))
 have hp1 := of_decide_eq_false hb1
 refine Z2 6 ?_
 refine AX _ rfl (fun hb2 => ?_) (fun hb2 => ?_)
 ·
  have hp2 := of_decide_eq_true hb2
  refine Z2 7 ?_
  refine Z1 fun w1 hw1 => ?_
  refine ⟨_, [], rfl, ⟨congrArg Value.bool (Eq.symm (decide_eq_false (fun h => ?_))), rfl⟩, hw1.no⟩
  first | (have := h.1; omega) | (have := h.2.1; omega) | exact h.2.2 i ZO (.inl ‹_›) | exact h.2.2 i ZO (.inr ⟨ZO, ‹_›⟩) | exact h.2.2 i ZO (.inl ((shr32 _).1 ‹_›))
 have hp2 := of_decide_eq_false hb2
 refine Z2 11 ?_
 refine C3 (ι := Nat) (fun i => [(0, I64 32), (1, SL ai ni ci), (23, SL ai ni ci), (24, I64 ni), (25, I64 i)]) (fun i => []) (fun i => i ≤ ni ∧ ∀ k, k < i → ¬ IdxBad l k) (fun i => ni - i) 0 ⟨ZO, fun k hk => absurd hk ZO⟩ (Sub.all rfl) rfl ?_
 rintro i ⟨hx1, hx2⟩
 show JC _ _ _ [_, _, _, _, _] []
 refine Z2 6 ?_
 refine AX _ rfl (fun hb3 => ?_) (fun hb3 => ?_)
 ·
  have hp3 := of_decide_eq_true hb3
  refine Z2 7 ?_
  obtain ⟨bz1, oz1, hz1, hm1⟩ := RdV.pos hv (by rw [EA, hl]; omega)
  refine AE (Ptr bz1 (i + oz1)) (BK 22 1 (i + oz1) BB BJ rfl hz1 rfl ZO ZO ZO) rfl (AE _ (AR rfl (B1 BD (BP (hm1.mem ZM) (Seg.get (FE (i := i) (by rw [hl]; omega))) (by first | omega | (simp; done) | (simp; omega))))) rfl ?_)
  refine Z2 8 ?_
  refine AE (U64 ((g64 l i) >>> (32:UInt64))) (AT rfl rfl fun _ => EY (g64 l i) _ _ 32 ZD rfl) rfl ?_
  refine AE (.bool (decide (((g64 l i) >>> (32:UInt64)) ≠ (0:UInt64)))) (AT rfl rfl fun _ => CL ((g64 l i) >>> (32:UInt64)) (0:UInt64)) rfl ?_
  refine Z2 1 ?_
  rcases Bool.eq_false_or_eq_true (decide (((g64 l i) >>> (32:UInt64)) ≠ (0:UInt64))) with hb4 | hb4
  ·
   have hp4 := of_decide_eq_true hb4
   refine Z2 14 ?_
   refine A7 _ rfl rfl ?_
   refine Z2 11 ?_
   refine Z1 fun w1 hw1 => ?_
   refine ⟨_, [], rfl, ⟨congrArg Value.bool (Eq.symm (decide_eq_false (fun h => ?_))), rfl⟩, hw1.no⟩
   first | (have := h.1; omega) | (have := h.2.1; omega) | exact h.2.2 i ZO (.inl ‹_›) | exact h.2.2 i ZO (.inr ⟨ZO, ‹_›⟩) | exact h.2.2 i ZO (.inl ((shr32 _).1 ‹_›))
  have hp4 := of_decide_eq_false hb4
  refine Z2 3 ?_
  rcases Bool.eq_false_or_eq_true (decide ((0:Int) < ((i:Int)))) with hb5 | hb5
  ·
   have hp5 := of_decide_eq_true hb5
   refine Z2 2 ?_
   refine AD 7 37 true _ (I64 ((i:Int) - 1)) rfl rfl hb5 (AT rfl rfl fun _ => EU _ _ ((i:Int) - 1) ZO ZO) rfl ?_
   refine AD 7 37 true _ (Ptr bz1 (i + oz1 - 1)) rfl rfl hb5 (BK 22 1 (i + oz1 - 1) BB BJ rfl hz1 rfl ZO ZO ZO) rfl ?_
   refine AD 7 37 true _ _ rfl rfl hb5 (AR rfl (B1 BD (BP (hm1.mem ZM) (Seg.get (FE (i := (i - 1)) (by rw [hl]; omega))) (by first | omega | (simp; done) | (simp; omega))))) rfl ?_
   refine Z2 1 ?_
   refine AD 7 37 true _ (.bool (decide ((g64 l i) ≤ (g64 l (i - 1))))) rfl rfl hb5 (AT rfl rfl fun _ => EH (g64 l (i - 1)) (g64 l i)) rfl ?_
   refine Z2 4 ?_
   refine AX _ rfl (fun hb6 => ?_) (fun hb6 => ?_)
   ·
    have hp6 := of_decide_eq_true hb6
    refine Z2 11 ?_
    refine Z1 fun w1 hw1 => ?_
    refine ⟨_, [], rfl, ⟨congrArg Value.bool (Eq.symm (decide_eq_false (fun h => ?_))), rfl⟩, hw1.no⟩
    first | (have := h.1; omega) | (have := h.2.1; omega) | exact h.2.2 i ZO (.inl ‹_›) | exact h.2.2 i ZO (.inr ⟨ZO, ‹_›⟩) | exact h.2.2 i ZO (.inl ((shr32 _).1 ‹_›))
   have hp6 := of_decide_eq_false hb6
   refine CY (DH (AK (AO (AE (I64 ((i:Int) + 1)) (AT rfl rfl fun _ => BR _ _ ((i:Int) + 1) ZO ZO) rfl ?_))))
   refine Z2 1 ?_
   refine A1 (B5 (C1 (i + 1) ⟨ZO, idx_step hx2 (fun hq => by rcases hq with hq | ⟨hq1, hq2⟩ <;> first | contradiction | omega | exact absurd ((shr32 _).2 hq) ‹_›)⟩ (by first | (simp; omega) | simp | (dsimp only; omega) | omega) (Sub.all rfl) rfl))
  have hp5 := of_decide_eq_false hb5
  refine Z2 11 ?_
  refine AY _ rfl rfl ?_
  refine Z2 4 ?_
  refine AE (I64 ((i:Int) + 1)) (AT rfl rfl fun _ => BR _ _ ((i:Int) + 1) ZO ZO) rfl ?_
  refine Z2 1 ?_
  refine A1 (B5 (C1 (i + 1) ⟨ZO, idx_step hx2 (fun hq => by rcases hq with hq | ⟨hq1, hq2⟩ <;> first | contradiction | omega | exact absurd ((shr32 _).2 hq) ‹_›)⟩ (by first | (simp; omega) | simp | (dsimp only; omega) | omega) (Sub.all rfl) rfl))
 have hp3 := of_decide_eq_false hb3
 refine Z2 11 ?_
 refine Z1 fun w1 hw1 => ?_
 have e1 : i = ni := by omega
 subst e1
 exact ⟨_, [], rfl, ⟨congrArg Value.bool (Eq.symm (decide_eq_true ⟨ZO, ZO, by rw [hl]; exact hx2⟩)), rfl⟩, hw1.no⟩
theorem rpright_c (ai : Option Addr) (ni ci : Nat) (l : List UInt64)  (w : World) (hl : l.length = ni) (hnm : ni ≤ 2000000) (hnc : ni ≤ ci) (hcm : ci ≤ maxLen) (hv : RdV w ai (cu64 l))  : Calls Tryd.prog 79 #[I64 32, SL ai ni ci] w (Post w [] (fun v L => v = .bool (decide (RightI l)) ∧ L = [])) := by
 have hmx : maxLen = 9223372036854775807 := rfl
 refine enter w [] 59 [] [I64 32, SL ai ni ci] Tryd.func79 rfl rfl ZM (A2 ZM ZM ZM) ?_
 show JC _ _ _ [_, _] _
 refine Z2 11 ?_
 refine AD 2 10 false _ _ rfl rfl ZD ZE rfl ?_
 refine AD 2 10 false _ (.bool (decide ((32:Int) < (32:Int)))) rfl rfl ZD ZE rfl ?_
 refine AE _ (BO _ rfl ZD rfl) rfl ?_
 refine Z2 1 ?_
 refine AD 6 14 false _ _ rfl rfl ZD ZE rfl ?_
 refine AD 6 14 false _ (I64 ni) rfl rfl ZD ZE rfl ?_
 refine AD 6 14 false _ (.bool (decide (((ni:Int)) = (0:Int)))) rfl rfl ZD ZE rfl ?_
 refine AE _ (BO _ rfl ZD rfl) rfl ?_
 refine Z2 1 ?_
 rcases Bool.eq_false_or_eq_true (decide (((ni:Int)) = (0:Int))) with hb1 | hb1
 ·
  have hp1 := of_decide_eq_true hb1
  refine Z2 6 ?_
  refine A7 _ rfl rfl ?_
  refine Z2 7 ?_
  refine Z1 fun w1 hw1 => ?_
  refine ⟨_, [], rfl, ⟨congrArg Value.bool (Eq.symm (decide_eq_false (fun h => ?_))), rfl⟩, hw1.no⟩
  first | (have := h.1; omega) | (have := h.2.1; omega) | exact h.2.2 i ZO (.inl ‹_›) | exact h.2.2 i ZO (.inr ⟨ZO, ‹_›⟩) | exact h.2.2 i ZO (.inl ((shr32 _).1 ‹_›))
 have hp1 := of_decide_eq_false hb1
 refine Z2 6 ?_
 refine AX _ rfl (fun hb2 => ?_) (fun hb2 => ?_)
 ·
  have hp2 := of_decide_eq_true hb2
  refine Z2 7 ?_
  refine Z1 fun w1 hw1 => ?_
  refine ⟨_, [], rfl, ⟨congrArg Value.bool (Eq.symm (decide_eq_false (fun h => ?_))), rfl⟩, hw1.no⟩
  first | (have := h.1; omega) | (have := h.2.1; omega) | exact h.2.2 i ZO (.inl ‹_›) | exact h.2.2 i ZO (.inr ⟨ZO, ‹_›⟩) | exact h.2.2 i ZO (.inl ((shr32 _).1 ‹_›))
 have hp2 := of_decide_eq_false hb2
 refine Z2 14 ?_
 refine C3 (ι := Nat × UInt64) (fun ⟨j, y⟩ => [(0, I64 32), (1, SL ai ni ci), (4, .bool false), (6, I64 j), (5, U64 y)]) (fun ⟨j, y⟩ => []) (fun ⟨j, y⟩ => j ≤ 32 ∧ y = UInt64.ofNat (2 ^ j)) (fun ⟨j, y⟩ => 32 - j) (0, 1) ⟨ZO, rfl⟩ (Sub.all rfl) rfl ?_
 rintro ⟨j, y⟩ ⟨hj1, hj2⟩
 show JC _ _ _ [_, _, _, _, _] []
 refine Z2 8 ?_
 refine AX _ rfl (fun hb3 => ?_) (fun hb3 => ?_)
 ·
  have hp3 := of_decide_eq_true hb3
  refine Z2 6 ?_
  refine AE (U64 (y * (2:UInt64))) (AT rfl rfl fun _ => bin_mul_u64 y (2:UInt64)) rfl ?_
  refine Z2 6 ?_
  refine AE (I64 ((j:Int) + 1)) (AT rfl rfl fun _ => BR _ _ ((j:Int) + 1) ZO ZO) rfl ?_
  refine Z2 1 ?_
  refine A1 (B5 (C1 (j + 1, y * 2) ⟨ZO, by rw [hj2]; exact pow2_step j⟩ (by first | (simp; omega) | simp | (dsimp only; omega) | omega) (Sub.all rfl) rfl))
 have hp3 := of_decide_eq_false hb3
 refine Z2 7 ?_
 have hj3 : j = 32 := by omega
 have hy : y = 4294967296 := by rw [hj2, hj3]; rfl
 subst hy
 skip
 refine Z2 5 ?_
 refine C3 (ι := Nat) (fun i => [(1, SL ai ni ci), (5, U64 4294967296), (7, I64 i)]) (fun i => []) (fun i => i ≤ ni ∧ ∀ k, k < i → ¬ IdxBad l k) (fun i => ni - i) 0 ⟨ZO, fun k hk => absurd hk ZO⟩ (Sub.all rfl) rfl ?_
 rintro i ⟨hx1, hx2⟩
 show JC _ _ _ [_, _, _] []
 refine Z2 9 ?_
 refine AX _ rfl (fun hb4 => ?_) (fun hb4 => ?_)
 ·
  have hp4 := of_decide_eq_true hb4
  refine Z2 5 ?_
  rcases Bool.eq_false_or_eq_true (decide ((4294967296:UInt64) ≤ (g64 l i))) with hb5 | hb5
  ·
   have hp5 := of_decide_eq_true hb5
   obtain ⟨bz1, oz1, hz1, hm1⟩ := RdV.pos hv (by rw [EA, hl]; omega)
   refine Z8 59 1 [(0, SL ai ni ci), (1, I64 i), (2, Ptr bz1 (i + oz1)), (3, U64 (g64 l i)), (4, U64 4294967296), (5, .bool (decide ((4294967296:UInt64) ≤ (g64 l i)))), (6, .bool (decide ((4294967296:UInt64) ≤ (g64 l i)))), (7, undef), (8, undef), (9, undef), (10, undef), (11, undef), (12, undef), (13, undef), (14, undef), (15, undef), (16, undef), (17, undef), (18, undef), (19, undef), (20, undef), (21, .bool true)] ?_
   refine Z5 ⟨[], [0, 1, 2, 3, 4, 5, 6, 7, 8, 9, 10, 11, 12, 13, 14, 15, 16, 17, 18, 19, 20, 21], [], [0, 1, 2, 3, 4, 5, 6, 7, 8, 9, 10, 11, 12, 13, 14, 15, 16, 17, 18, 19, 20, 21], []⟩ (hq := ⟨BM rfl rfl rfl, BM rfl rfl rfl, AA rfl rfl (BK 22 1 (i + oz1) BB BJ rfl hz1 rfl ZO ZO ZO), AA rfl rfl (AR rfl (B1 BD (BP (hm1.mem ZM) (Seg.get (FE (i := i) (by rw [hl]; omega))) (by first | omega | (simp; done) | (simp; omega))))), BM rfl rfl rfl, AA rfl rfl (AT rfl rfl fun _ => EH (g64 l i) (4294967296:UInt64)), BM rfl rfl rfl, ⟨_, rfl, BN 6 43 false _ rfl rfl rfl hb5⟩, ⟨_, rfl, BN 6 43 false _ rfl rfl rfl hb5⟩, ⟨_, rfl, BN 6 43 false _ rfl rfl rfl hb5⟩, ⟨_, rfl, E3 9 46 true rfl rfl rfl⟩, ⟨_, rfl, E3 9 46 true rfl rfl rfl⟩, ⟨_, rfl, E3 9 46 true rfl rfl rfl⟩, ⟨_, rfl, E3 9 46 true rfl rfl rfl⟩, ⟨_, rfl, E3 9 46 true rfl rfl rfl⟩, ⟨_, rfl, E3 9 46 true rfl rfl rfl⟩, ⟨_, rfl, E3 9 46 true rfl rfl rfl⟩, ⟨_, rfl, E3 9 46 true rfl rfl rfl⟩, ⟨_, rfl, E3 9 46 true rfl rfl rfl⟩, ⟨_, rfl, E3 9 46 true rfl rfl rfl⟩, ⟨_, rfl, BN 6 43 false _ rfl rfl rfl hb5⟩, AA rfl rfl ZE, trivial⟩) ?_
   refine A9 (F' := [(37, SL ai ni ci), (38, I64 i), (39, Ptr bz1 (i + oz1)), (40, U64 (g64 l i)), (41, U64 4294967296), (42, .bool (decide ((4294967296:UInt64) ≤ (g64 l i)))), (43, .bool (decide ((4294967296:UInt64) ≤ (g64 l i)))), (44, undef), (45, undef), (46, undef), (47, undef), (48, undef), (49, undef), (50, undef), (51, undef), (52, undef), (53, undef), (54, undef), (55, undef), (56, undef), (57, undef), (58, .bool true), (1, SL ai ni ci), (5, U64 4294967296), (7, I64 i), (31, I64 i), (32, SL ai ni ci), (33, I64 ni), (34, .bool (decide (((i:Int)) < ((ni:Int)))))]) ZR ?_
   refine AK (A7 _ rfl rfl ?_)
   refine Z2 11 ?_
   refine Z1 fun w1 hw1 => ?_
   refine ⟨_, [], rfl, ⟨congrArg Value.bool (Eq.symm (decide_eq_false (fun h => ?_))), rfl⟩, hw1.no⟩
   first | (have := h.1; omega) | (have := h.2.1; omega) | exact h.2.2 i ZO (.inl ‹_›) | exact h.2.2 i ZO (.inr ⟨ZO, ‹_›⟩) | exact h.2.2 i ZO (.inl ((shr32 _).1 ‹_›))
  have hp5 := of_decide_eq_false hb5
  rcases Bool.eq_false_or_eq_true (decide ((0:Int) < ((i:Int)))) with hb6 | hb6
  ·
   have hp6 := of_decide_eq_true hb6
   obtain ⟨bz2, oz2, hz2, hm2⟩ := RdV.pos hv (by rw [EA, hl]; omega)
   refine Z8 59 1 [(0, SL ai ni ci), (1, I64 i), (2, Ptr bz2 (i + oz2)), (3, U64 (g64 l i)), (4, U64 4294967296), (5, .bool (decide ((4294967296:UInt64) ≤ (g64 l i)))), (6, .bool (decide ((4294967296:UInt64) ≤ (g64 l i)))), (7, I64 i), (8, .bool (decide ((0:Int) < ((i:Int))))), (9, .bool (decide ((0:Int) < ((i:Int))))), (10, SL ai ni ci), (11, I64 i), (12, Ptr bz2 (i + oz2)), (13, U64 (g64 l i)), (14, SL ai ni ci), (15, I64 i), (16, I64 ((i:Int) - 1)), (17, Ptr bz2 (i + oz2 - 1)), (18, U64 (g64 l (i - 1))), (19, .bool (decide ((g64 l i) ≤ (g64 l (i - 1))))), (20, .bool (decide ((g64 l i) ≤ (g64 l (i - 1))))), (21, .bool (decide ((g64 l i) ≤ (g64 l (i - 1)))))] ?_
   refine Z5 ⟨[], [0, 1, 2, 3, 4, 5, 6, 7, 8, 9, 10, 11, 12, 13, 14, 15, 16, 17, 18, 19, 20, 21], [], [0, 1, 2, 3, 4, 5, 6, 7, 8, 9, 10, 11, 12, 13, 14, 15, 16, 17, 18, 19, 20, 21], []⟩ (hq := ⟨BM rfl rfl rfl, BM rfl rfl rfl, AA rfl rfl (BK 22 1 (i + oz2) BB BJ rfl hz2 rfl ZO ZO ZO), AA rfl rfl (AR rfl (B1 BD (BP (hm2.mem ZM) (Seg.get (FE (i := i) (by rw [hl]; omega))) (by first | omega | (simp; done) | (simp; omega))))), BM rfl rfl rfl, AA rfl rfl (AT rfl rfl fun _ => EH (g64 l i) (4294967296:UInt64)), BM rfl rfl rfl, ⟨_, rfl, BA 6 43 false _ rfl rfl rfl hb5 (Ev_move rfl)⟩, ⟨_, rfl, BA 6 43 false _ rfl rfl rfl hb5 (AT rfl rfl fun _ => bin_gtr_i _ _)⟩, ⟨_, rfl, BA 6 43 false _ rfl rfl rfl hb5 (Ev_move rfl)⟩, ⟨_, rfl, BA 9 46 true _ rfl rfl rfl hb6 (Ev_move rfl)⟩, ⟨_, rfl, BA 9 46 true _ rfl rfl rfl hb6 (Ev_move rfl)⟩, ⟨_, rfl, BA 9 46 true _ rfl rfl rfl hb6 (BK 22 1 (i + oz2) BB BJ rfl hz2 rfl ZO ZO ZO)⟩, ⟨_, rfl, BA 9 46 true _ rfl rfl rfl hb6 (AR rfl (B1 BD (BP (hm2.mem ZM) (Seg.get (FE (i := i) (by rw [hl]; omega))) (by first | omega | (simp; done) | (simp; omega)))))⟩, ⟨_, rfl, BA 9 46 true _ rfl rfl rfl hb6 (Ev_move rfl)⟩, ⟨_, rfl, BA 9 46 true _ rfl rfl rfl hb6 (Ev_move rfl)⟩, ⟨_, rfl, BA 9 46 true _ rfl rfl rfl hb6 (AT rfl rfl fun _ => EU _ _ ((i:Int) - 1) ZO ZO)⟩, ⟨_, rfl, BA 9 46 true _ rfl rfl rfl hb6 (BK 22 1 (i + oz2 - 1) BB BJ rfl hz2 rfl ZO ZO ZO)⟩, ⟨_, rfl, BA 9 46 true _ rfl rfl rfl hb6 (AR rfl (B1 BD (BP (hm2.mem ZM) (Seg.get (FE (i := (i - 1)) (by rw [hl]; omega))) (by first | omega | (simp; done) | (simp; omega)))))⟩, ⟨_, rfl, BA 9 46 true _ rfl rfl rfl hb6 (AT rfl rfl fun _ => bin_leq_u64 (g64 l i) (g64 l (i - 1)))⟩, ⟨_, rfl, BA 6 43 false _ rfl rfl rfl hb5 (CC _ rfl hb6 rfl)⟩, AA rfl rfl ZE, trivial⟩) ?_
   refine A9 (F' := [(37, SL ai ni ci), (38, I64 i), (39, Ptr bz2 (i + oz2)), (40, U64 (g64 l i)), (41, U64 4294967296), (42, .bool (decide ((4294967296:UInt64) ≤ (g64 l i)))), (43, .bool (decide ((4294967296:UInt64) ≤ (g64 l i)))), (44, I64 i), (45, .bool (decide ((0:Int) < ((i:Int))))), (46, .bool (decide ((0:Int) < ((i:Int))))), (47, SL ai ni ci), (48, I64 i), (49, Ptr bz2 (i + oz2)), (50, U64 (g64 l i)), (51, SL ai ni ci), (52, I64 i), (53, I64 ((i:Int) - 1)), (54, Ptr bz2 (i + oz2 - 1)), (55, U64 (g64 l (i - 1))), (56, .bool (decide ((g64 l i) ≤ (g64 l (i - 1))))), (57, .bool (decide ((g64 l i) ≤ (g64 l (i - 1))))), (58, .bool (decide ((g64 l i) ≤ (g64 l (i - 1))))), (1, SL ai ni ci), (5, U64 4294967296), (7, I64 i), (31, I64 i), (32, SL ai ni ci), (33, I64 ni), (34, .bool (decide (((i:Int)) < ((ni:Int)))))]) ZR ?_
   refine AK (AX _ rfl (fun hb7 => ?_) (fun hb7 => ?_))
   ·
    have hp7 := of_decide_eq_true hb7
    refine Z2 11 ?_
    refine Z1 fun w1 hw1 => ?_
    refine ⟨_, [], rfl, ⟨congrArg Value.bool (Eq.symm (decide_eq_false (fun h => ?_))), rfl⟩, hw1.no⟩
    first | (have := h.1; omega) | (have := h.2.1; omega) | exact h.2.2 i ZO (.inl ‹_›) | exact h.2.2 i ZO (.inr ⟨ZO, ‹_›⟩) | exact h.2.2 i ZO (.inl ((shr32 _).1 ‹_›))
   have hp7 := of_decide_eq_false hb7
   refine Z2 5 ?_
   refine AE (I64 ((i:Int) + 1)) (AT rfl rfl fun _ => BR _ _ ((i:Int) + 1) ZO ZO) rfl ?_
   refine Z2 1 ?_
   refine A1 (B5 (C1 (i + 1) ⟨ZO, idx_step hx2 (fun hq => by rcases hq with hq | ⟨hq1, hq2⟩ <;> first | contradiction | omega | exact absurd ((shr32 _).2 hq) ‹_›)⟩ (by first | (simp; omega) | simp | (dsimp only; omega) | omega) (Sub.all rfl) rfl))
  have hp6 := of_decide_eq_false hb6
  obtain ⟨bz3, oz3, hz3, hm3⟩ := RdV.pos hv (by rw [EA, hl]; omega)
  refine Z8 59 1 [(0, SL ai ni ci), (1, I64 i), (2, Ptr bz3 (i + oz3)), (3, U64 (g64 l i)), (4, U64 4294967296), (5, .bool (decide ((4294967296:UInt64) ≤ (g64 l i)))), (6, .bool (decide ((4294967296:UInt64) ≤ (g64 l i)))), (7, I64 i), (8, .bool (decide ((0:Int) < ((i:Int))))), (9, .bool (decide ((0:Int) < ((i:Int))))), (10, undef), (11, undef), (12, undef), (13, undef), (14, undef), (15, undef), (16, undef), (17, undef), (18, undef), (19, undef), (20, .bool false), (21, .bool false)] ?_
  refine Z5 ⟨[], [0, 1, 2, 3, 4, 5, 6, 7, 8, 9, 10, 11, 12, 13, 14, 15, 16, 17, 18, 19, 20, 21], [], [0, 1, 2, 3, 4, 5, 6, 7, 8, 9, 10, 11, 12, 13, 14, 15, 16, 17, 18, 19, 20, 21], []⟩ (hq := ⟨BM rfl rfl rfl, BM rfl rfl rfl, AA rfl rfl (BK 22 1 (i + oz3) BB BJ rfl hz3 rfl ZO ZO ZO), AA rfl rfl (AR rfl (B1 BD (BP (hm3.mem ZM) (Seg.get (FE (i := i) (by rw [hl]; omega))) (by first | omega | (simp; done) | (simp; omega))))), BM rfl rfl rfl, AA rfl rfl (AT rfl rfl fun _ => EH (g64 l i) (4294967296:UInt64)), BM rfl rfl rfl, ⟨_, rfl, BA 6 43 false _ rfl rfl rfl hb5 (Ev_move rfl)⟩, ⟨_, rfl, BA 6 43 false _ rfl rfl rfl hb5 (AT rfl rfl fun _ => bin_gtr_i _ _)⟩, ⟨_, rfl, BA 6 43 false _ rfl rfl rfl hb5 (Ev_move rfl)⟩, ⟨_, rfl, BN 9 46 true _ rfl rfl rfl hb6⟩, ⟨_, rfl, BN 9 46 true _ rfl rfl rfl hb6⟩, ⟨_, rfl, BN 9 46 true _ rfl rfl rfl hb6⟩, ⟨_, rfl, BN 9 46 true _ rfl rfl rfl hb6⟩, ⟨_, rfl, BN 9 46 true _ rfl rfl rfl hb6⟩, ⟨_, rfl, BN 9 46 true _ rfl rfl rfl hb6⟩, ⟨_, rfl, BN 9 46 true _ rfl rfl rfl hb6⟩, ⟨_, rfl, BN 9 46 true _ rfl rfl rfl hb6⟩, ⟨_, rfl, BN 9 46 true _ rfl rfl rfl hb6⟩, ⟨_, rfl, BN 9 46 true _ rfl rfl rfl hb6⟩, ⟨_, rfl, BA 6 43 false _ rfl rfl rfl hb5 (BO _ rfl hb6 rfl)⟩, AA rfl rfl ZE, trivial⟩) ?_
  refine A9 (F' := [(37, SL ai ni ci), (38, I64 i), (39, Ptr bz3 (i + oz3)), (40, U64 (g64 l i)), (41, U64 4294967296), (42, .bool (decide ((4294967296:UInt64) ≤ (g64 l i)))), (43, .bool (decide ((4294967296:UInt64) ≤ (g64 l i)))), (44, I64 i), (45, .bool (decide ((0:Int) < ((i:Int))))), (46, .bool (decide ((0:Int) < ((i:Int))))), (47, undef), (48, undef), (49, undef), (50, undef), (51, undef), (52, undef), (53, undef), (54, undef), (55, undef), (56, undef), (57, .bool false), (58, .bool false), (1, SL ai ni ci), (5, U64 4294967296), (7, I64 i), (31, I64 i), (32, SL ai ni ci), (33, I64 ni), (34, .bool (decide (((i:Int)) < ((ni:Int)))))]) ZR ?_
  refine AK (AY _ rfl rfl ?_)
  refine Z2 5 ?_
  refine AE (I64 ((i:Int) + 1)) (AT rfl rfl fun _ => BR _ _ ((i:Int) + 1) ZO ZO) rfl ?_
  refine Z2 1 ?_
  refine A1 (B5 (C1 (i + 1) ⟨ZO, idx_step hx2 (fun hq => by rcases hq with hq | ⟨hq1, hq2⟩ <;> first | contradiction | omega | exact absurd ((shr32 _).2 hq) ‹_›)⟩ (by first | (simp; omega) | simp | (dsimp only; omega) | omega) (Sub.all rfl) rfl))
 have hp4 := of_decide_eq_false hb4
 refine Z2 11 ?_
 refine Z1 fun w1 hw1 => ?_
 have e1 : i = ni := by omega
 subst e1
 exact ⟨_, [], rfl, ⟨congrArg Value.bool (Eq.symm (decide_eq_true ⟨ZO, ZO, by rw [hl]; exact hx2⟩)), rfl⟩, hw1.no⟩
attribute [local irreducible] RightB
theorem right_c (i e : UInt64) (w : World) : Calls Tryd.prog 133 #[U64 i, U64 e] w (Post w [] (fun v L => v = .bool (RightB i e) ∧ L = [])) := by
 refine enter w [] 15 [] [U64 i, U64 e] Tryd.func133 rfl rfl ZM (A2 ZM ZM ZM) ?_
 show JC _ _ _ [_, _] _
 refine Z2 8 ?_
 refine AE (.bool (decide (i < (4294967296:UInt64)))) (AT rfl rfl fun _ => bin_lss_u64 i (4294967296:UInt64)) rfl ?_
 refine Z2 1 ?_
 rcases Bool.eq_false_or_eq_true (decide (i < (4294967296:UInt64))) with hb1 | hb1
 ·
  have hp1 := of_decide_eq_true hb1
  refine Z2 1 ?_
  refine AD 2 7 true _ (.bool (decide ((1:UInt64) ≤ e))) rfl rfl hb1 (AT rfl rfl fun _ => EH e (1:UInt64)) rfl ?_
  refine Z2 2 ?_
  rcases Bool.eq_false_or_eq_true (decide ((1:UInt64) ≤ e)) with hb2 | hb2
  ·
   have hp2 := of_decide_eq_true hb2
   refine Z2 1 ?_
   refine AD 6 11 true _ (.bool (decide (e < (18446744073709551615:UInt64)))) rfl rfl hb2 (AT rfl rfl fun _ => bin_lss_u64 e (18446744073709551615:UInt64)) rfl ?_
   refine Z2 5 ?_
   refine Z1 fun w1 hw1 => ?_
   refine ⟨_, [], rfl, ⟨congrArg Value.bool ?_, rfl⟩, hw1.no⟩
   unfold RightB
   simp [*]
  have hp2 := of_decide_eq_false hb2
  refine Z2 7 ?_
  refine Z1 fun w1 hw1 => ?_
  refine ⟨_, [], rfl, ⟨congrArg Value.bool ?_, rfl⟩, hw1.no⟩
  unfold RightB
  simp [*]
 have hp1 := of_decide_eq_false hb1
 refine Z2 11 ?_
 refine Z1 fun w1 hw1 => ?_
 refine ⟨_, [], rfl, ⟨congrArg Value.bool ?_, rfl⟩, hw1.no⟩
 unfold RightB
 simp [*]
theorem rright_c (i e : UInt64) (w : World) : Calls Tryd.prog 111 #[U64 i, U64 e] w (Post w [] (fun v L => v = .bool (RightB i e) ∧ L = [])) := by
 refine enter w [] 15 [] [U64 i, U64 e] Tryd.func111 rfl rfl ZM (A2 ZM ZM ZM) ?_
 show JC _ _ _ [_, _] _
 refine Z2 8 ?_
 refine AE (.bool (decide (i ≤ (4294967295:UInt64)))) (AT rfl rfl fun _ => bin_leq_u64 i (4294967295:UInt64)) rfl ?_
 refine Z2 1 ?_
 rcases Bool.eq_false_or_eq_true (decide (i ≤ (4294967295:UInt64))) with hb1 | hb1
 ·
  have hp1 := of_decide_eq_true hb1
  refine Z2 1 ?_
  refine AD 2 7 true _ (.bool (decide (e ≠ (0:UInt64)))) rfl rfl hb1 (AT rfl rfl fun _ => CL e (0:UInt64)) rfl ?_
  refine Z2 2 ?_
  rcases Bool.eq_false_or_eq_true (decide (e ≠ (0:UInt64))) with hb2 | hb2
  ·
   have hp2 := of_decide_eq_true hb2
   refine Z2 1 ?_
   refine AD 6 11 true _ (.bool (decide (e ≠ (18446744073709551615:UInt64)))) rfl rfl hb2 (AT rfl rfl fun _ => CL e (18446744073709551615:UInt64)) rfl ?_
   refine Z2 5 ?_
   refine Z1 fun w1 hw1 => ?_
   refine ⟨_, [], rfl, ⟨congrArg Value.bool ?_, rfl⟩, hw1.no⟩
   rw [RightB_ref]
   simp [*]
  have hp2 := of_decide_eq_false hb2
  refine Z2 7 ?_
  refine Z1 fun w1 hw1 => ?_
  refine ⟨_, [], rfl, ⟨congrArg Value.bool ?_, rfl⟩, hw1.no⟩
  rw [RightB_ref]
  simp [*]
 have hp1 := of_decide_eq_false hb1
 refine Z2 11 ?_
 refine Z1 fun w1 hw1 => ?_
 refine ⟨_, [], rfl, ⟨congrArg Value.bool ?_, rfl⟩, hw1.no⟩
 rw [RightB_ref]
 simp [*]
theorem odd_c (ob : Nat) (kd : Int) (ai : Option Addr) (ni ci : Nat) (l : List UInt64) (sa : Option Addr) (ns sc : Nat) (ls : List SealR) (bl : UInt64) (e : UInt64) (d t : List UInt8)  (w : World) (hd : d.length = 32) (ht : t.length = 16) (hpos : 0 < ns) (hls : ls.length = ns) (hnn : ns ≤ 2000000) (hnd : ns ≤ sc) (hcn : sc ≤ maxLen) (hs : RdV w sa (ls.flatMap sealC)) (hO : RdA w ob 0 [I64 (kd), SL ai ni ci, SL sa ns sc, U64 bl])  : Calls Tryd.prog 132 #[.agg ([U64 e] ++ cu8 d ++ cu8 t).toArray, Ptr ob 0] w (Post w [] (fun v L => v = .bool (oddB (headE ls) e) ∧ L = [])) := by
 have hmx : maxLen = 9223372036854775807 := rfl
 refine enter (P := Tryd.prog) (f := 132) (fn := Tryd.f132) w [] 18 [] [.agg ([U64 e] ++ cu8 d ++ cu8 t).toArray, Ptr ob 0] Tryd.func132 rfl rfl ZM (A2 ZM ZM ZM) ?_
 show JC _ _ _ [_, _] _
 refine A4 (AO (AF (B2 (.agg ([U64 e] ++ cu8 d ++ cu8 t).toArray) ([U64 e] ++ cu8 d ++ cu8 t) rfl (by first | rfl | simp)) rfl ?_))
 rintro v1 L1 ⟨nb1, hnb1, rfl, rfl⟩
 show JL _ _ _ _ (_ :: _) [_]
 refine Z2 4 ?_
 rcases Bool.eq_false_or_eq_true (RightB (0:UInt64) e) with hb1 | hb1
 ·
  refine Z8 18 2 [(0, Ptr nb1 0), (1, U64 e)] ?_
  refine Z7 ⟨[], [0, 1], [], [0, 1], [2]⟩ 2 (AL rfl (AJ 133 _ (.bool (RightB (0:UInt64) e)) (AH _ Tryd.call133 rfl) (fun w1 hw1 => right_c (0:UInt64) e w1 ))) ?_
  rintro v1 L1 ⟨rfl, rfl⟩
  obtain ⟨x1, hx1⟩ : ∃ x, ls[0]? = some x := ⟨_, List.getElem?_eq_getElem (by rw [hls]; omega)⟩
  obtain ⟨bz1, oz1, hz1, hm1⟩ := EJ D8 ZD hs hx1
  refine ⟨[(3, .bool (!(RightB (0:UInt64) e))), (4, .bool (!(RightB (0:UInt64) e))), (5, Ptr nb1 0), (6, U64 e), (7, Ptr ob 2), (8, SL sa ns sc), (9, Ptr bz1 oz1), (10, Ptr bz1 oz1), (11, U64 x1.e), (12, .bool (decide (e ≠ x1.e))), (13, .bool (decide (e ≠ x1.e))), (14, .bool (decide (e ≠ x1.e)))], ?_⟩
  show DP _ _ _ _ _ _ _ _ [_]
  refine Z5 ⟨[2], [0, 1, 3, 4, 5, 6, 7, 8, 9, 10, 11, 12, 13, 14], [0, 1], [3, 4, 5, 6, 7, 8, 9, 10, 11, 12, 13, 14], []⟩ (hq := ⟨AA rfl rfl ZE, BM rfl rfl rfl, ⟨_, rfl, BA 4 8 false _ rfl rfl rfl (by rw [show (RightB (0:UInt64) e) = true from hb1] <;> rfl) (BX 0 22 1 Tryd.underlying161 rfl BJ rfl rfl)⟩, ⟨_, rfl, BA 4 8 false _ rfl rfl rfl (by rw [show (RightB (0:UInt64) e) = true from hb1] <;> rfl) (AR rfl (B1 BD (A0 0 rfl (AU (AU (Seg.head))))))⟩, ⟨_, rfl, BA 4 8 false _ rfl rfl rfl (by rw [show (RightB (0:UInt64) e) = true from hb1] <;> rfl) (BX 2 24 1 Tryd.underlying26 rfl Tryd.sizeOf24 rfl rfl)⟩, ⟨_, rfl, BA 4 8 false _ rfl rfl rfl (by rw [show (RightB (0:UInt64) e) = true from hb1] <;> rfl) (AR rfl (B1 Tryd.isAgg24 (BP (hO.mem ZM) (B0 (B0 (Seg.head))) (by first | omega | (simp; done) | (simp; omega)))))⟩, ⟨_, rfl, BA 4 8 false _ rfl rfl rfl (by rw [show (RightB (0:UInt64) e) = true from hb1] <;> rfl) (BK 161 49 oz1 DA BC rfl hz1 rfl ZO ZO ZO)⟩, ⟨_, rfl, BA 4 8 false _ rfl rfl rfl (by rw [show (RightB (0:UInt64) e) = true from hb1] <;> rfl) (BX 0 22 1 Tryd.underlying161 rfl BJ rfl rfl)⟩, ⟨_, rfl, BA 4 8 false _ rfl rfl rfl (by rw [show (RightB (0:UInt64) e) = true from hb1] <;> rfl) (AR rfl (B1 BD (BP (hm1.mem ZM) (AU (AU (Seg.head))) (by first | omega | (simp; done) | (simp; omega)))))⟩, ⟨_, rfl, BA 4 8 false _ rfl rfl rfl (by rw [show (RightB (0:UInt64) e) = true from hb1] <;> rfl) (AT rfl rfl fun _ => CL e x1.e)⟩, AA rfl rfl (BO _ rfl (by rw [show (RightB (0:UInt64) e) = true from hb1] <;> rfl) rfl), AA rfl rfl ZE, trivial⟩) ?_
  refine A9 (F' := [(3, .bool (decide (e ≠ x1.e)))]) ZR ?_
  refine AK (CH (Z1 fun w1 hw1 => ?_))
  refine ⟨_, [], rfl, ⟨congrArg Value.bool ?_, rfl⟩, hw1.no⟩
  first | (simp [oddB, *]; done) | (rw [FB hx1]; simp [oddB, *]; done)
 refine Z8 18 2 [(0, Ptr nb1 0), (1, U64 e)] ?_
 refine Z7 ⟨[], [0, 1], [], [0, 1], [2]⟩ 2 (AL rfl (AJ 133 _ (.bool (RightB (0:UInt64) e)) (AH _ Tryd.call133 rfl) (fun w1 hw1 => right_c (0:UInt64) e w1 ))) ?_
 rintro v1 L1 ⟨rfl, rfl⟩
 refine ⟨[(3, .bool (!(RightB (0:UInt64) e))), (4, .bool (!(RightB (0:UInt64) e))), (5, undef), (6, undef), (7, undef), (8, undef), (9, undef), (10, undef), (11, undef), (12, undef), (13, .bool true), (14, .bool true)], ?_⟩
 show DP _ _ _ _ _ _ _ _ [_]
 refine Z5 ⟨[2], [0, 1, 3, 4, 5, 6, 7, 8, 9, 10, 11, 12, 13, 14], [0, 1], [3, 4, 5, 6, 7, 8, 9, 10, 11, 12, 13, 14], []⟩ (hq := ⟨AA rfl rfl ZE, BM rfl rfl rfl, ⟨_, rfl, BN 4 8 false _ rfl rfl rfl (by rw [show (RightB (0:UInt64) e) = false from hb1] <;> rfl)⟩, ⟨_, rfl, BN 4 8 false _ rfl rfl rfl (by rw [show (RightB (0:UInt64) e) = false from hb1] <;> rfl)⟩, ⟨_, rfl, BN 4 8 false _ rfl rfl rfl (by rw [show (RightB (0:UInt64) e) = false from hb1] <;> rfl)⟩, ⟨_, rfl, BN 4 8 false _ rfl rfl rfl (by rw [show (RightB (0:UInt64) e) = false from hb1] <;> rfl)⟩, ⟨_, rfl, BN 4 8 false _ rfl rfl rfl (by rw [show (RightB (0:UInt64) e) = false from hb1] <;> rfl)⟩, ⟨_, rfl, BN 4 8 false _ rfl rfl rfl (by rw [show (RightB (0:UInt64) e) = false from hb1] <;> rfl)⟩, ⟨_, rfl, BN 4 8 false _ rfl rfl rfl (by rw [show (RightB (0:UInt64) e) = false from hb1] <;> rfl)⟩, ⟨_, rfl, BN 4 8 false _ rfl rfl rfl (by rw [show (RightB (0:UInt64) e) = false from hb1] <;> rfl)⟩, AA rfl rfl (CC _ rfl (by rw [show (RightB (0:UInt64) e) = false from hb1] <;> rfl) rfl), AA rfl rfl ZE, trivial⟩) ?_
 refine A9 (F' := [(3, .bool true)]) ZR ?_
 refine AK (CH (Z1 fun w1 hw1 => ?_))
 refine ⟨_, [], rfl, ⟨congrArg Value.bool ?_, rfl⟩, hw1.no⟩
 first | (simp [oddB, *]; done) | (rw [FB hx1]; simp [oddB, *]; done)
theorem ixOdd_c (ob : Nat) (kd : Int) (ai : Option Addr) (ni ci : Nat) (l : List UInt64) (sa : Option Addr) (ns sc : Nat) (ls : List SealR) (bl : UInt64)  (w : World) (hls : ls.length = ns) (hnn : ns ≤ 2000000) (hnd : ns ≤ sc) (hcn : sc ≤ maxLen) (hs : RdV w sa (ls.flatMap sealC)) (hO : RdA w ob 0 [I64 (kd), SL ai ni ci, SL sa ns sc, U64 bl])  : Calls Tryd.prog 158 #[SL sa ns sc, .func (.func 132) #[] #[Ptr ob 0]] w (Post w [] (fun v L => v = I64 (findIx (fun x => oddB (headE ls) (SealR.e x)) ls) ∧ L = [])) := by
 have hmx : maxLen = 9223372036854775807 := rfl
 refine enter w [] 19 [] [SL sa ns sc, .func (.func 132) #[] #[Ptr ob 0]] Tryd.func158 rfl rfl ZM (A2 ZM ZM ZM) ?_
 show JC _ _ _ [_, _] _
 refine Z2 14 ?_
 refine C3 (ι := Nat) (fun i => [(0, SL sa ns sc), (1, .func (.func 132) #[] #[Ptr ob 0]), (7, I64 ns), (8, I64 i)]) (fun i => []) (fun i => i ≤ ns ∧ ∀ k, k < i → ∀ y, ls[k]? = some y → (fun x => oddB (headE ls) (SealR.e x)) y = false) (fun i => ns - i) 0 ⟨ZO, fun k hk => absurd hk ZO⟩ (Sub.all rfl) rfl ?_
 rintro i ⟨hi1, hi2⟩
 show JC _ _ _ [_, _, _, _] []
 refine Z2 6 ?_
 refine AX _ rfl (fun hb1 => ?_) (fun hb1 => ?_)
 ·
  have hp1 := of_decide_eq_true hb1
  refine Z2 15 ?_
  obtain ⟨x1, hx1⟩ : ∃ x, ls[i]? = some x := ⟨_, List.getElem?_eq_getElem (by rw [hls]; omega)⟩
  obtain ⟨bz1, oz1, hz1, hm1⟩ := EJ D8 ZD hs hx1
  refine AE (Ptr bz1 (49*i + oz1)) (BK 161 49 (49*i + oz1) DA BC rfl hz1 rfl ZO ZO ZO) rfl ?_
  refine AE (.agg ([U64 x1.e] ++ cu8 x1.d ++ cu8 x1.t).toArray) (AR rfl (BV CT BC (by simp [x1.hd, x1.ht]) (BP (hm1.mem ZM) (AG _) (by first | omega | (simp; done) | (simp; omega))))) rfl ?_
  refine AC (AJ 132 _ (.bool (oddB (headE ls) x1.e)) (Cl_clo [.agg ([U64 x1.e] ++ cu8 x1.d ++ cu8 x1.t).toArray] [Ptr ob 0] Tryd.call132 rfl rfl) (fun w1 hw1 => odd_c ob kd ai ni ci l sa ns sc ls bl x1.e x1.d x1.t w1 x1.hd x1.ht ZO hls hnn hnd hcn (CF hw1 rfl hs) (RdA_at hw1 hO ZM ZM))) rfl ?_
  show JL _ _ _ _ (_ :: _) []
  refine A1 (AK (AX _ rfl (fun hb2 => ?_) (fun hb2 => ?_)))
  ·
   refine Z2 12 ?_
   refine Z1 fun w1 hw1 => ?_
   have e1 : findIx (fun x => oddB (headE ls) (SealR.e x)) ls = i := findIx_at hx1 (by assumption) hi2
   exact ⟨_, [], rfl, ⟨by rw [e1], rfl⟩, hw1.no⟩
  refine Z2 4 ?_
  refine AE (I64 ((i:Int) + 1)) (AT rfl rfl fun _ => BR _ _ ((i:Int) + 1) ZO ZO) rfl ?_
  refine Z2 1 ?_
  refine A1 (B5 (C1 (i + 1) ⟨ZO, find_step hx1 (by assumption) hi2⟩ (by first | (simp; omega) | simp | (dsimp only; omega) | omega) (Sub.all rfl) rfl))
 have hp1 := of_decide_eq_false hb1
 refine Z2 11 ?_
 refine Z1 fun w1 hw1 => ?_
 have e1 : findIx (fun x => oddB (headE ls) (SealR.e x)) ls = -1 := findIx_no (by rw [hls]; intro k hk; exact hi2 k ZO)
 exact ⟨_, [], rfl, ⟨by rw [e1], rfl⟩, hw1.no⟩
theorem cfOdd_c (ob : Nat) (kd : Int) (ai : Option Addr) (ni ci : Nat) (l : List UInt64) (sa : Option Addr) (ns sc : Nat) (ls : List SealR) (bl : UInt64)  (w : World) (hls : ls.length = ns) (hnn : ns ≤ 2000000) (hnd : ns ≤ sc) (hcn : sc ≤ maxLen) (hs : RdV w sa (ls.flatMap sealC)) (hO : RdA w ob 0 [I64 (kd), SL ai ni ci, SL sa ns sc, U64 bl])  : Calls Tryd.prog 134 #[SL sa ns sc, .func (.func 132) #[] #[Ptr ob 0]] w (Post w [] (fun v L => v = .bool (ls.any (fun x => oddB (headE ls) (SealR.e x))) ∧ L = [])) := by
 refine enter w [] 9 [] [SL sa ns sc, .func (.func 132) #[] #[Ptr ob 0]] Tryd.func134 rfl rfl ZM (A2 ZM ZM ZM) ?_
 show JC _ _ _ [_, _] _
 refine Z2 9 ?_
 refine AC (AJ 158 _ (I64 ((findIx (fun x => oddB (headE ls) (SealR.e x)) ls))) (AH _ Tryd.call158 rfl) (fun w1 hw1 => ixOdd_c ob kd ai ni ci l sa ns sc ls bl w1 hls hnn hnd hcn (CF hw1 rfl hs) (RdA_at hw1 hO ZM ZM))) rfl ?_
 show JL _ _ _ _ (_ :: _) []
 refine Z2 5 ?_
 refine Z1 fun w1 hw1 => ?_
 exact ⟨_, [], rfl, ⟨congrArg Value.bool (findIx_ge _ _), rfl⟩, hw1.no⟩
attribute [local irreducible] oddB
theorem right13_c (kd : Int) (ai : Option Addr) (ni ci : Nat) (l : List UInt64) (sa : Option Addr) (ns sc : Nat) (ls : List SealR) (bl : UInt64)  (w : World) (hl : l.length = ni) (hnm : ni ≤ 2000000) (hnc : ni ≤ ci) (hcm : ci ≤ maxLen) (hv : RdV w ai (cu64 l)) (hls : ls.length = ns) (hnn : ns ≤ 2000000) (hnd : ns ≤ sc) (hcn : sc ≤ maxLen) (hs : RdV w sa (ls.flatMap sealC))  : Calls Tryd.prog 69 #[.agg #[I64 (kd), SL ai ni ci, SL sa ns sc, U64 bl]] w (Post w [] (fun v L => v = .bool (RightO kd l ls bl) ∧ L = [])) := by
 have hmx : maxLen = 9223372036854775807 := rfl
 refine enter (P := Tryd.prog) (f := 69) (fn := Tryd.f69) w [] 69 [] [.agg #[I64 (kd), SL ai ni ci, SL sa ns sc, U64 bl]] Tryd.func69 rfl rfl ZM (A2 ZM ZM ZM) ?_
 show JC _ _ _ [_] _
 refine A4 (AO (AF (B2 (.agg #[I64 (kd), SL ai ni ci, SL sa ns sc, U64 bl]) ([I64 (kd), SL ai ni ci, SL sa ns sc, U64 bl]) rfl (by first | rfl | simp)) rfl ?_))
 rintro v1 L1 ⟨nb1, hnb1, rfl, rfl⟩
 show JL _ _ _ _ (_ :: _) [_]
 refine Z2 5 ?_
 refine AE (.func (.func 132) #[] #[Ptr nb1 0]) (Ev_makeFunc (vs := [Ptr nb1 0]) rfl (fun _ _ => rfl)) rfl ?_
 refine Z2 17 ?_
 refine AX _ rfl (fun hb1 => ?_) (fun hb1 => ?_)
 ·
  have hp1 := of_decide_eq_true hb1
  refine Z2 4 ?_
  refine AE (.bool (decide (bl = (0:UInt64)))) (AT rfl rfl fun _ => DS bl (0:UInt64)) rfl ?_
  refine Z2 1 ?_
  rcases Bool.eq_false_or_eq_true (decide (bl = (0:UInt64))) with hb2 | hb2
  ·
   have hp2 := of_decide_eq_true hb2
   refine Z2 2 ?_
   refine B6 3 12 true _ rfl rfl hb2 (AJ 85 _ (.bool (decide (RightI l))) (AH _ Tryd.call85 rfl) (fun w1 hw1 => pright_c ai ni ci l w1 hl ZO ZO ZO (CF hw1 rfl hv))) rfl ?_
   rintro v1 L1 ⟨rfl, rfl⟩
   show JL _ _ _ _ (_ :: _) [_]
   refine Z2 2 ?_
   rcases Bool.eq_false_or_eq_true (decide (RightI l)) with hb3 | hb3
   ·
    have hp3 := of_decide_eq_true hb3
    refine Z2 9 ?_
    rcases Bool.eq_false_or_eq_true (decide (((ns:Int)) = ((ni:Int)))) with hb4 | hb4
    ·
     have hp4 := of_decide_eq_true hb4
     refine Z2 3 ?_
     refine B6 17 26 true _ rfl rfl hb4 (AJ 134 _ (.bool (ls.any (fun x => oddB (headE ls) (SealR.e x)))) (AH _ Tryd.call134 rfl) (fun w1 hw1 => cfOdd_c nb1 (kd) ai ni ci l sa ns sc ls bl w1 hls ZO ZO ZO (CF hw1 rfl hs) (RdA.of hw1 (A0 0 rfl (AG _)) ZM))) rfl ?_
     rintro v1 L1 ⟨rfl, rfl⟩
     show JL _ _ _ _ (_ :: _) [_]
     refine Z2 8 ?_
     refine A8 [false] ?_
     show JQ _ _ _ _ []
     refine Z1 fun w1 hw1 => ?_
     refine ⟨_, [], rfl, ⟨congrArg Value.bool ?_, rfl⟩, hw1.no⟩
     unfold RightO
     rw [hl, hls]
     first | (simp [*]; done) | (simp [*]; omega)
    have hp4 := of_decide_eq_false hb4
    refine Z2 12 ?_
    refine A8 [false] ?_
    show JQ _ _ _ _ []
    refine Z1 fun w1 hw1 => ?_
    refine ⟨_, [], rfl, ⟨congrArg Value.bool ?_, rfl⟩, hw1.no⟩
    unfold RightO
    rw [hl, hls]
    first | (simp [*]; done) | (simp [*]; omega)
   have hp3 := of_decide_eq_false hb3
   refine Z2 21 ?_
   refine A8 [false] ?_
   show JQ _ _ _ _ []
   refine Z1 fun w1 hw1 => ?_
   refine ⟨_, [], rfl, ⟨congrArg Value.bool ?_, rfl⟩, hw1.no⟩
   unfold RightO
   rw [hl, hls]
   first | (simp [*]; done) | (simp [*]; omega)
  have hp2 := of_decide_eq_false hb2
  refine Z2 26 ?_
  refine A8 [false] ?_
  show JQ _ _ _ _ []
  refine Z1 fun w1 hw1 => ?_
  refine ⟨_, [], rfl, ⟨congrArg Value.bool ?_, rfl⟩, hw1.no⟩
  unfold RightO
  rw [hl, hls]
  first | (simp [*]; done) | (simp [*]; omega)
 have hp1 := of_decide_eq_false hb1
 refine Z2 6 ?_
 refine AX _ rfl (fun hb5 => ?_) (fun hb5 => ?_)
 ·
  have hp5 := of_decide_eq_true hb5
  refine Z2 4 ?_
  refine AE (.bool (decide (bl = (0:UInt64)))) (AT rfl rfl fun _ => DS bl (0:UInt64)) rfl ?_
  refine Z2 1 ?_
  rcases Bool.eq_false_or_eq_true (decide (bl = (0:UInt64))) with hb6 | hb6
  ·
   have hp6 := of_decide_eq_true hb6
   refine Z2 2 ?_
   refine B6 3 38 true _ rfl rfl hb6 (AJ 85 _ (.bool (decide (RightI l))) (AH _ Tryd.call85 rfl) (fun w1 hw1 => pright_c ai ni ci l w1 hl ZO ZO ZO (CF hw1 rfl hv))) rfl ?_
   rintro v1 L1 ⟨rfl, rfl⟩
   show JL _ _ _ _ (_ :: _) [_]
   refine Z2 2 ?_
   rcases Bool.eq_false_or_eq_true (decide (RightI l)) with hb7 | hb7
   ·
    have hp7 := of_decide_eq_true hb7
    refine Z2 11 ?_
    refine A8 [false] ?_
    show JQ _ _ _ _ []
    refine Z1 fun w1 hw1 => ?_
    refine ⟨_, [], rfl, ⟨congrArg Value.bool ?_, rfl⟩, hw1.no⟩
    unfold RightO
    rw [hl, hls]
    first | (simp [*]; done) | (simp [*]; omega)
   have hp7 := of_decide_eq_false hb7
   refine Z2 11 ?_
   refine A8 [false] ?_
   show JQ _ _ _ _ []
   refine Z1 fun w1 hw1 => ?_
   refine ⟨_, [], rfl, ⟨congrArg Value.bool ?_, rfl⟩, hw1.no⟩
   unfold RightO
   rw [hl, hls]
   first | (simp [*]; done) | (simp [*]; omega)
  have hp6 := of_decide_eq_false hb6
  refine Z2 16 ?_
  refine A8 [false] ?_
  show JQ _ _ _ _ []
  refine Z1 fun w1 hw1 => ?_
  refine ⟨_, [], rfl, ⟨congrArg Value.bool ?_, rfl⟩, hw1.no⟩
  unfold RightO
  rw [hl, hls]
  first | (simp [*]; done) | (simp [*]; omega)
 have hp5 := of_decide_eq_false hb5
 refine Z2 6 ?_
 refine AX _ rfl (fun hb8 => ?_) (fun hb8 => ?_)
 ·
  have hp8 := of_decide_eq_true hb8
  refine Z2 8 ?_
  refine AE (I64 ((ni:Int) + (ns:Int))) (AT rfl rfl fun _ => BR _ _ ((ni:Int) + (ns:Int)) ZO ZO) rfl ?_
  refine Z2 2 ?_
  rcases Bool.eq_false_or_eq_true (decide (((ni:Int) + (ns:Int)) = (0:Int))) with hb9 | hb9
  ·
   have hp9 := of_decide_eq_true hb9
   refine Z2 2 ?_
   refine AD 8 59 true _ (.bool (decide ((1:UInt64) ≤ bl))) rfl rfl hb9 (AT rfl rfl fun _ => EH bl (1:UInt64)) rfl ?_
   refine Z2 2 ?_
   rcases Bool.eq_false_or_eq_true (decide ((1:UInt64) ≤ bl)) with hb10 | hb10
   ·
    have hp10 := of_decide_eq_true hb10
    refine Z2 2 ?_
    refine AD 13 64 true _ (.bool (decide (bl ≤ (4294967296:UInt64)))) rfl rfl hb10 (AT rfl rfl fun _ => bin_leq_u64 bl (4294967296:UInt64)) rfl ?_
    refine Z2 7 ?_
    refine A8 [false] ?_
    show JQ _ _ _ _ []
    refine Z1 fun w1 hw1 => ?_
    refine ⟨_, [], rfl, ⟨congrArg Value.bool ?_, rfl⟩, hw1.no⟩
    unfold RightO
    rw [hl, hls]
    first | (simp [*]; done) | (simp [*]; omega)
   have hp10 := of_decide_eq_false hb10
   refine Z2 10 ?_
   refine A8 [false] ?_
   show JQ _ _ _ _ []
   refine Z1 fun w1 hw1 => ?_
   refine ⟨_, [], rfl, ⟨congrArg Value.bool ?_, rfl⟩, hw1.no⟩
   unfold RightO
   rw [hl, hls]
   first | (simp [*]; done) | (simp [*]; omega)
  have hp9 := of_decide_eq_false hb9
  refine Z2 15 ?_
  refine A8 [false] ?_
  show JQ _ _ _ _ []
  refine Z1 fun w1 hw1 => ?_
  refine ⟨_, [], rfl, ⟨congrArg Value.bool ?_, rfl⟩, hw1.no⟩
  unfold RightO
  rw [hl, hls]
  first | (simp [*]; done) | (simp [*]; omega)
 have hp8 := of_decide_eq_false hb8
 refine Z2 9 ?_
 refine A8 [false] ?_
 show JQ _ _ _ _ []
 refine Z1 fun w1 hw1 => ?_
 refine ⟨_, [], rfl, ⟨congrArg Value.bool ?_, rfl⟩, hw1.no⟩
 unfold RightO
 rw [hl, hls]
 first | (simp [*]; done) | (simp [*]; omega)
theorem doc7_c (e : UInt64) (d t : List UInt8)  (w : World) (hd : d.length = 32) (ht : t.length = 16)  : Calls Tryd.prog 93 #[.agg ([U64 e] ++ cu8 d ++ cu8 t).toArray] w (Post w [] (fun v L => v = .agg ([U64 e] ++ cu8 d ++ cu8 t).toArray ∧ L = [])) := by
 refine enter (P := Tryd.prog) (f := 93) (fn := Tryd.f93) w [] 4 [] [.agg ([U64 e] ++ cu8 d ++ cu8 t).toArray] Tryd.func93 rfl rfl ZM (A2 ZM ZM ZM) ?_
 show JC _ _ _ [_] _
 refine A4 (AO (AF (B2 (.agg ([U64 e] ++ cu8 d ++ cu8 t).toArray) ([U64 e] ++ cu8 d ++ cu8 t) rfl (by first | rfl | simp)) rfl ?_))
 rintro v1 L1 ⟨nb1, hnb1, rfl, rfl⟩
 show JL _ _ _ _ (_ :: _) [_]
 refine AF (AS _ ([U64 0] ++ cu8 (zr8 32) ++ cu8 (zr8 16)) DO ZR) rfl ?_
 rintro v1 L1 ⟨nb2, hnb2, rfl, rfl⟩
 show JL _ _ _ _ (_ :: _) [_, _]
 refine Z2 5 ?_
 refine AC (AB 1 nb2 49 _ 164 ([U64 e] ++ cu8 d ++ cu8 t) rfl rfl rfl BW (by simp [hd, ht]) (AQ (AQ ZC A6) A6) ZS (AI (by simp [(AN 32), (AN 16), hd, ht]))) rfl ?_
 show JL _ _ _ _ _ [_, _]
 refine A1 (AK (CH (Z1 fun w1 hw1 => ?_)))
 exact ⟨_, [], rfl, ⟨rfl, rfl⟩, hw1.no⟩
theorem bld36_013 {w : World} {v0 : Value} {v1 : Value} {v3 : Value} (h0 : v0.cells = [v0].toArray) (h1 : v1.cells = [v1].toArray) (h3 : v3.cells = [v3].toArray) : (Instr.build 36 ([(0, v0), (1, v1), (3, v3)] : List (Nat × Value)).toArray).run Tryd.prog w = .ok (.agg (((([v0] : List Value) ++ ([v1] : List Value)) ++ ([.slice none 0 0] : List Value)) ++ ([v3] : List Value)).toArray) w :=
 C8 (places := #[(0, 1), (1, 1), (2, 1), (3, 1)]) (Z := (([I64 0] : List Value) ++ (([.slice none 0 0] : List Value) ++ (([.slice none 0 0] : List Value) ++ (([U64 0] : List Value) ++ []))))) (fun _ => by kernel_rfl) Tryd.underlying36 (fun _ => by kernel_rfl) ((EI ([I64 0] : List Value) (([.slice none 0 0] : List Value) ++ (([.slice none 0 0] : List Value) ++ (([U64 0] : List Value) ++ []))) ([v0] : List Value) h0 (by simp [AN]) rfl).trans ((DL ([v0] : List Value) ([.slice none 0 0] : List Value) (([.slice none 0 0] : List Value) ++ (([U64 0] : List Value) ++ [])) ([v1] : List Value) h1 (by simp [AN]) rfl).trans ((D0 (([v0] : List Value) ++ ([v1] : List Value)) ([.slice none 0 0] : List Value) (([U64 0] : List Value) ++ [])).trans ((DL ((([v0] : List Value) ++ ([v1] : List Value)) ++ ([.slice none 0 0] : List Value)) ([U64 0] : List Value) [] ([v3] : List Value) h3 (by simp [AN]) rfl).trans (by simp [Instr.fill])))))
end Go.Proofs.YtkdpdgpphpngeaaDoor
namespace Go.Proofs.YtkdpdgpphpngeaaDoor
open Go Go.Sx
open Go.Value renaming slice → SL
attribute [local irreducible] mid zr8 numK valK rvalK constL initL putL RightB JL JC JQ DP Ev Ld MemAt Seg Step Cl RV Qok Cok
theorem rright13_c (kd : Int) (ai : Option Addr) (ni ci : Nat) (l : List UInt64) (sa : Option Addr) (ns sc : Nat) (ls : List SealR) (bl : UInt64)  (w : World) (hl : l.length = ni) (hnm : ni ≤ 2000000) (hnc : ni ≤ ci) (hcm : ci ≤ maxLen) (hv : RdV w ai (cu64 l)) (hls : ls.length = ns) (hnn : ns ≤ 2000000) (hnd : ns ≤ sc) (hcn : sc ≤ maxLen) (hs : RdV w sa (ls.flatMap sealC))  : Calls Tryd.prog 67 #[.agg #[I64 (kd), SL ai ni ci, SL sa ns sc, U64 bl]] w (Post w [] (fun v L => v = .bool (RightO kd l ls bl) ∧ L = [])) := by
 have hmx : maxLen = 9223372036854775807 := rfl
 refine enter (P := Tryd.prog) (f := 67) (fn := Tryd.f67) w [] 89 [] [.agg #[I64 (kd), SL ai ni ci, SL sa ns sc, U64 bl]] Tryd.func67 rfl rfl ZM (A2 ZM ZM ZM) ?_
 show JC _ _ _ [_] _
 refine A4 (AO (AF (B2 (.agg #[I64 (kd), SL ai ni ci, SL sa ns sc, U64 bl]) ([I64 (kd), SL ai ni ci, SL sa ns sc, U64 bl]) rfl (by first | rfl | simp)) rfl ?_))
 rintro v1 L1 ⟨nb1, hnb1, rfl, rfl⟩
 show JL _ _ _ _ (_ :: _) [_]
 refine Z2 11 ?_
 refine AX _ rfl (fun hb1 => ?_) (fun hb1 => ?_)
 ·
  have hp1 := of_decide_eq_true hb1
  refine Z2 7 ?_
  rcases Bool.eq_false_or_eq_true (decide (((ni:Int)) = (0:Int))) with hb2 | hb2
  ·
   have hp2 := of_decide_eq_true hb2
   refine Z2 6 ?_
   rcases Bool.eq_false_or_eq_true (decide (((ns:Int)) = (0:Int))) with hb3 | hb3
   ·
    have hp3 := of_decide_eq_true hb3
    refine Z2 2 ?_
    refine AD 10 17 true _ (.bool (decide ((0:UInt64) < bl))) rfl rfl hb3 (AT rfl rfl fun _ => FH bl (0:UInt64)) rfl ?_
    refine Z2 2 ?_
    rcases Bool.eq_false_or_eq_true (decide ((0:UInt64) < bl)) with hb4 | hb4
    ·
     have hp4 := of_decide_eq_true hb4
     refine Z2 2 ?_
     refine AD 15 22 true _ (.bool (decide (bl ≤ (4294967296:UInt64)))) rfl rfl hb4 (AT rfl rfl fun _ => bin_leq_u64 bl (4294967296:UInt64)) rfl ?_
     refine Z2 6 ?_
     refine A8 [false] ?_
     show JQ _ _ _ _ []
     refine Z1 fun w1 hw1 => ?_
     refine ⟨_, [], rfl, ⟨congrArg Value.bool ?_, rfl⟩, hw1.no⟩
     unfold RightO
     rw [hl, hls]
     first | rw [if_pos (show kd = 1 by omega)] | rw [if_neg (show ¬ kd = 1 by omega), if_pos (show kd = 2 by omega)] | rw [if_neg (show ¬ kd = 1 by omega), if_neg (show ¬ kd = 2 by omega), if_pos (show kd = 3 by omega)] | rw [if_neg (show ¬ kd = 1 by omega), if_neg (show ¬ kd = 2 by omega), if_neg (show ¬ kd = 3 by omega)]
     rw [show decide ((1:UInt64) ≤ bl) = decide ((0:UInt64) < bl) from decide_eq_decide.2 (bl_pos bl).symm]
     first | rw [decide_eq_true (show ni + ns = 0 by omega), Bool.true_and] | rw [decide_eq_false (show ¬ ni + ns = 0 by omega), Bool.false_and]
     all_goals (first | rfl | (simp only [*, Bool.true_and, Bool.false_and, Bool.and_true, Bool.and_false, Bool.not_true, Bool.not_false]; done) | (simp [*]; done))
    have hp4 := of_decide_eq_false hb4
    refine Z2 9 ?_
    refine A8 [false] ?_
    show JQ _ _ _ _ []
    refine Z1 fun w1 hw1 => ?_
    refine ⟨_, [], rfl, ⟨congrArg Value.bool ?_, rfl⟩, hw1.no⟩
    unfold RightO
    rw [hl, hls]
    first | rw [if_pos (show kd = 1 by omega)] | rw [if_neg (show ¬ kd = 1 by omega), if_pos (show kd = 2 by omega)] | rw [if_neg (show ¬ kd = 1 by omega), if_neg (show ¬ kd = 2 by omega), if_pos (show kd = 3 by omega)] | rw [if_neg (show ¬ kd = 1 by omega), if_neg (show ¬ kd = 2 by omega), if_neg (show ¬ kd = 3 by omega)]
    rw [show decide ((1:UInt64) ≤ bl) = decide ((0:UInt64) < bl) from decide_eq_decide.2 (bl_pos bl).symm]
    first | rw [decide_eq_true (show ni + ns = 0 by omega), Bool.true_and] | rw [decide_eq_false (show ¬ ni + ns = 0 by omega), Bool.false_and]
    all_goals (first | rfl | (simp only [*, Bool.true_and, Bool.false_and, Bool.and_true, Bool.and_false, Bool.not_true, Bool.not_false]; done) | (simp [*]; done))
   have hp3 := of_decide_eq_false hb3
   refine Z2 14 ?_
   refine A8 [false] ?_
   show JQ _ _ _ _ []
   refine Z1 fun w1 hw1 => ?_
   refine ⟨_, [], rfl, ⟨congrArg Value.bool ?_, rfl⟩, hw1.no⟩
   unfold RightO
   rw [hl, hls]
   first | rw [if_pos (show kd = 1 by omega)] | rw [if_neg (show ¬ kd = 1 by omega), if_pos (show kd = 2 by omega)] | rw [if_neg (show ¬ kd = 1 by omega), if_neg (show ¬ kd = 2 by omega), if_pos (show kd = 3 by omega)] | rw [if_neg (show ¬ kd = 1 by omega), if_neg (show ¬ kd = 2 by omega), if_neg (show ¬ kd = 3 by omega)]
   rw [show decide ((1:UInt64) ≤ bl) = decide ((0:UInt64) < bl) from decide_eq_decide.2 (bl_pos bl).symm]
   first | rw [decide_eq_true (show ni + ns = 0 by omega), Bool.true_and] | rw [decide_eq_false (show ¬ ni + ns = 0 by omega), Bool.false_and]
   all_goals (first | rfl | (simp only [*, Bool.true_and, Bool.false_and, Bool.and_true, Bool.and_false, Bool.not_true, Bool.not_false]; done) | (simp [*]; done))
  have hp2 := of_decide_eq_false hb2
  refine Z2 20 ?_
  refine A8 [false] ?_
  show JQ _ _ _ _ []
  refine Z1 fun w1 hw1 => ?_
  refine ⟨_, [], rfl, ⟨congrArg Value.bool ?_, rfl⟩, hw1.no⟩
  unfold RightO
  rw [hl, hls]
  first | rw [if_pos (show kd = 1 by omega)] | rw [if_neg (show ¬ kd = 1 by omega), if_pos (show kd = 2 by omega)] | rw [if_neg (show ¬ kd = 1 by omega), if_neg (show ¬ kd = 2 by omega), if_pos (show kd = 3 by omega)] | rw [if_neg (show ¬ kd = 1 by omega), if_neg (show ¬ kd = 2 by omega), if_neg (show ¬ kd = 3 by omega)]
  rw [show decide ((1:UInt64) ≤ bl) = decide ((0:UInt64) < bl) from decide_eq_decide.2 (bl_pos bl).symm]
  first | rw [decide_eq_true (show ni + ns = 0 by omega), Bool.true_and] | rw [decide_eq_false (show ¬ ni + ns = 0 by omega), Bool.false_and]
  all_goals (first | rfl | (simp only [*, Bool.true_and, Bool.false_and, Bool.and_true, Bool.and_false, Bool.not_true, Bool.not_false]; done) | (simp [*]; done))
 have hp1 := of_decide_eq_false hb1
 refine Z2 9 ?_
 rcases Bool.eq_false_or_eq_true (decide ((kd) ≠ (1:Int))) with hb5 | hb5
 ·
  have hp5 := of_decide_eq_true hb5
  refine Z2 5 ?_
  rcases Bool.eq_false_or_eq_true (decide ((kd) ≠ (2:Int))) with hb6 | hb6
  ·
   have hp6 := of_decide_eq_true hb6
   refine Z2 12 ?_
   refine A7 _ rfl rfl ?_
   refine Z2 7 ?_
   refine A8 [false] ?_
   show JQ _ _ _ _ []
   refine Z1 fun w1 hw1 => ?_
   refine ⟨_, [], rfl, ⟨congrArg Value.bool ?_, rfl⟩, hw1.no⟩
   unfold RightO
   rw [hl, hls]
   first | rw [if_pos (show kd = 1 by omega)] | rw [if_neg (show ¬ kd = 1 by omega), if_pos (show kd = 2 by omega)] | rw [if_neg (show ¬ kd = 1 by omega), if_neg (show ¬ kd = 2 by omega), if_pos (show kd = 3 by omega)] | rw [if_neg (show ¬ kd = 1 by omega), if_neg (show ¬ kd = 2 by omega), if_neg (show ¬ kd = 3 by omega)]
   all_goals (first | rfl | (simp [*]; done) | (simp_all; done) | (simp_all; omega))
  have hp6 := of_decide_eq_false hb6
  refine Z2 2 ?_
  refine AD 8 35 false _ (.bool (decide (bl ≠ (0:UInt64)))) rfl rfl hb6 (AT rfl rfl fun _ => CL bl (0:UInt64)) rfl ?_
  refine Z2 2 ?_
  rcases Bool.eq_false_or_eq_true (decide (bl ≠ (0:UInt64))) with hb7 | hb7
  ·
   have hp7 := of_decide_eq_true hb7
   refine Z2 7 ?_
   refine A7 _ rfl rfl ?_
   refine Z2 7 ?_
   refine A8 [false] ?_
   show JQ _ _ _ _ []
   refine Z1 fun w1 hw1 => ?_
   refine ⟨_, [], rfl, ⟨congrArg Value.bool ?_, rfl⟩, hw1.no⟩
   unfold RightO
   rw [hl, hls]
   first | rw [if_pos (show kd = 1 by omega)] | rw [if_neg (show ¬ kd = 1 by omega), if_pos (show kd = 2 by omega)] | rw [if_neg (show ¬ kd = 1 by omega), if_neg (show ¬ kd = 2 by omega), if_pos (show kd = 3 by omega)] | rw [if_neg (show ¬ kd = 1 by omega), if_neg (show ¬ kd = 2 by omega), if_neg (show ¬ kd = 3 by omega)]
   all_goals (first | rfl | (simp [*]; done) | (simp_all; done) | (simp_all; omega))
  have hp7 := of_decide_eq_false hb7
  refine Z2 2 ?_
  refine B6 13 40 false _ rfl rfl hb7 (AJ 79 _ (.bool (decide (RightI l))) (AH _ Tryd.call79 rfl) (fun w1 hw1 => rpright_c ai ni ci l w1 hl ZO ZO ZO (CF hw1 rfl hv))) rfl ?_
  rintro v1 L1 ⟨rfl, rfl⟩
  show JL _ _ _ _ (_ :: _) [_]
  refine Z2 4 ?_
  refine AX _ rfl (fun hb8 => ?_) (fun hb8 => ?_)
  ·
   have hb9 : (decide (RightI l)) = false := by simpa using hb8
   have hp9 := of_decide_eq_false hb9
   refine Z2 7 ?_
   refine A8 [false] ?_
   show JQ _ _ _ _ []
   refine Z1 fun w1 hw1 => ?_
   refine ⟨_, [], rfl, ⟨congrArg Value.bool ?_, rfl⟩, hw1.no⟩
   unfold RightO
   rw [hl, hls]
   first | rw [if_pos (show kd = 1 by omega)] | rw [if_neg (show ¬ kd = 1 by omega), if_pos (show kd = 2 by omega)] | rw [if_neg (show ¬ kd = 1 by omega), if_neg (show ¬ kd = 2 by omega), if_pos (show kd = 3 by omega)] | rw [if_neg (show ¬ kd = 1 by omega), if_neg (show ¬ kd = 2 by omega), if_neg (show ¬ kd = 3 by omega)]
   all_goals (first | rfl | (simp [*]; done) | (simp_all; done) | (simp_all; omega))
  have hb10 : (decide (RightI l)) = true := by simpa using hb8
  have hp10 := of_decide_eq_true hb10
  refine Z2 10 ?_
  refine A7 _ rfl (decide_eq_true (by have := of_decide_eq_false hb6; omega)) ?_
  refine Z2 11 ?_
  refine A8 [false] ?_
  show JQ _ _ _ _ []
  refine Z1 fun w1 hw1 => ?_
  refine ⟨_, [], rfl, ⟨congrArg Value.bool ?_, rfl⟩, hw1.no⟩
  unfold RightO
  rw [hl, hls]
  first | rw [if_pos (show kd = 1 by omega)] | rw [if_neg (show ¬ kd = 1 by omega), if_pos (show kd = 2 by omega)] | rw [if_neg (show ¬ kd = 1 by omega), if_neg (show ¬ kd = 2 by omega), if_pos (show kd = 3 by omega)] | rw [if_neg (show ¬ kd = 1 by omega), if_neg (show ¬ kd = 2 by omega), if_neg (show ¬ kd = 3 by omega)]
  all_goals (first | rfl | (simp [*]; done) | (simp_all; done) | (simp_all; omega))
 have hp5 := of_decide_eq_false hb5
 refine Z2 7 ?_
 refine AD 8 35 false _ (.bool (decide (bl ≠ (0:UInt64)))) rfl rfl rfl (AT rfl rfl fun _ => CL bl (0:UInt64)) rfl ?_
 refine Z2 2 ?_
 rcases Bool.eq_false_or_eq_true (decide (bl ≠ (0:UInt64))) with hb11 | hb11
 ·
  have hp11 := of_decide_eq_true hb11
  refine Z2 7 ?_
  refine A7 _ rfl rfl ?_
  refine Z2 7 ?_
  refine A8 [false] ?_
  show JQ _ _ _ _ []
  refine Z1 fun w1 hw1 => ?_
  refine ⟨_, [], rfl, ⟨congrArg Value.bool ?_, rfl⟩, hw1.no⟩
  unfold RightO
  rw [hl, hls]
  first | rw [if_pos (show kd = 1 by omega)] | rw [if_neg (show ¬ kd = 1 by omega), if_pos (show kd = 2 by omega)] | rw [if_neg (show ¬ kd = 1 by omega), if_neg (show ¬ kd = 2 by omega), if_pos (show kd = 3 by omega)] | rw [if_neg (show ¬ kd = 1 by omega), if_neg (show ¬ kd = 2 by omega), if_neg (show ¬ kd = 3 by omega)]
  all_goals (first | rfl | (simp [*]; done) | (simp_all; done) | (simp_all; omega))
 have hp11 := of_decide_eq_false hb11
 refine Z2 2 ?_
 refine B6 13 40 false _ rfl rfl hb11 (AJ 79 _ (.bool (decide (RightI l))) (AH _ Tryd.call79 rfl) (fun w1 hw1 => rpright_c ai ni ci l w1 hl ZO ZO ZO (CF hw1 rfl hv))) rfl ?_
 rintro v1 L1 ⟨rfl, rfl⟩
 show JL _ _ _ _ (_ :: _) [_]
 refine Z2 4 ?_
 refine AX _ rfl (fun hb12 => ?_) (fun hb12 => ?_)
 ·
  have hb13 : (decide (RightI l)) = false := by simpa using hb12
  have hp13 := of_decide_eq_false hb13
  refine Z2 7 ?_
  refine A8 [false] ?_
  show JQ _ _ _ _ []
  refine Z1 fun w1 hw1 => ?_
  refine ⟨_, [], rfl, ⟨congrArg Value.bool ?_, rfl⟩, hw1.no⟩
  unfold RightO
  rw [hl, hls]
  first | rw [if_pos (show kd = 1 by omega)] | rw [if_neg (show ¬ kd = 1 by omega), if_pos (show kd = 2 by omega)] | rw [if_neg (show ¬ kd = 1 by omega), if_neg (show ¬ kd = 2 by omega), if_pos (show kd = 3 by omega)] | rw [if_neg (show ¬ kd = 1 by omega), if_neg (show ¬ kd = 2 by omega), if_neg (show ¬ kd = 3 by omega)]
  all_goals (first | rfl | (simp [*]; done) | (simp_all; done) | (simp_all; omega))
 have hb14 : (decide (RightI l)) = true := by simpa using hb12
 have hp14 := of_decide_eq_true hb14
 refine Z2 10 ?_
 refine AX _ rfl (fun hb15 => ?_) (fun hb15 => ?_)
 ·
  have hp15 := of_decide_eq_true hb15
  refine Z2 11 ?_
  refine A8 [false] ?_
  show JQ _ _ _ _ []
  refine Z1 fun w1 hw1 => ?_
  refine ⟨_, [], rfl, ⟨congrArg Value.bool ?_, rfl⟩, hw1.no⟩
  unfold RightO
  rw [hl, hls]
  first | rw [if_pos (show kd = 1 by omega)] | rw [if_neg (show ¬ kd = 1 by omega), if_pos (show kd = 2 by omega)] | rw [if_neg (show ¬ kd = 1 by omega), if_neg (show ¬ kd = 2 by omega), if_pos (show kd = 3 by omega)] | rw [if_neg (show ¬ kd = 1 by omega), if_neg (show ¬ kd = 2 by omega), if_neg (show ¬ kd = 3 by omega)]
  all_goals (first | rfl | (simp [*]; done) | (simp_all; done) | (simp_all; omega))
 have hp15 := of_decide_eq_false hb15
 refine Z2 9 ?_
 refine C3 (ι := Nat) (fun i => [(1, Ptr nb1 0), (3, I64 i)]) (fun i => [(Ez nb1 [I64 (kd), SL ai ni ci, SL sa ns sc, U64 bl] 36)]) (fun i => i ≤ ns ∧ ∀ k, k < i → ∀ y, ls[k]? = some y → (fun x => oddB (headE ls) (SealR.e x)) y = false) (fun i => ns - i) 0 ⟨ZO, fun k hk => absurd hk ZO⟩ (Sub.all rfl) rfl ?_
 rintro i ⟨hi1, hi2⟩
 show JC _ _ _ [_, _] [_]
 refine Z2 10 ?_
 refine AX _ rfl (fun hb16 => ?_) (fun hb16 => ?_)
 ·
  have hp16 := of_decide_eq_true hb16
  refine Z2 5 ?_
  obtain ⟨x1, hx1⟩ : ∃ x, ls[i]? = some x := ⟨_, List.getElem?_eq_getElem (by rw [hls]; omega)⟩
  obtain ⟨bz1, oz1, hz1, hm1⟩ := EJ D8 ZD hs hx1
  obtain ⟨x2, hx2⟩ : ∃ x, ls[0]? = some x := ⟨_, List.getElem?_eq_getElem (by rw [hls]; omega)⟩
  obtain ⟨bz2, oz2, hz2, hm2⟩ := EJ D8 ZD hs hx2
  rcases Bool.eq_false_or_eq_true (RightB (0:UInt64) x1.e) with hb17 | hb17
  ·
   refine Z8 89 2 [(0, Ptr nb1 2), (1, SL sa ns sc), (2, I64 i), (3, Ptr bz1 (49*i + oz1)), (4, Ptr bz1 (49*i + oz1)), (5, U64 x1.e)] ?_
   refine Z7 ⟨[], [0, 1, 2, 3, 4, 5], [], [0, 1, 2, 3, 4, 5], [6]⟩ 6 (hq := ⟨AA rfl rfl ZE, AA rfl rfl ZE, BM rfl rfl rfl, AA rfl rfl (BK 164 49 (49*i + oz1) CE BW rfl hz1 rfl ZO ZO ZO), AA rfl rfl ZE, AA rfl rfl (AR rfl (B1 BD (BP (hm1.mem ZM) (AU (AU (Seg.head))) (by first | omega | (simp; done) | (simp; omega))))), trivial⟩) (AL rfl (AJ 111 _ (.bool (RightB (0:UInt64) x1.e)) (AH _ Tryd.call111 rfl) (fun w1 hw1 => rright_c (0:UInt64) x1.e w1 ))) ?_
   rintro v1 L1 ⟨rfl, rfl⟩
   refine ⟨[(7, .bool (!(RightB (0:UInt64) x1.e))), (8, .bool (!(RightB (0:UInt64) x1.e))), (9, Ptr nb1 2), (10, SL sa ns sc), (11, I64 i), (12, Ptr bz1 (49*i + oz1)), (13, Ptr bz1 (49*i + oz1)), (14, U64 x1.e), (15, Ptr nb1 2), (16, SL sa ns sc), (17, Ptr bz2 oz2), (18, Ptr bz2 oz2), (19, U64 x2.e), (20, .bool (decide (x1.e ≠ x2.e))), (21, .bool (decide (x1.e ≠ x2.e)))], ?_⟩
   show DP _ _ _ _ _ _ _ _ [_]
   refine Z5 ⟨[6], [0, 1, 2, 3, 4, 5, 7, 8, 9, 10, 11, 12, 13, 14, 15, 16, 17, 18, 19, 20, 21], [0, 1, 2, 3, 4, 5], [7, 8, 9, 10, 11, 12, 13, 14, 15, 16, 17, 18, 19, 20, 21], []⟩ (hq := ⟨AA rfl rfl ZE, BM rfl rfl rfl, ⟨_, rfl, BA 8 68 false _ rfl rfl rfl (by rw [show (RightB (0:UInt64) x1.e) = true from hb17] <;> rfl) (BX 2 34 1 Tryd.underlying36 rfl Tryd.sizeOf34 rfl rfl)⟩, ⟨_, rfl, BA 8 68 false _ rfl rfl rfl (by rw [show (RightB (0:UInt64) x1.e) = true from hb17] <;> rfl) (AR rfl (B1 Tryd.isAgg34 (A0 0 rfl (B0 (B0 (Seg.head))))))⟩, ⟨_, rfl, BA 8 68 false _ rfl rfl rfl (by rw [show (RightB (0:UInt64) x1.e) = true from hb17] <;> rfl) (Ev_move rfl)⟩, ⟨_, rfl, BA 8 68 false _ rfl rfl rfl (by rw [show (RightB (0:UInt64) x1.e) = true from hb17] <;> rfl) (BK 164 49 (49*i + oz1) CE BW rfl hz1 rfl ZO ZO ZO)⟩, ⟨_, rfl, BA 8 68 false _ rfl rfl rfl (by rw [show (RightB (0:UInt64) x1.e) = true from hb17] <;> rfl) (BX 0 22 1 Tryd.underlying164 rfl BJ rfl rfl)⟩, ⟨_, rfl, BA 8 68 false _ rfl rfl rfl (by rw [show (RightB (0:UInt64) x1.e) = true from hb17] <;> rfl) (AR rfl (B1 BD (BP (hm1.mem ZM) (AU (AU (Seg.head))) (by first | omega | (simp; done) | (simp; omega)))))⟩, ⟨_, rfl, BA 8 68 false _ rfl rfl rfl (by rw [show (RightB (0:UInt64) x1.e) = true from hb17] <;> rfl) (BX 2 34 1 Tryd.underlying36 rfl Tryd.sizeOf34 rfl rfl)⟩, ⟨_, rfl, BA 8 68 false _ rfl rfl rfl (by rw [show (RightB (0:UInt64) x1.e) = true from hb17] <;> rfl) (AR rfl (B1 Tryd.isAgg34 (A0 0 rfl (B0 (B0 (Seg.head))))))⟩, ⟨_, rfl, BA 8 68 false _ rfl rfl rfl (by rw [show (RightB (0:UInt64) x1.e) = true from hb17] <;> rfl) (BK 164 49 oz2 CE BW rfl hz2 rfl ZO ZO ZO)⟩, ⟨_, rfl, BA 8 68 false _ rfl rfl rfl (by rw [show (RightB (0:UInt64) x1.e) = true from hb17] <;> rfl) (BX 0 22 1 Tryd.underlying164 rfl BJ rfl rfl)⟩, ⟨_, rfl, BA 8 68 false _ rfl rfl rfl (by rw [show (RightB (0:UInt64) x1.e) = true from hb17] <;> rfl) (AR rfl (B1 BD (BP (hm2.mem ZM) (AU (AU (Seg.head))) (by first | omega | (simp; done) | (simp; omega)))))⟩, ⟨_, rfl, BA 8 68 false _ rfl rfl rfl (by rw [show (RightB (0:UInt64) x1.e) = true from hb17] <;> rfl) (AT rfl rfl fun _ => CL x1.e x2.e)⟩, AA rfl rfl (BO _ rfl (by rw [show (RightB (0:UInt64) x1.e) = true from hb17] <;> rfl) rfl), trivial⟩) ?_
   refine A9 (F' := [(60, Ptr nb1 2), (61, SL sa ns sc), (62, I64 i), (63, Ptr bz1 (49*i + oz1)), (64, Ptr bz1 (49*i + oz1)), (65, U64 x1.e), (66, .bool (RightB (0:UInt64) x1.e)), (67, .bool (!(RightB (0:UInt64) x1.e))), (68, .bool (!(RightB (0:UInt64) x1.e))), (69, Ptr nb1 2), (70, SL sa ns sc), (71, I64 i), (72, Ptr bz1 (49*i + oz1)), (73, Ptr bz1 (49*i + oz1)), (74, U64 x1.e), (75, Ptr nb1 2), (76, SL sa ns sc), (77, Ptr bz2 oz2), (78, Ptr bz2 oz2), (79, U64 x2.e), (80, .bool (decide (x1.e ≠ x2.e))), (81, .bool (decide (x1.e ≠ x2.e))), (1, Ptr nb1 0), (3, I64 i), (53, I64 i), (54, Ptr nb1 2), (55, SL sa ns sc), (56, I64 ns), (57, .bool (decide (((i:Int)) < ((ns:Int)))))]) ZR ?_
   refine AK (AX _ rfl (fun hb18 => ?_) (fun hb18 => ?_))
   ·
    have hp18 := of_decide_eq_true hb18
    refine Z2 11 ?_
    refine A8 [false] ?_
    show JQ _ _ _ _ []
    refine Z1 fun w1 hw1 => ?_
    refine ⟨_, [], rfl, ⟨congrArg Value.bool ?_, rfl⟩, hw1.no⟩
    unfold RightO
    rw [hl, hls]
    first | rw [if_pos (show kd = 1 by omega)] | rw [if_neg (show ¬ kd = 1 by omega), if_pos (show kd = 2 by omega)] | rw [if_neg (show ¬ kd = 1 by omega), if_neg (show ¬ kd = 2 by omega), if_pos (show kd = 3 by omega)] | rw [if_neg (show ¬ kd = 1 by omega), if_neg (show ¬ kd = 2 by omega), if_neg (show ¬ kd = 3 by omega)]
    have ha : ls.any (fun x => oddB (headE ls) (SealR.e x)) = true := any_odd hx1 (by first | (simp [oddB, *]; done) | (rw [FB hx2]; simp [oddB, *]; done))
    simp [*]
   have hp18 := of_decide_eq_false hb18
   refine Z2 5 ?_
   refine AE (I64 ((i:Int) + 1)) (AT rfl rfl fun _ => BR _ _ ((i:Int) + 1) ZO ZO) rfl ?_
   refine Z2 1 ?_
   refine A1 (B5 (C1 (i + 1) ⟨ZO, find_step hx1 (by show oddB (headE ls) x1.e = false; rw [FB hx2]; simp [oddB, *]) hi2⟩ (by first | (simp; omega) | simp | (dsimp only; omega) | omega) (Sub.all rfl) rfl))
  refine Z8 89 2 [(0, Ptr nb1 2), (1, SL sa ns sc), (2, I64 i), (3, Ptr bz1 (49*i + oz1)), (4, Ptr bz1 (49*i + oz1)), (5, U64 x1.e)] ?_
  refine Z7 ⟨[], [0, 1, 2, 3, 4, 5], [], [0, 1, 2, 3, 4, 5], [6]⟩ 6 (hq := ⟨AA rfl rfl ZE, AA rfl rfl ZE, BM rfl rfl rfl, AA rfl rfl (BK 164 49 (49*i + oz1) CE BW rfl hz1 rfl ZO ZO ZO), AA rfl rfl ZE, AA rfl rfl (AR rfl (B1 BD (BP (hm1.mem ZM) (AU (AU (Seg.head))) (by first | omega | (simp; done) | (simp; omega))))), trivial⟩) (AL rfl (AJ 111 _ (.bool (RightB (0:UInt64) x1.e)) (AH _ Tryd.call111 rfl) (fun w1 hw1 => rright_c (0:UInt64) x1.e w1 ))) ?_
  rintro v1 L1 ⟨rfl, rfl⟩
  refine ⟨[(7, .bool (!(RightB (0:UInt64) x1.e))), (8, .bool (!(RightB (0:UInt64) x1.e))), (9, undef), (10, undef), (11, undef), (12, undef), (13, undef), (14, undef), (15, undef), (16, undef), (17, undef), (18, undef), (19, undef), (20, undef), (21, .bool true)], ?_⟩
  show DP _ _ _ _ _ _ _ _ [_]
  refine Z5 ⟨[6], [0, 1, 2, 3, 4, 5, 7, 8, 9, 10, 11, 12, 13, 14, 15, 16, 17, 18, 19, 20, 21], [0, 1, 2, 3, 4, 5], [7, 8, 9, 10, 11, 12, 13, 14, 15, 16, 17, 18, 19, 20, 21], []⟩ (hq := ⟨AA rfl rfl ZE, BM rfl rfl rfl, ⟨_, rfl, BN 8 68 false _ rfl rfl rfl (by rw [show (RightB (0:UInt64) x1.e) = false from hb17] <;> rfl)⟩, ⟨_, rfl, BN 8 68 false _ rfl rfl rfl (by rw [show (RightB (0:UInt64) x1.e) = false from hb17] <;> rfl)⟩, ⟨_, rfl, BN 8 68 false _ rfl rfl rfl (by rw [show (RightB (0:UInt64) x1.e) = false from hb17] <;> rfl)⟩, ⟨_, rfl, BN 8 68 false _ rfl rfl rfl (by rw [show (RightB (0:UInt64) x1.e) = false from hb17] <;> rfl)⟩, ⟨_, rfl, BN 8 68 false _ rfl rfl rfl (by rw [show (RightB (0:UInt64) x1.e) = false from hb17] <;> rfl)⟩, ⟨_, rfl, BN 8 68 false _ rfl rfl rfl (by rw [show (RightB (0:UInt64) x1.e) = false from hb17] <;> rfl)⟩, ⟨_, rfl, BN 8 68 false _ rfl rfl rfl (by rw [show (RightB (0:UInt64) x1.e) = false from hb17] <;> rfl)⟩, ⟨_, rfl, BN 8 68 false _ rfl rfl rfl (by rw [show (RightB (0:UInt64) x1.e) = false from hb17] <;> rfl)⟩, ⟨_, rfl, BN 8 68 false _ rfl rfl rfl (by rw [show (RightB (0:UInt64) x1.e) = false from hb17] <;> rfl)⟩, ⟨_, rfl, BN 8 68 false _ rfl rfl rfl (by rw [show (RightB (0:UInt64) x1.e) = false from hb17] <;> rfl)⟩, ⟨_, rfl, BN 8 68 false _ rfl rfl rfl (by rw [show (RightB (0:UInt64) x1.e) = false from hb17] <;> rfl)⟩, ⟨_, rfl, BN 8 68 false _ rfl rfl rfl (by rw [show (RightB (0:UInt64) x1.e) = false from hb17] <;> rfl)⟩, AA rfl rfl (CC _ rfl (by rw [show (RightB (0:UInt64) x1.e) = false from hb17] <;> rfl) rfl), trivial⟩) ?_
  refine A9 (F' := [(60, Ptr nb1 2), (61, SL sa ns sc), (62, I64 i), (63, Ptr bz1 (49*i + oz1)), (64, Ptr bz1 (49*i + oz1)), (65, U64 x1.e), (66, .bool (RightB (0:UInt64) x1.e)), (67, .bool (!(RightB (0:UInt64) x1.e))), (68, .bool (!(RightB (0:UInt64) x1.e))), (69, undef), (70, undef), (71, undef), (72, undef), (73, undef), (74, undef), (75, undef), (76, undef), (77, undef), (78, undef), (79, undef), (80, undef), (81, .bool true), (1, Ptr nb1 0), (3, I64 i), (53, I64 i), (54, Ptr nb1 2), (55, SL sa ns sc), (56, I64 ns), (57, .bool (decide (((i:Int)) < ((ns:Int)))))]) ZR ?_
  refine AK (A7 _ rfl rfl ?_)
  refine Z2 11 ?_
  refine A8 [false] ?_
  show JQ _ _ _ _ []
  refine Z1 fun w1 hw1 => ?_
  refine ⟨_, [], rfl, ⟨congrArg Value.bool ?_, rfl⟩, hw1.no⟩
  unfold RightO
  rw [hl, hls]
  first | rw [if_pos (show kd = 1 by omega)] | rw [if_neg (show ¬ kd = 1 by omega), if_pos (show kd = 2 by omega)] | rw [if_neg (show ¬ kd = 1 by omega), if_neg (show ¬ kd = 2 by omega), if_pos (show kd = 3 by omega)] | rw [if_neg (show ¬ kd = 1 by omega), if_neg (show ¬ kd = 2 by omega), if_neg (show ¬ kd = 3 by omega)]
  have ha : ls.any (fun x => oddB (headE ls) (SealR.e x)) = true := any_odd hx1 (by first | (simp [oddB, *]; done) | (rw [FB hx2]; simp [oddB, *]; done))
  simp [*]
 have hp16 := of_decide_eq_false hb16
 refine Z2 18 ?_
 refine A8 [false] ?_
 show JQ _ _ _ _ []
 refine Z1 fun w1 hw1 => ?_
 refine ⟨_, [], rfl, ⟨congrArg Value.bool ?_, rfl⟩, hw1.no⟩
 unfold RightO
 rw [hl, hls]
 first | rw [if_pos (show kd = 1 by omega)] | rw [if_neg (show ¬ kd = 1 by omega), if_pos (show kd = 2 by omega)] | rw [if_neg (show ¬ kd = 1 by omega), if_neg (show ¬ kd = 2 by omega), if_pos (show kd = 3 by omega)] | rw [if_neg (show ¬ kd = 1 by omega), if_neg (show ¬ kd = 2 by omega), if_neg (show ¬ kd = 3 by omega)]
 have ha : ls.any (fun x => oddB (headE ls) (SealR.e x)) = false := any_no (by rw [hls]; intro k hk; exact hi2 k ZO)
 rw [ha, decide_eq_true (Classical.not_not.1 ‹¬ bl ≠ 0›), decide_eq_true ‹RightI l›]
 simp only [Bool.true_and, Bool.not_false, Bool.and_true]
 exact decide_eq_decide.2 ZO
theorem eq64_c (ai : Option Addr) (ni ci : Nat) (l : List UInt64) (ai2 : Option Addr) (ni2 ci2 : Nat) (l2 : List UInt64)  (w : World) (hl : l.length = ni) (hnm : ni ≤ 2000000) (hnc : ni ≤ ci) (hcm : ci ≤ maxLen) (hv : RdV w ai (cu64 l)) (hl2 : l2.length = ni2) (hnm2 : ni2 ≤ 2000000) (hnc2 : ni2 ≤ ci2) (hcm2 : ci2 ≤ maxLen) (hv2 : RdV w ai2 (cu64 l2))  : Calls Tryd.prog 115 #[SL ai ni ci, SL ai2 ni2 ci2] w (Post w [] (fun v L => v = .bool (decide (l = l2)) ∧ L = [])) := by
 have hmx : maxLen = 9223372036854775807 := rfl
 refine enter w [] 26 [] [SL ai ni ci, SL ai2 ni2 ci2] Tryd.func115 rfl rfl ZM (A2 ZM ZM ZM) ?_
 show JC _ _ _ [_, _] _
 refine Z2 15 ?_
 refine AX _ rfl (fun hb1 => ?_) (fun hb1 => ?_)
 ·
  have hp1 := of_decide_eq_true hb1
  refine Z2 7 ?_
  refine Z1 fun w1 hw1 => ?_
  refine ⟨_, [], rfl, ⟨congrArg Value.bool ?_, rfl⟩, hw1.no⟩
  refine (decide_eq_false (fun h => ?_)).symm
  first | (have := congrArg List.length h; omega) | exact list_ne (E0 (i := i) ZO) (E0 (i := i) ZO) (by assumption) h
 have hp1 := of_decide_eq_false hb1
 refine Z2 11 ?_
 refine C3 (ι := Nat) (fun i => [(0, SL ai ni ci), (1, SL ai2 ni2 ci2), (12, I64 ni), (13, I64 i)]) (fun i => []) (fun i => i ≤ ni ∧ ∀ k, k < i → ∀ x y, l[k]? = some x → l2[k]? = some y → x = y) (fun i => ni - i) 0 ⟨ZO, fun k hk => absurd hk ZO⟩ (Sub.all rfl) rfl ?_
 rintro i ⟨hi1, hi2⟩
 show JC _ _ _ [_, _, _, _] []
 refine Z2 6 ?_
 refine AX _ rfl (fun hb2 => ?_) (fun hb2 => ?_)
 ·
  have hp2 := of_decide_eq_true hb2
  refine Z2 11 ?_
  obtain ⟨bz1, oz1, hz1, hm1⟩ := RdV.pos hv (by rw [EA, hl]; omega)
  obtain ⟨bz2, oz2, hz2, hm2⟩ := RdV.pos hv2 (by rw [EA, hl2]; omega)
  refine Z8 26 1 [(0, SL ai ni ci), (1, I64 i), (2, Ptr bz1 (i + oz1)), (3, U64 (g64 l i)), (4, SL ai2 ni2 ci2), (5, I64 i), (6, Ptr bz2 (i + oz2)), (7, U64 (g64 l2 i)), (8, .bool (decide ((g64 l i) ≠ (g64 l2 i))))] ?_
  refine Z5 ⟨[], [0, 1, 2, 3, 4, 5, 6, 7, 8], [], [0, 1, 2, 3, 4, 5, 6, 7, 8], []⟩ (hq := ⟨BM rfl rfl rfl, BM rfl rfl rfl, AA rfl rfl (BK 22 1 (i + oz1) BB BJ rfl hz1 rfl ZO ZO ZO), AA rfl rfl (AR rfl (B1 BD (BP (hm1.mem ZM) (Seg.get (FE (i := i) (by rw [hl]; omega))) (by first | omega | (simp; done) | (simp; omega))))), BM rfl rfl rfl, BM rfl rfl rfl, AA rfl rfl (BK 22 1 (i + oz2) BB BJ rfl hz2 rfl ZO ZO ZO), AA rfl rfl (AR rfl (B1 BD (BP (hm2.mem ZM) (Seg.get (FE (i := i) (by rw [hl2]; omega))) (by first | omega | (simp; done) | (simp; omega))))), AA rfl rfl (AT rfl rfl fun _ => CL (g64 l i) (g64 l2 i)), trivial⟩) ?_
  refine A9 (F' := [(16, SL ai ni ci), (17, I64 i), (18, Ptr bz1 (i + oz1)), (19, U64 (g64 l i)), (20, SL ai2 ni2 ci2), (21, I64 i), (22, Ptr bz2 (i + oz2)), (23, U64 (g64 l2 i)), (24, .bool (decide ((g64 l i) ≠ (g64 l2 i)))), (0, SL ai ni ci), (1, SL ai2 ni2 ci2), (12, I64 ni), (13, I64 i), (14, .bool (decide (((i:Int)) < ((ni:Int))))), (15, I64 i), (5, I64 i)]) ZR ?_
  refine AK (AX _ rfl (fun hb3 => ?_) (fun hb3 => ?_))
  ·
   have hp3 := of_decide_eq_true hb3
   refine Z2 11 ?_
   refine Z1 fun w1 hw1 => ?_
   refine ⟨_, [], rfl, ⟨congrArg Value.bool ?_, rfl⟩, hw1.no⟩
   refine (decide_eq_false (fun h => ?_)).symm
   first | (have := congrArg List.length h; omega) | exact list_ne (E0 (i := i) ZO) (E0 (i := i) ZO) (by assumption) h
  have hp3 := of_decide_eq_false hb3
  refine Z2 4 ?_
  refine AE (I64 ((i:Int) + 1)) (AT rfl rfl fun _ => BR _ _ ((i:Int) + 1) ZO ZO) rfl ?_
  refine Z2 1 ?_
  refine A1 (B5 (C1 (i + 1) ⟨ZO, eq_step (E0 (i := i) ZO) (E0 (i := i) ZO) (Classical.not_not.1 (by assumption)) hi2⟩ (by first | (simp; omega) | simp | (dsimp only; omega) | omega) (Sub.all rfl) rfl))
 have hp2 := of_decide_eq_false hb2
 refine Z2 11 ?_
 refine Z1 fun w1 hw1 => ?_
 refine ⟨_, [], rfl, ⟨congrArg Value.bool ?_, rfl⟩, hw1.no⟩
 exact (decide_eq_true (list_eq ZO (by rw [hl]; intro k hk; exact hi2 k ZO))).symm
theorem eqS_c (sa : Option Addr) (ns sc : Nat) (ls : List SealR) (sa2 : Option Addr) (ns2 sc2 : Nat) (ls2 : List SealR)  (w : World) (hls : ls.length = ns) (hnn : ns ≤ 2000000) (hnd : ns ≤ sc) (hcn : sc ≤ maxLen) (hs : RdV w sa (ls.flatMap sealC)) (hls2 : ls2.length = ns2) (hnn2 : ns2 ≤ 2000000) (hnd2 : ns2 ≤ sc2) (hcn2 : sc2 ≤ maxLen) (hs2 : RdV w sa2 (ls2.flatMap sealC))  : Calls Tryd.prog 116 #[SL sa ns sc, SL sa2 ns2 sc2] w (Post w [] (fun v L => v = .bool (decide (ls = ls2)) ∧ L = [])) := by
 have hmx : maxLen = 9223372036854775807 := rfl
 refine enter w [] 26 [] [SL sa ns sc, SL sa2 ns2 sc2] Tryd.func116 rfl rfl ZM (A2 ZM ZM ZM) ?_
 show JC _ _ _ [_, _] _
 refine Z2 15 ?_
 refine AX _ rfl (fun hb1 => ?_) (fun hb1 => ?_)
 ·
  have hp1 := of_decide_eq_true hb1
  refine Z2 7 ?_
  refine Z1 fun w1 hw1 => ?_
  refine ⟨_, [], rfl, ⟨congrArg Value.bool ?_, rfl⟩, hw1.no⟩
  refine (decide_eq_false (fun h => ?_)).symm
  first | (have := congrArg List.length h; omega) | exact absurd h h
 have hp1 := of_decide_eq_false hb1
 refine Z2 11 ?_
 refine C3 (ι := Nat) (fun i => [(0, SL sa ns sc), (1, SL sa2 ns2 sc2), (12, I64 ns), (13, I64 i)]) (fun i => []) (fun i => i ≤ ns ∧ ∀ k, k < i → ∀ x y, ls[k]? = some x → ls2[k]? = some y → x = y) (fun i => ns - i) 0 ⟨ZO, fun k hk => absurd hk ZO⟩ (Sub.all rfl) rfl ?_
 rintro i ⟨hi1, hi2⟩
 show JC _ _ _ [_, _, _, _] []
 refine Z2 6 ?_
 refine AX _ rfl (fun hb2 => ?_) (fun hb2 => ?_)
 ·
  have hp2 := of_decide_eq_true hb2
  refine Z2 11 ?_
  obtain ⟨x1, hx1⟩ : ∃ x, ls[i]? = some x := ⟨_, List.getElem?_eq_getElem (by rw [hls]; omega)⟩
  obtain ⟨bz1, oz1, hz1, hm1⟩ := EJ D8 ZD hs hx1
  obtain ⟨x2, hx2⟩ : ∃ x, ls2[i]? = some x := ⟨_, List.getElem?_eq_getElem (by rw [hls2]; omega)⟩
  obtain ⟨bz2, oz2, hz2, hm2⟩ := EJ D8 ZD hs2 hx2
  refine Z8 26 1 [(0, SL sa ns sc), (1, I64 i), (2, Ptr bz1 (49*i + oz1)), (3, .agg ([U64 x1.e] ++ cu8 x1.d ++ cu8 x1.t).toArray), (4, SL sa2 ns2 sc2), (5, I64 i), (6, Ptr bz2 (49*i + oz2)), (7, .agg ([U64 x2.e] ++ cu8 x2.d ++ cu8 x2.t).toArray), (8, .bool (!(decide (x1.e = x2.e ∧ x1.d = x2.d ∧ x1.t = x2.t))))] ?_
  refine Z5 ⟨[], [0, 1, 2, 3, 4, 5, 6, 7, 8], [], [0, 1, 2, 3, 4, 5, 6, 7, 8], []⟩ (hq := ⟨BM rfl rfl rfl, BM rfl rfl rfl, AA rfl rfl (BK 161 49 (49*i + oz1) DA BC rfl hz1 rfl ZO ZO ZO), AA rfl rfl (AR rfl (BV CT BC (by simp [x1.hd, x1.ht]) (BP (hm1.mem ZM) (AG _) (by first | omega | (simp; done) | (simp; omega))))), BM rfl rfl rfl, BM rfl rfl rfl, AA rfl rfl (BK 161 49 (49*i + oz2) DA BC rfl hz2 rfl ZO ZO ZO), AA rfl rfl (AR rfl (BV CT BC (by simp [x2.hd, x2.ht]) (BP (hm2.mem ZM) (AG _) (by first | omega | (simp; done) | (simp; omega))))), AA rfl rfl (CG _ _ _ rfl rfl (fun _ => EG _ _ _ _ _ _ ZR) (neq_struct (x1.e = x2.e ∧ x1.d = x2.d ∧ x1.t = x2.t) (EqV.struct (d := 9999) ZR ZR ZR (EqRs.cons 22 0 (U64 x1.e) (U64 x2.e) _ _ _ (PartV.one BD (AU (AU (Seg.head)))) (PartV.one BD (AU (AU (Seg.head)))) (EqV.u64 (d := 9998) BQ x1.e x2.e) (EqRs.cons 159 1 (.agg (cu8 x1.d).toArray) (.agg (cu8 x2.d).toArray) _ _ _ (PartV.agg D3 DW (EC (AU (Seg.right 1 0 rfl rfl (AG _))) (CI x1.hd) ZO)) (PartV.agg D3 DW (EC (AU (Seg.right 1 0 rfl rfl (AG _))) (CI x2.hd) ZO)) (EqV.arr8 (d := 9997) CJ BS CM DT D9 (by simp [x1.hd]) (by simp [x2.hd])) (EqRs.last 27 33 (.agg (cu8 x1.t).toArray) (.agg (cu8 x2.t).toArray) _ (PartV.agg CU CO (EC (Seg.right 33 0 (by simp [x1.hd]) rfl (AG _)) (CI x1.ht) ZO)) (PartV.agg CU CO (EC (Seg.right 33 0 (by simp [x2.hd]) rfl (AG _)) (CI x2.ht) ZO)) (EqV.arr8 (d := 9997) AZ BS CM DT D9 (by simp [x1.ht]) (by simp [x2.ht])))))) (by first | rfl | (simp only [Bool.decide_and, Bool.and_assoc]; done) | (simp only [Bool.beq_eq_decide_eq, Bool.decide_and, Bool.and_assoc]; done) | (simp [Bool.and_assoc]; done)))), trivial⟩) ?_
  refine A9 (F' := [(16, SL sa ns sc), (17, I64 i), (18, Ptr bz1 (49*i + oz1)), (19, .agg ([U64 x1.e] ++ cu8 x1.d ++ cu8 x1.t).toArray), (20, SL sa2 ns2 sc2), (21, I64 i), (22, Ptr bz2 (49*i + oz2)), (23, .agg ([U64 x2.e] ++ cu8 x2.d ++ cu8 x2.t).toArray), (24, .bool (!(decide (x1.e = x2.e ∧ x1.d = x2.d ∧ x1.t = x2.t)))), (0, SL sa ns sc), (1, SL sa2 ns2 sc2), (12, I64 ns), (13, I64 i), (14, .bool (decide (((i:Int)) < ((ns:Int))))), (15, I64 i), (5, I64 i)]) ZR ?_
  refine AK (AX _ rfl (fun hb3 => ?_) (fun hb3 => ?_))
  ·
   have hb4 : (decide (x1.e = x2.e ∧ x1.d = x2.d ∧ x1.t = x2.t)) = false := by first | simpa using hb3 | exact Eq.mp (Bool.not_eq_true' _) hb3
   have hp4 := of_decide_eq_false hb4
   refine Z2 11 ?_
   refine Z1 fun w1 hw1 => ?_
   refine ⟨_, [], rfl, ⟨congrArg Value.bool ?_, rfl⟩, hw1.no⟩
   refine (decide_eq_false (fun h => ?_)).symm
   first | (have := congrArg List.length h; omega) | exact list_ne hx1 hx2 (fun e => (by assumption : ¬ _) ((SealR.eq_iff _ _).1 e)) h
  have hb5 : (decide (x1.e = x2.e ∧ x1.d = x2.d ∧ x1.t = x2.t)) = true := by first | simpa using hb3 | exact Eq.mp (Bool.not_eq_false' _) hb3
  have hp5 := of_decide_eq_true hb5
  refine Z2 4 ?_
  refine AE (I64 ((i:Int) + 1)) (AT rfl rfl fun _ => BR _ _ ((i:Int) + 1) ZO ZO) rfl ?_
  refine Z2 1 ?_
  refine A1 (B5 (C1 (i + 1) ⟨ZO, eq_step hx1 hx2 ((SealR.eq_iff _ _).2 (by first | assumption | exact Classical.not_not.1 (by assumption))) hi2⟩ (by first | (simp; omega) | simp | (dsimp only; omega) | omega) (Sub.all rfl) rfl))
 have hp2 := of_decide_eq_false hb2
 refine Z2 11 ?_
 refine Z1 fun w1 hw1 => ?_
 refine ⟨_, [], rfl, ⟨congrArg Value.bool ?_, rfl⟩, hw1.no⟩
 exact (decide_eq_true (list_eq ZO (by rw [hls]; intro k hk; exact hi2 k ZO))).symm
theorem same13_c (pv ep : UInt64) (kd : Int) (ai : Option Addr) (ni ci : Nat) (l : List UInt64) (sa : Option Addr) (ns sc : Nat) (ls : List SealR) (bl : UInt64) (tg : List UInt8) (pv2 ep2 : UInt64) (kd2 : Int) (ai2 : Option Addr) (ni2 ci2 : Nat) (l2 : List UInt64) (sa2 : Option Addr) (ns2 sc2 : Nat) (ls2 : List SealR) (bl2 : UInt64) (tg2 : List UInt8)  (w : World) (hl : l.length = ni) (hnm : ni ≤ 2000000) (hnc : ni ≤ ci) (hcm : ci ≤ maxLen) (hv : RdV w ai (cu64 l)) (hls : ls.length = ns) (hnn : ns ≤ 2000000) (hnd : ns ≤ sc) (hcn : sc ≤ maxLen) (hs : RdV w sa (ls.flatMap sealC)) (htg : tg.length = 16) (hl2 : l2.length = ni2) (hnm2 : ni2 ≤ 2000000) (hnc2 : ni2 ≤ ci2) (hcm2 : ci2 ≤ maxLen) (hv2 : RdV w ai2 (cu64 l2)) (hls2 : ls2.length = ns2) (hnn2 : ns2 ≤ 2000000) (hnd2 : ns2 ≤ sc2) (hcn2 : sc2 ≤ maxLen) (hs2 : RdV w sa2 (ls2.flatMap sealC)) (htg2 : tg2.length = 16)  : Calls Tryd.prog 49 #[.agg (V2 pv ep (kd) ai ni ci sa ns sc bl tg).toArray, .agg (V2 pv2 ep2 (kd2) ai2 ni2 ci2 sa2 ns2 sc2 bl2 tg2).toArray] w (Post w [] (fun v L => v = .bool (decide (pv = pv2 ∧ ep = ep2 ∧ tg = tg2 ∧ kd = kd2 ∧ bl = bl2 ∧ l = l2 ∧ ls = ls2)) ∧ L = [])) := by
 have hmx : maxLen = 9223372036854775807 := rfl
 refine enter (P := Tryd.prog) (f := 49) (fn := Tryd.f49) w [] 58 [] [.agg (V2 pv ep (kd) ai ni ci sa ns sc bl tg).toArray, .agg (V2 pv2 ep2 (kd2) ai2 ni2 ci2 sa2 ns2 sc2 bl2 tg2).toArray] Tryd.func49 rfl rfl ZM (A2 ZM ZM ZM) ?_
 show JC _ _ _ [_, _] _
 refine A4 (AO (AF (B2 (.agg (V2 pv ep (kd) ai ni ci sa ns sc bl tg).toArray) (V2 pv ep (kd) ai ni ci sa ns sc bl tg) rfl (by first | rfl | simp)) rfl ?_))
 rintro v1 L1 ⟨nb1, hnb1, rfl, rfl⟩
 show JL _ _ _ _ (_ :: _) [_]
 refine AF (B2 (.agg (V2 pv2 ep2 (kd2) ai2 ni2 ci2 sa2 ns2 sc2 bl2 tg2).toArray) (V2 pv2 ep2 (kd2) ai2 ni2 ci2 sa2 ns2 sc2 bl2 tg2) rfl (by first | rfl | simp)) rfl ?_
 rintro v1 L1 ⟨nb2, hnb2, rfl, rfl⟩
 show JL _ _ _ _ (_ :: _) [_, _]
 refine Z2 4 ?_
 refine Z8 58 5 [(0, Ptr nb1 2), (1, .agg #[I64 (kd), SL ai ni ci, SL sa ns sc, U64 bl]), (2, Ptr nb2 2), (3, .agg #[I64 (kd2), SL ai2 ni2 ci2, SL sa2 ns2 sc2, U64 bl2])] ?_
 refine DP_two ⟨[], [0, 1, 2, 3], [], [0, 1, 2, 3], [4, 5]⟩ 4 5 _ _ rfl rfl ZK rfl ⟨AA rfl rfl (BX 2 26 4 Tryd.underlying29 rfl CX rfl rfl), AA rfl rfl (AR rfl (BV DQ CX rfl (A0 0 rfl (CB (p := [U64 pv, U64 ep]) (q := cu8 tg) (vs := [I64 (kd), SL ai ni ci, SL sa ns sc, U64 bl]) (by first | rfl | (simp only [List.append_assoc, List.nil_append, List.append_nil, List.cons_append]; done)) rfl)))), AA rfl rfl (BX 2 26 4 Tryd.underlying29 rfl CX rfl rfl), AA rfl rfl (AR rfl (BV DQ CX rfl (A0 1 rfl (CB (p := [U64 pv2, U64 ep2]) (q := cu8 tg2) (vs := [I64 (kd2), SL ai2 ni2 ci2, SL sa2 ns2 sc2, U64 bl2]) (by first | rfl | (simp only [List.append_assoc, List.nil_append, List.append_nil, List.cons_append]; done)) rfl)))), trivial⟩ rfl rfl (AL rfl (AS _ ([I64 0, SL none 0 0, SL none 0 0, U64 0]) Tryd.zeroValue26 ZR)) (AL rfl (AS _ ([I64 0, SL none 0 0, SL none 0 0, U64 0]) Tryd.zeroValue26 ZR)) ?_ ?_
 ·
  rintro v1 L1 ⟨nb3, hnb3, rfl, rfl⟩
  refine ⟨[], ?_⟩
  show DP _ _ _ _ _ _ _ _ [_, _, _]
  refine Z7 ⟨[4], [0, 1, 2, 3], [], [0, 1, 2, 3], [5]⟩ 5 (hq := ⟨AA rfl rfl ZE, AA rfl rfl (AR rfl (BV DQ CX rfl (A0 0 rfl (CB (p := [U64 pv, U64 ep]) (q := cu8 tg) (vs := [I64 (kd), SL ai ni ci, SL sa ns sc, U64 bl]) (by first | rfl | (simp only [List.append_assoc, List.nil_append, List.append_nil, List.cons_append]; done)) rfl)))), AA rfl rfl ZE, AA rfl rfl (AR rfl (BV DQ CX rfl (A0 1 rfl (CB (p := [U64 pv2, U64 ep2]) (q := cu8 tg2) (vs := [I64 (kd2), SL ai2 ni2 ci2, SL sa2 ns2 sc2, U64 bl2]) (by first | rfl | (simp only [List.append_assoc, List.nil_append, List.append_nil, List.cons_append]; done)) rfl)))), trivial⟩) (AL rfl (AS _ ([I64 0, SL none 0 0, SL none 0 0, U64 0]) Tryd.zeroValue26 ZR)) ?_
  rintro v1 L1 ⟨nb5, hnb5, rfl, rfl⟩
  refine ⟨[], ?_⟩
  show DP _ _ _ _ _ _ _ _ [_, _, _, _]
  refine Z6 ⟨[4, 5], [0, 1, 2, 3], [], [0, 1, 2, 3], [6]⟩ 6 (hq := ⟨AA rfl rfl ZE, AA rfl rfl (AR rfl (BV DQ CX rfl (A0 0 rfl (CB (p := [U64 pv, U64 ep]) (q := cu8 tg) (vs := [I64 (kd), SL ai ni ci, SL sa ns sc, U64 bl]) (by first | rfl | (simp only [List.append_assoc, List.nil_append, List.append_nil, List.cons_append]; done)) rfl)))), AA rfl rfl ZE, AA rfl rfl (AR rfl (BV DQ CX rfl (A0 1 rfl (CB (p := [U64 pv2, U64 ep2]) (q := cu8 tg2) (vs := [I64 (kd2), SL ai2 ni2 ci2, SL sa2 ns2 sc2, U64 bl2]) (by first | rfl | (simp only [List.append_assoc, List.nil_append, List.append_nil, List.cons_append]; done)) rfl)))), trivial⟩) (AL rfl ZW) ?_
  show DP _ _ _ _ _ _ _ _ [_, _, _, _]
  refine Z6 ⟨[4, 5, 6], [0, 1, 2, 3], [0, 1], [2, 3], [7]⟩ 7 (hq := ⟨AA rfl rfl ZE, AA rfl rfl (AR rfl (BV DQ CX rfl (A0 1 rfl (CB (p := [U64 pv2, U64 ep2]) (q := cu8 tg2) (vs := [I64 (kd2), SL ai2 ni2 ci2, SL sa2 ns2 sc2, U64 bl2]) (by first | rfl | (simp only [List.append_assoc, List.nil_append, List.append_nil, List.cons_append]; done)) rfl)))), trivial⟩) (AL rfl ZW) ?_
  show DP _ _ _ _ _ _ _ _ [_, _, _, _]
  refine Z5 ⟨[4, 5, 6, 7], [0, 1, 2, 3], [0, 1, 2, 3], [], []⟩ ?_
  refine A9 (F' := [(5, Ptr nb3 0), (6, Ptr nb5 0), (2, Ptr nb1 0), (3, Ptr nb2 0), (4, .bool false)]) ZR ?_
  refine Z2 7 ?_
  refine AE (.bool (decide (pv = pv2))) (AT rfl rfl fun _ => DS pv pv2) rfl ?_
  refine Z2 1 ?_
  rcases Bool.eq_false_or_eq_true (decide (pv = pv2)) with hb1 | hb1
  ·
   have hp1 := of_decide_eq_true hb1
   refine Z2 4 ?_
   refine AD 5 16 true _ (.bool (decide (ep = ep2))) rfl rfl hb1 (AT rfl rfl fun _ => DS ep ep2) rfl ?_
   refine Z2 2 ?_
   rcases Bool.eq_false_or_eq_true (decide (ep = ep2)) with hb2 | hb2
   ·
    have hp2 := of_decide_eq_true hb2
    refine Z2 1 ?_
    refine AD 12 23 true _ _ rfl rfl hb2 (AR rfl (BV CU CO (CI htg) (A0 0 rfl (Seg.right 6 0 rfl rfl (AG _))))) rfl ?_
    refine Z2 1 ?_
    refine AD 12 23 true _ _ rfl rfl hb2 (AR rfl (BV CU CO (CI htg2) (A0 1 rfl (Seg.right 6 0 rfl rfl (AG _))))) rfl ?_
    refine AD 12 23 true _ (.bool (decide (tg = tg2))) rfl rfl hb2 (CG _ _ _ rfl rfl (fun _ => EG _ _ _ _ _ _ ZR) fun _ => eql_arr8 AZ BS CM DT D9 (by simp [htg]) (by simp [htg2])) rfl ?_
    refine Z2 2 ?_
    rcases Bool.eq_false_or_eq_true (decide (tg = tg2)) with hb3 | hb3
    ·
     have hp3 := of_decide_eq_true hb3
     refine Z2 7 ?_
     rcases Bool.eq_false_or_eq_true (decide ((kd) = (kd2))) with hb4 | hb4
     ·
      have hp4 := of_decide_eq_true hb4
      refine Z2 4 ?_
      refine AD 26 37 true _ (.bool (decide (bl = bl2))) rfl rfl hb4 (AT rfl rfl fun _ => DS bl bl2) rfl ?_
      refine Z2 2 ?_
      rcases Bool.eq_false_or_eq_true (decide (bl = bl2)) with hb5 | hb5
      ·
       have hp5 := of_decide_eq_true hb5
       refine Z2 4 ?_
       refine B6 33 44 true _ rfl rfl hb5 (AJ 115 _ (.bool (decide (l = l2))) (AH _ Tryd.call115 rfl) (fun w1 hw1 => eq64_c ai ni ci l ai2 ni2 ci2 l2 w1 hl ZO ZO ZO (CF hw1 rfl hv) hl2 ZO ZO ZO (CF hw1 rfl hv2))) rfl ?_
       rintro v1 L1 ⟨rfl, rfl⟩
       show JL _ _ _ _ (_ :: _) [_, _, _, _]
       refine Z2 2 ?_
       rcases Bool.eq_false_or_eq_true (decide (l = l2)) with hb6 | hb6
       ·
        have hp6 := of_decide_eq_true hb6
        refine Z2 4 ?_
        refine B6 40 51 true _ rfl rfl hb6 (AJ 116 _ (.bool (decide (ls = ls2))) (AH _ Tryd.call116 rfl) (fun w1 hw1 => eqS_c sa ns sc ls sa2 ns2 sc2 ls2 w1 hls ZO ZO ZO (CF hw1 rfl hs) hls2 ZO ZO ZO (CF hw1 rfl hs2))) rfl ?_
        rintro v1 L1 ⟨rfl, rfl⟩
        show JL _ _ _ _ (_ :: _) [_, _, _, _]
        refine Z2 5 ?_
        refine A8 [false, false, false, false] ?_
        show JQ _ _ _ _ []
        refine Z1 fun w1 hw1 => ?_
        refine ⟨_, [], rfl, ⟨congrArg Value.bool ?_, rfl⟩, hw1.no⟩
        first | (simp [*]; done) | (simp_all; done)
       have hp6 := of_decide_eq_false hb6
       refine Z2 10 ?_
       refine A8 [false, false, false, false] ?_
       show JQ _ _ _ _ []
       refine Z1 fun w1 hw1 => ?_
       refine ⟨_, [], rfl, ⟨congrArg Value.bool ?_, rfl⟩, hw1.no⟩
       first | (simp [*]; done) | (simp_all; done)
      have hp5 := of_decide_eq_false hb5
      refine Z2 17 ?_
      refine A8 [false, false, false, false] ?_
      show JQ _ _ _ _ []
      refine Z1 fun w1 hw1 => ?_
      refine ⟨_, [], rfl, ⟨congrArg Value.bool ?_, rfl⟩, hw1.no⟩
      first | (simp [*]; done) | (simp_all; done)
     have hp4 := of_decide_eq_false hb4
     refine Z2 24 ?_
     refine A8 [false, false, false, false] ?_
     show JQ _ _ _ _ []
     refine Z1 fun w1 hw1 => ?_
     refine ⟨_, [], rfl, ⟨congrArg Value.bool ?_, rfl⟩, hw1.no⟩
     first | (simp [*]; done) | (simp_all; done)
    have hp3 := of_decide_eq_false hb3
    refine Z2 31 ?_
    refine A8 [false, false, false, false] ?_
    show JQ _ _ _ _ []
    refine Z1 fun w1 hw1 => ?_
    refine ⟨_, [], rfl, ⟨congrArg Value.bool ?_, rfl⟩, hw1.no⟩
    first | (simp [*]; done) | (simp_all; done)
   have hp2 := of_decide_eq_false hb2
   refine Z2 38 ?_
   refine A8 [false, false, false, false] ?_
   show JQ _ _ _ _ []
   refine Z1 fun w1 hw1 => ?_
   refine ⟨_, [], rfl, ⟨congrArg Value.bool ?_, rfl⟩, hw1.no⟩
   first | (simp [*]; done) | (simp_all; done)
  have hp1 := of_decide_eq_false hb1
  refine Z2 45 ?_
  refine A8 [false, false, false, false] ?_
  show JQ _ _ _ _ []
  refine Z1 fun w1 hw1 => ?_
  refine ⟨_, [], rfl, ⟨congrArg Value.bool ?_, rfl⟩, hw1.no⟩
  first | (simp [*]; done) | (simp_all; done)
 rintro v1 L1 ⟨nb4, hnb4, rfl, rfl⟩
 refine ⟨[], ?_⟩
 show DP _ _ _ _ _ _ _ _ [_, _, _]
 refine Z7 ⟨[5], [0, 1, 2, 3], [], [0, 1, 2, 3], [4]⟩ 4 (hq := ⟨AA rfl rfl ZE, AA rfl rfl (AR rfl (BV DQ CX rfl (A0 0 rfl (CB (p := [U64 pv, U64 ep]) (q := cu8 tg) (vs := [I64 (kd), SL ai ni ci, SL sa ns sc, U64 bl]) (by first | rfl | (simp only [List.append_assoc, List.nil_append, List.append_nil, List.cons_append]; done)) rfl)))), AA rfl rfl ZE, AA rfl rfl (AR rfl (BV DQ CX rfl (A0 1 rfl (CB (p := [U64 pv2, U64 ep2]) (q := cu8 tg2) (vs := [I64 (kd2), SL ai2 ni2 ci2, SL sa2 ns2 sc2, U64 bl2]) (by first | rfl | (simp only [List.append_assoc, List.nil_append, List.append_nil, List.cons_append]; done)) rfl)))), trivial⟩) (AL rfl (AS _ ([I64 0, SL none 0 0, SL none 0 0, U64 0]) Tryd.zeroValue26 ZR)) ?_
 rintro v1 L1 ⟨nb6, hnb6, rfl, rfl⟩
 refine ⟨[], ?_⟩
 show DP _ _ _ _ _ _ _ _ [_, _, _, _]
 refine Z6 ⟨[5, 4], [0, 1, 2, 3], [], [0, 1, 2, 3], [6]⟩ 6 (hq := ⟨AA rfl rfl ZE, AA rfl rfl (AR rfl (BV DQ CX rfl (A0 0 rfl (CB (p := [U64 pv, U64 ep]) (q := cu8 tg) (vs := [I64 (kd), SL ai ni ci, SL sa ns sc, U64 bl]) (by first | rfl | (simp only [List.append_assoc, List.nil_append, List.append_nil, List.cons_append]; done)) rfl)))), AA rfl rfl ZE, AA rfl rfl (AR rfl (BV DQ CX rfl (A0 1 rfl (CB (p := [U64 pv2, U64 ep2]) (q := cu8 tg2) (vs := [I64 (kd2), SL ai2 ni2 ci2, SL sa2 ns2 sc2, U64 bl2]) (by first | rfl | (simp only [List.append_assoc, List.nil_append, List.append_nil, List.cons_append]; done)) rfl)))), trivial⟩) (AL rfl ZW) ?_
 show DP _ _ _ _ _ _ _ _ [_, _, _, _]
 refine Z6 ⟨[5, 4, 6], [0, 1, 2, 3], [0, 1], [2, 3], [7]⟩ 7 (hq := ⟨AA rfl rfl ZE, AA rfl rfl (AR rfl (BV DQ CX rfl (A0 1 rfl (CB (p := [U64 pv2, U64 ep2]) (q := cu8 tg2) (vs := [I64 (kd2), SL ai2 ni2 ci2, SL sa2 ns2 sc2, U64 bl2]) (by first | rfl | (simp only [List.append_assoc, List.nil_append, List.append_nil, List.cons_append]; done)) rfl)))), trivial⟩) (AL rfl ZW) ?_
 show DP _ _ _ _ _ _ _ _ [_, _, _, _]
 refine Z5 ⟨[5, 4, 6, 7], [0, 1, 2, 3], [0, 1, 2, 3], [], []⟩ ?_
 refine A9 (F' := [(5, Ptr nb6 0), (6, Ptr nb4 0), (2, Ptr nb1 0), (3, Ptr nb2 0), (4, .bool false)]) ZR ?_
 refine Z2 7 ?_
 refine AE (.bool (decide (pv = pv2))) (AT rfl rfl fun _ => DS pv pv2) rfl ?_
 refine Z2 1 ?_
 rcases Bool.eq_false_or_eq_true (decide (pv = pv2)) with hb7 | hb7
 ·
  have hp7 := of_decide_eq_true hb7
  refine Z2 4 ?_
  refine AD 5 16 true _ (.bool (decide (ep = ep2))) rfl rfl hb7 (AT rfl rfl fun _ => DS ep ep2) rfl ?_
  refine Z2 2 ?_
  rcases Bool.eq_false_or_eq_true (decide (ep = ep2)) with hb8 | hb8
  ·
   have hp8 := of_decide_eq_true hb8
   refine Z2 1 ?_
   refine AD 12 23 true _ _ rfl rfl hb8 (AR rfl (BV CU CO (CI htg) (A0 0 rfl (Seg.right 6 0 rfl rfl (AG _))))) rfl ?_
   refine Z2 1 ?_
   refine AD 12 23 true _ _ rfl rfl hb8 (AR rfl (BV CU CO (CI htg2) (A0 1 rfl (Seg.right 6 0 rfl rfl (AG _))))) rfl ?_
   refine AD 12 23 true _ (.bool (decide (tg = tg2))) rfl rfl hb8 (CG _ _ _ rfl rfl (fun _ => EG _ _ _ _ _ _ ZR) fun _ => eql_arr8 AZ BS CM DT D9 (by simp [htg]) (by simp [htg2])) rfl ?_
   refine Z2 2 ?_
   rcases Bool.eq_false_or_eq_true (decide (tg = tg2)) with hb9 | hb9
   ·
    have hp9 := of_decide_eq_true hb9
    refine Z2 7 ?_
    rcases Bool.eq_false_or_eq_true (decide ((kd) = (kd2))) with hb10 | hb10
    ·
     have hp10 := of_decide_eq_true hb10
     refine Z2 4 ?_
     refine AD 26 37 true _ (.bool (decide (bl = bl2))) rfl rfl hb10 (AT rfl rfl fun _ => DS bl bl2) rfl ?_
     refine Z2 2 ?_
     rcases Bool.eq_false_or_eq_true (decide (bl = bl2)) with hb11 | hb11
     ·
      have hp11 := of_decide_eq_true hb11
      refine Z2 4 ?_
      refine B6 33 44 true _ rfl rfl hb11 (AJ 115 _ (.bool (decide (l = l2))) (AH _ Tryd.call115 rfl) (fun w1 hw1 => eq64_c ai ni ci l ai2 ni2 ci2 l2 w1 hl ZO ZO ZO (CF hw1 rfl hv) hl2 ZO ZO ZO (CF hw1 rfl hv2))) rfl ?_
      rintro v1 L1 ⟨rfl, rfl⟩
      show JL _ _ _ _ (_ :: _) [_, _, _, _]
      refine Z2 2 ?_
      rcases Bool.eq_false_or_eq_true (decide (l = l2)) with hb12 | hb12
      ·
       have hp12 := of_decide_eq_true hb12
       refine Z2 4 ?_
       refine B6 40 51 true _ rfl rfl hb12 (AJ 116 _ (.bool (decide (ls = ls2))) (AH _ Tryd.call116 rfl) (fun w1 hw1 => eqS_c sa ns sc ls sa2 ns2 sc2 ls2 w1 hls ZO ZO ZO (CF hw1 rfl hs) hls2 ZO ZO ZO (CF hw1 rfl hs2))) rfl ?_
       rintro v1 L1 ⟨rfl, rfl⟩
       show JL _ _ _ _ (_ :: _) [_, _, _, _]
       refine Z2 5 ?_
       refine A8 [false, false, false, false] ?_
       show JQ _ _ _ _ []
       refine Z1 fun w1 hw1 => ?_
       refine ⟨_, [], rfl, ⟨congrArg Value.bool ?_, rfl⟩, hw1.no⟩
       first | (simp [*]; done) | (simp_all; done)
      have hp12 := of_decide_eq_false hb12
      refine Z2 10 ?_
      refine A8 [false, false, false, false] ?_
      show JQ _ _ _ _ []
      refine Z1 fun w1 hw1 => ?_
      refine ⟨_, [], rfl, ⟨congrArg Value.bool ?_, rfl⟩, hw1.no⟩
      first | (simp [*]; done) | (simp_all; done)
     have hp11 := of_decide_eq_false hb11
     refine Z2 17 ?_
     refine A8 [false, false, false, false] ?_
     show JQ _ _ _ _ []
     refine Z1 fun w1 hw1 => ?_
     refine ⟨_, [], rfl, ⟨congrArg Value.bool ?_, rfl⟩, hw1.no⟩
     first | (simp [*]; done) | (simp_all; done)
    have hp10 := of_decide_eq_false hb10
    refine Z2 24 ?_
    refine A8 [false, false, false, false] ?_
    show JQ _ _ _ _ []
    refine Z1 fun w1 hw1 => ?_
    refine ⟨_, [], rfl, ⟨congrArg Value.bool ?_, rfl⟩, hw1.no⟩
    first | (simp [*]; done) | (simp_all; done)
   have hp9 := of_decide_eq_false hb9
   refine Z2 31 ?_
   refine A8 [false, false, false, false] ?_
   show JQ _ _ _ _ []
   refine Z1 fun w1 hw1 => ?_
   refine ⟨_, [], rfl, ⟨congrArg Value.bool ?_, rfl⟩, hw1.no⟩
   first | (simp [*]; done) | (simp_all; done)
  have hp8 := of_decide_eq_false hb8
  refine Z2 38 ?_
  refine A8 [false, false, false, false] ?_
  show JQ _ _ _ _ []
  refine Z1 fun w1 hw1 => ?_
  refine ⟨_, [], rfl, ⟨congrArg Value.bool ?_, rfl⟩, hw1.no⟩
  first | (simp [*]; done) | (simp_all; done)
 have hp7 := of_decide_eq_false hb7
 refine Z2 45 ?_
 refine A8 [false, false, false, false] ?_
 show JQ _ _ _ _ []
 refine Z1 fun w1 hw1 => ?_
 refine ⟨_, [], rfl, ⟨congrArg Value.bool ?_, rfl⟩, hw1.no⟩
 first | (simp [*]; done) | (simp_all; done)
theorem rsame13_c (pv ep : UInt64) (kd : Int) (ai : Option Addr) (ni ci : Nat) (l : List UInt64) (sa : Option Addr) (ns sc : Nat) (ls : List SealR) (bl : UInt64) (tg : List UInt8) (pv2 ep2 : UInt64) (kd2 : Int) (ai2 : Option Addr) (ni2 ci2 : Nat) (l2 : List UInt64) (sa2 : Option Addr) (ns2 sc2 : Nat) (ls2 : List SealR) (bl2 : UInt64) (tg2 : List UInt8)  (w : World) (hl : l.length = ni) (hnm : ni ≤ 2000000) (hnc : ni ≤ ci) (hcm : ci ≤ maxLen) (hv : RdV w ai (cu64 l)) (hls : ls.length = ns) (hnn : ns ≤ 2000000) (hnd : ns ≤ sc) (hcn : sc ≤ maxLen) (hs : RdV w sa (ls.flatMap sealC)) (htg : tg.length = 16) (hl2 : l2.length = ni2) (hnm2 : ni2 ≤ 2000000) (hnc2 : ni2 ≤ ci2) (hcm2 : ci2 ≤ maxLen) (hv2 : RdV w ai2 (cu64 l2)) (hls2 : ls2.length = ns2) (hnn2 : ns2 ≤ 2000000) (hnd2 : ns2 ≤ sc2) (hcn2 : sc2 ≤ maxLen) (hs2 : RdV w sa2 (ls2.flatMap sealC)) (htg2 : tg2.length = 16)  : Calls Tryd.prog 51 #[.agg (V2 pv ep (kd) ai ni ci sa ns sc bl tg).toArray, .agg (V2 pv2 ep2 (kd2) ai2 ni2 ci2 sa2 ns2 sc2 bl2 tg2).toArray] w (Post w [] (fun v L => v = .bool (decide (pv = pv2 ∧ ep = ep2 ∧ tg = tg2 ∧ kd = kd2 ∧ bl = bl2 ∧ l = l2 ∧ ls = ls2)) ∧ L = [])) := by
 have hmx : maxLen = 9223372036854775807 := rfl
 refine enter (P := Tryd.prog) (f := 51) (fn := Tryd.f51) w [] 108 [] [.agg (V2 pv ep (kd) ai ni ci sa ns sc bl tg).toArray, .agg (V2 pv2 ep2 (kd2) ai2 ni2 ci2 sa2 ns2 sc2 bl2 tg2).toArray] Tryd.func51 rfl rfl ZM (A2 ZM ZM ZM) ?_
 show JC _ _ _ [_, _] _
 refine A4 (AO (AF (B2 (.agg (V2 pv ep (kd) ai ni ci sa ns sc bl tg).toArray) (V2 pv ep (kd) ai ni ci sa ns sc bl tg) rfl (by first | rfl | simp)) rfl ?_))
 rintro v1 L1 ⟨nb1, hnb1, rfl, rfl⟩
 show JL _ _ _ _ (_ :: _) [_]
 refine AF (B2 (.agg (V2 pv2 ep2 (kd2) ai2 ni2 ci2 sa2 ns2 sc2 bl2 tg2).toArray) (V2 pv2 ep2 (kd2) ai2 ni2 ci2 sa2 ns2 sc2 bl2 tg2) rfl (by first | rfl | simp)) rfl ?_
 rintro v1 L1 ⟨nb2, hnb2, rfl, rfl⟩
 show JL _ _ _ _ (_ :: _) [_, _]
 refine Z2 10 ?_
 refine AE (.bool (decide (pv ≠ pv2))) (AT rfl rfl fun _ => CL pv pv2) rfl ?_
 refine Z2 1 ?_
 rcases Bool.eq_false_or_eq_true (decide (pv ≠ pv2)) with hb1 | hb1
 ·
  have hp1 := of_decide_eq_true hb1
  refine Z2 55 ?_
  refine A7 _ rfl rfl ?_
  refine Z2 7 ?_
  refine A8 [false, false] ?_
  show JQ _ _ _ _ []
  refine Z1 fun w1 hw1 => ?_
  refine ⟨_, [], rfl, ⟨congrArg Value.bool ?_, rfl⟩, hw1.no⟩
  refine (decide_eq_false (fun h => ?_)).symm
  obtain ⟨h1, h2, h3, h4, h5, h6, h7⟩ := h
  have h8 := congrArg List.length h6
  have h9 := congrArg List.length h7
  first | omega | contradiction | exact list_ne (E0 (i := i) ZO) (E0 (i := i) ZO) (by assumption) h6 | (simp_all; done)
 have hp1 := of_decide_eq_false hb1
 refine Z2 4 ?_
 refine AD 5 12 false _ (.bool (decide (ep ≠ ep2))) rfl rfl hb1 (AT rfl rfl fun _ => CL ep ep2) rfl ?_
 refine Z2 2 ?_
 rcases Bool.eq_false_or_eq_true (decide (ep ≠ ep2)) with hb2 | hb2
 ·
  have hp2 := of_decide_eq_true hb2
  refine Z2 48 ?_
  refine A7 _ rfl rfl ?_
  refine Z2 7 ?_
  refine A8 [false, false] ?_
  show JQ _ _ _ _ []
  refine Z1 fun w1 hw1 => ?_
  refine ⟨_, [], rfl, ⟨congrArg Value.bool ?_, rfl⟩, hw1.no⟩
  refine (decide_eq_false (fun h => ?_)).symm
  obtain ⟨h1, h2, h3, h4, h5, h6, h7⟩ := h
  have h8 := congrArg List.length h6
  have h9 := congrArg List.length h7
  first | omega | contradiction | exact list_ne (E0 (i := i) ZO) (E0 (i := i) ZO) (by assumption) h6 | (simp_all; done)
 have hp2 := of_decide_eq_false hb2
 refine Z2 1 ?_
 refine AD 12 19 false _ _ rfl rfl hb2 (AR rfl (BV CU CO (CI htg) (A0 0 rfl (Seg.right 6 0 rfl rfl (AG _))))) rfl ?_
 refine Z2 1 ?_
 refine AD 12 19 false _ _ rfl rfl hb2 (AR rfl (BV CU CO (CI htg2) (A0 1 rfl (Seg.right 6 0 rfl rfl (AG _))))) rfl ?_
 refine AD 12 19 false _ (.bool (!(decide (tg = tg2)))) rfl rfl hb2 (CG _ _ _ rfl rfl (fun _ => EG _ _ _ _ _ _ ZR) fun _ => neq_arr8 AZ BS CM DT D9 (by simp [htg]) (by simp [htg2])) rfl ?_
 refine Z2 2 ?_
 rcases Bool.eq_false_or_eq_true (decide (tg = tg2)) with hb3 | hb3
 ·
  have hp3 := of_decide_eq_true hb3
  refine AD 19 26 false _ (Ptr nb1 2) rfl rfl (by rw [show (decide (tg = tg2)) = true from hb3] <;> rfl) ZE rfl ?_
  refine AD 19 26 false _ (Ptr nb1 2) rfl rfl (by rw [show (decide (tg = tg2)) = true from hb3] <;> rfl) ZE rfl ?_
  refine AD 19 26 false _ (I64 (kd)) rfl rfl (by rw [show (decide (tg = tg2)) = true from hb3] <;> rfl) ZE rfl ?_
  refine AD 19 26 false _ (Ptr nb2 2) rfl rfl (by rw [show (decide (tg = tg2)) = true from hb3] <;> rfl) ZE rfl ?_
  refine AD 19 26 false _ (Ptr nb2 2) rfl rfl (by rw [show (decide (tg = tg2)) = true from hb3] <;> rfl) ZE rfl ?_
  refine AD 19 26 false _ (I64 (kd2)) rfl rfl (by rw [show (decide (tg = tg2)) = true from hb3] <;> rfl) ZE rfl ?_
  refine AD 19 26 false _ (.bool (decide ((kd) ≠ (kd2)))) rfl rfl (by rw [show (decide (tg = tg2)) = true from hb3] <;> rfl) ZE rfl ?_
  refine AE _ (BO _ rfl (by rw [show (decide (tg = tg2)) = true from hb3] <;> rfl) rfl) rfl ?_
  refine Z2 1 ?_
  rcases Bool.eq_false_or_eq_true (decide ((kd) ≠ (kd2))) with hb4 | hb4
  ·
   have hp4 := of_decide_eq_true hb4
   refine Z2 32 ?_
   refine A7 _ rfl rfl ?_
   refine Z2 7 ?_
   refine A8 [false, false] ?_
   show JQ _ _ _ _ []
   refine Z1 fun w1 hw1 => ?_
   refine ⟨_, [], rfl, ⟨congrArg Value.bool ?_, rfl⟩, hw1.no⟩
   refine (decide_eq_false (fun h => ?_)).symm
   obtain ⟨h1, h2, h3, h4, h5, h6, h7⟩ := h
   have h8 := congrArg List.length h6
   have h9 := congrArg List.length h7
   first | omega | contradiction | exact list_ne (E0 (i := i) ZO) (E0 (i := i) ZO) (by assumption) h6 | (simp_all; done)
  have hp4 := of_decide_eq_false hb4
  refine Z2 6 ?_
  refine AD 28 35 false _ (.bool (decide (bl ≠ bl2))) rfl rfl hb4 (AT rfl rfl fun _ => CL bl bl2) rfl ?_
  refine Z2 2 ?_
  rcases Bool.eq_false_or_eq_true (decide (bl ≠ bl2)) with hb5 | hb5
  ·
   have hp5 := of_decide_eq_true hb5
   refine Z2 23 ?_
   refine A7 _ rfl rfl ?_
   refine Z2 7 ?_
   refine A8 [false, false] ?_
   show JQ _ _ _ _ []
   refine Z1 fun w1 hw1 => ?_
   refine ⟨_, [], rfl, ⟨congrArg Value.bool ?_, rfl⟩, hw1.no⟩
   refine (decide_eq_false (fun h => ?_)).symm
   obtain ⟨h1, h2, h3, h4, h5, h6, h7⟩ := h
   have h8 := congrArg List.length h6
   have h9 := congrArg List.length h7
   first | omega | contradiction | exact list_ne (E0 (i := i) ZO) (E0 (i := i) ZO) (by assumption) h6 | (simp_all; done)
  have hp5 := of_decide_eq_false hb5
  refine Z2 11 ?_
  rcases Bool.eq_false_or_eq_true (decide (((ni:Int)) ≠ ((ni2:Int)))) with hb6 | hb6
  ·
   have hp6 := of_decide_eq_true hb6
   refine Z2 12 ?_
   refine A7 _ rfl rfl ?_
   refine Z2 7 ?_
   refine A8 [false, false] ?_
   show JQ _ _ _ _ []
   refine Z1 fun w1 hw1 => ?_
   refine ⟨_, [], rfl, ⟨congrArg Value.bool ?_, rfl⟩, hw1.no⟩
   refine (decide_eq_false (fun h => ?_)).symm
   obtain ⟨h1, h2, h3, h4, h5, h6, h7⟩ := h
   have h8 := congrArg List.length h6
   have h9 := congrArg List.length h7
   first | omega | contradiction | exact list_ne (E0 (i := i) ZO) (E0 (i := i) ZO) (by assumption) h6 | (simp_all; done)
  have hp6 := of_decide_eq_false hb6
  refine Z2 12 ?_
  refine AX _ rfl (fun hb7 => ?_) (fun hb7 => ?_)
  ·
   have hp7 := of_decide_eq_true hb7
   refine Z2 7 ?_
   refine A8 [false, false] ?_
   show JQ _ _ _ _ []
   refine Z1 fun w1 hw1 => ?_
   refine ⟨_, [], rfl, ⟨congrArg Value.bool ?_, rfl⟩, hw1.no⟩
   refine (decide_eq_false (fun h => ?_)).symm
   obtain ⟨h1, h2, h3, h4, h5, h6, h7⟩ := h
   have h8 := congrArg List.length h6
   have h9 := congrArg List.length h7
   first | omega | contradiction | exact list_ne (E0 (i := i) ZO) (E0 (i := i) ZO) (by assumption) h6 | (simp_all; done)
  have hp7 := of_decide_eq_false hb7
  refine Z2 9 ?_
  refine C3 (ι := Nat) (fun i => [(2, Ptr nb1 0), (3, Ptr nb2 0), (5, I64 i)]) (fun i => [(Ez nb1 (V2 pv ep (kd) ai ni ci sa ns sc bl tg) 38), (Ez nb2 (V2 pv2 ep2 (kd2) ai2 ni2 ci2 sa2 ns2 sc2 bl2 tg2) 38)]) (fun i => i ≤ ni ∧ ∀ k, k < i → ∀ x y, l[k]? = some x → l2[k]? = some y → x = y) (fun i => ni - i) 0 ⟨ZO, fun k hk => absurd hk ZO⟩ (Sub.all rfl) rfl ?_
  rintro i ⟨hi1, hi2⟩
  show JC _ _ _ [_, _, _] [_, _]
  refine Z2 11 ?_
  refine AX _ rfl (fun hb8 => ?_) (fun hb8 => ?_)
  ·
   have hp8 := of_decide_eq_true hb8
   refine Z2 5 ?_
   obtain ⟨bz1, oz1, hz1, hm1⟩ := RdV.pos hv (by rw [EA, hl]; omega)
   obtain ⟨bz2, oz2, hz2, hm2⟩ := RdV.pos hv2 (by rw [EA, hl2]; omega)
   refine Z8 108 1 [(0, Ptr nb1 2), (1, Ptr nb1 3), (2, SL ai ni ci), (3, I64 i), (4, Ptr bz1 (i + oz1)), (5, U64 (g64 l i)), (6, Ptr nb2 2), (7, Ptr nb2 3), (8, SL ai2 ni2 ci2), (9, I64 i), (10, Ptr bz2 (i + oz2)), (11, U64 (g64 l2 i)), (12, .bool (decide ((g64 l i) ≠ (g64 l2 i))))] ?_
   refine Z5 ⟨[], [0, 1, 2, 3, 4, 5, 6, 7, 8, 9, 10, 11, 12], [], [0, 1, 2, 3, 4, 5, 6, 7, 8, 9, 10, 11, 12], []⟩ (hq := ⟨AA rfl rfl ZE, AA rfl rfl ZE, AA rfl rfl ZE, BM rfl rfl rfl, AA rfl rfl (BK 22 1 (i + oz1) BB BJ rfl hz1 rfl ZO ZO ZO), AA rfl rfl (AR rfl (B1 BD (BP (hm1.mem ZM) (Seg.get (FE (i := i) (by rw [hl]; omega))) (by first | omega | (simp; done) | (simp; omega))))), AA rfl rfl ZE, AA rfl rfl ZE, AA rfl rfl ZE, BM rfl rfl rfl, AA rfl rfl (BK 22 1 (i + oz2) BB BJ rfl hz2 rfl ZO ZO ZO), AA rfl rfl (AR rfl (B1 BD (BP (hm2.mem ZM) (Seg.get (FE (i := i) (by rw [hl2]; omega))) (by first | omega | (simp; done) | (simp; omega))))), AA rfl rfl (AT rfl rfl fun _ => CL (g64 l i) (g64 l2 i)), trivial⟩) ?_
   refine A9 (F' := [(74, Ptr nb1 2), (75, Ptr nb1 3), (76, SL ai ni ci), (77, I64 i), (78, Ptr bz1 (i + oz1)), (79, U64 (g64 l i)), (80, Ptr nb2 2), (81, Ptr nb2 3), (82, SL ai2 ni2 ci2), (83, I64 i), (84, Ptr bz2 (i + oz2)), (85, U64 (g64 l2 i)), (86, .bool (decide ((g64 l i) ≠ (g64 l2 i)))), (2, Ptr nb1 0), (3, Ptr nb2 0), (5, I64 i), (66, I64 i), (67, Ptr nb1 2), (68, Ptr nb1 3), (69, SL ai ni ci), (70, I64 ni), (71, .bool (decide (((i:Int)) < ((ni:Int)))))]) ZR ?_
   refine AK (AX _ rfl (fun hb9 => ?_) (fun hb9 => ?_))
   ·
    have hp9 := of_decide_eq_true hb9
    refine Z2 11 ?_
    refine A8 [false, false] ?_
    show JQ _ _ _ _ []
    refine Z1 fun w1 hw1 => ?_
    refine ⟨_, [], rfl, ⟨congrArg Value.bool ?_, rfl⟩, hw1.no⟩
    refine (decide_eq_false (fun h => ?_)).symm
    obtain ⟨h1, h2, h3, h4, h5, h6, h7⟩ := h
    have h8 := congrArg List.length h6
    have h9 := congrArg List.length h7
    first | omega | contradiction | exact list_ne (E0 (i := i) ZO) (E0 (i := i) ZO) (by assumption) h6 | (simp_all; done)
   have hp9 := of_decide_eq_false hb9
   refine Z2 5 ?_
   refine AE (I64 ((i:Int) + 1)) (AT rfl rfl fun _ => BR _ _ ((i:Int) + 1) ZO ZO) rfl ?_
   refine Z2 1 ?_
   refine A1 (B5 (C1 (i + 1) ⟨ZO, eq_step (E0 (i := i) ZO) (E0 (i := i) ZO) (Classical.not_not.1 (by assumption)) hi2⟩ (by first | (simp; omega) | simp | (dsimp only; omega) | omega) (Sub.all rfl) rfl))
  have hp8 := of_decide_eq_false hb8
  refine Z2 12 ?_
  refine C3 (ι := Nat) (fun j => [(2, Ptr nb1 0), (3, Ptr nb2 0), (6, I64 j)]) (fun j => [(Ez nb1 (V2 pv ep (kd) ai ni ci sa ns sc bl tg) 38), (Ez nb2 (V2 pv2 ep2 (kd2) ai2 ni2 ci2 sa2 ns2 sc2 bl2 tg2) 38)]) (fun j => j ≤ ns ∧ ∀ k, k < j → ∀ x y, ls[k]? = some x → ls2[k]? = some y → x = y) (fun j => ns - j) 0 ⟨ZO, fun k hk => absurd hk ZO⟩ (Sub.all rfl) rfl ?_
  rintro j ⟨hj1, hj2⟩
  show JC _ _ _ [_, _, _] [_, _]
  refine Z2 11 ?_
  refine AX _ rfl (fun hb10 => ?_) (fun hb10 => ?_)
  ·
   have hp10 := of_decide_eq_true hb10
   refine Z2 5 ?_
   obtain ⟨x1, hx1⟩ : ∃ x, ls[j]? = some x := ⟨_, List.getElem?_eq_getElem (by rw [hls]; omega)⟩
   obtain ⟨bz3, oz3, hz3, hm3⟩ := EJ D8 ZD hs hx1
   obtain ⟨x2, hx2⟩ : ∃ x, ls2[j]? = some x := ⟨_, List.getElem?_eq_getElem (by rw [hls2]; omega)⟩
   obtain ⟨bz4, oz4, hz4, hm4⟩ := EJ D8 ZD hs2 hx2
   refine Z8 108 1 [(0, Ptr nb1 2), (1, Ptr nb1 4), (2, SL sa ns sc), (3, I64 j), (4, Ptr bz3 (49*j + oz3)), (5, .agg ([U64 x1.e] ++ cu8 x1.d ++ cu8 x1.t).toArray), (6, Ptr nb2 2), (7, Ptr nb2 4), (8, SL sa2 ns2 sc2), (9, I64 j), (10, Ptr bz4 (49*j + oz4)), (11, .agg ([U64 x2.e] ++ cu8 x2.d ++ cu8 x2.t).toArray), (12, .bool (!(decide (x1.e = x2.e ∧ x1.d = x2.d ∧ x1.t = x2.t))))] ?_
   refine Z5 ⟨[], [0, 1, 2, 3, 4, 5, 6, 7, 8, 9, 10, 11, 12], [], [0, 1, 2, 3, 4, 5, 6, 7, 8, 9, 10, 11, 12], []⟩ (hq := ⟨AA rfl rfl ZE, AA rfl rfl ZE, AA rfl rfl ZE, BM rfl rfl rfl, AA rfl rfl (BK 164 49 (49*j + oz3) CE BW rfl hz3 rfl ZO ZO ZO), AA rfl rfl (AR rfl (BV Tryd.isAgg164 BW (by simp [x1.hd, x1.ht]) (BP (hm3.mem ZM) (AG _) (by first | omega | (simp; done) | (simp; omega))))), AA rfl rfl ZE, AA rfl rfl ZE, AA rfl rfl ZE, BM rfl rfl rfl, AA rfl rfl (BK 164 49 (49*j + oz4) CE BW rfl hz4 rfl ZO ZO ZO), AA rfl rfl (AR rfl (BV Tryd.isAgg164 BW (by simp [x2.hd, x2.ht]) (BP (hm4.mem ZM) (AG _) (by first | omega | (simp; done) | (simp; omega))))), AA rfl rfl (CG _ _ _ rfl rfl (fun _ => EG _ _ _ _ _ _ ZR) (neq_struct (x1.e = x2.e ∧ x1.d = x2.d ∧ x1.t = x2.t) (EqV.struct (d := 9999) ZR ZR ZR (EqRs.cons 22 0 (U64 x1.e) (U64 x2.e) _ _ _ (PartV.one BD (AU (AU (Seg.head)))) (PartV.one BD (AU (AU (Seg.head)))) (EqV.u64 (d := 9998) BQ x1.e x2.e) (EqRs.cons 159 1 (.agg (cu8 x1.d).toArray) (.agg (cu8 x2.d).toArray) _ _ _ (PartV.agg D3 DW (EC (AU (Seg.right 1 0 rfl rfl (AG _))) (CI x1.hd) ZO)) (PartV.agg D3 DW (EC (AU (Seg.right 1 0 rfl rfl (AG _))) (CI x2.hd) ZO)) (EqV.arr8 (d := 9997) CJ BS CM DT D9 (by simp [x1.hd]) (by simp [x2.hd])) (EqRs.last 27 33 (.agg (cu8 x1.t).toArray) (.agg (cu8 x2.t).toArray) _ (PartV.agg CU CO (EC (Seg.right 33 0 (by simp [x1.hd]) rfl (AG _)) (CI x1.ht) ZO)) (PartV.agg CU CO (EC (Seg.right 33 0 (by simp [x2.hd]) rfl (AG _)) (CI x2.ht) ZO)) (EqV.arr8 (d := 9997) AZ BS CM DT D9 (by simp [x1.ht]) (by simp [x2.ht])))))) (by first | rfl | (simp only [Bool.decide_and, Bool.and_assoc]; done) | (simp only [Bool.beq_eq_decide_eq, Bool.decide_and, Bool.and_assoc]; done) | (simp [Bool.and_assoc]; done)))), trivial⟩) ?_
   refine A9 (F' := [(95, Ptr nb1 2), (96, Ptr nb1 4), (97, SL sa ns sc), (98, I64 j), (99, Ptr bz3 (49*j + oz3)), (100, .agg ([U64 x1.e] ++ cu8 x1.d ++ cu8 x1.t).toArray), (101, Ptr nb2 2), (102, Ptr nb2 4), (103, SL sa2 ns2 sc2), (104, I64 j), (105, Ptr bz4 (49*j + oz4)), (106, .agg ([U64 x2.e] ++ cu8 x2.d ++ cu8 x2.t).toArray), (107, .bool (!(decide (x1.e = x2.e ∧ x1.d = x2.d ∧ x1.t = x2.t)))), (2, Ptr nb1 0), (3, Ptr nb2 0), (6, I64 j), (87, I64 j), (88, Ptr nb1 2), (89, Ptr nb1 4), (90, SL sa ns sc), (91, I64 ns), (92, .bool (decide (((j:Int)) < ((ns:Int)))))]) ZR ?_
   refine AK (AX _ rfl (fun hb11 => ?_) (fun hb11 => ?_))
   ·
    have hb12 : (decide (x1.e = x2.e ∧ x1.d = x2.d ∧ x1.t = x2.t)) = false := by first | simpa using hb11 | exact Eq.mp (Bool.not_eq_true' _) hb11
    have hp12 := of_decide_eq_false hb12
    refine Z2 11 ?_
    refine A8 [false, false] ?_
    show JQ _ _ _ _ []
    refine Z1 fun w1 hw1 => ?_
    refine ⟨_, [], rfl, ⟨congrArg Value.bool ?_, rfl⟩, hw1.no⟩
    refine (decide_eq_false (fun h => ?_)).symm
    obtain ⟨h1, h2, h3, h4, h5, h6, h7⟩ := h
    exact list_ne hx1 hx2 (fun e => (by assumption : ¬ _) ((SealR.eq_iff _ _).1 e)) h7
   have hb13 : (decide (x1.e = x2.e ∧ x1.d = x2.d ∧ x1.t = x2.t)) = true := by first | simpa using hb11 | exact Eq.mp (Bool.not_eq_false' _) hb11
   have hp13 := of_decide_eq_true hb13
   refine Z2 5 ?_
   refine AE (I64 ((j:Int) + 1)) (AT rfl rfl fun _ => BR _ _ ((j:Int) + 1) ZO ZO) rfl ?_
   refine Z2 1 ?_
   refine A1 (B5 (C1 (j + 1) ⟨ZO, eq_step hx1 hx2 ((SealR.eq_iff _ _).2 (by first | assumption | exact Classical.not_not.1 (by assumption))) hj2⟩ (by first | (simp; omega) | simp | (dsimp only; omega) | omega) (Sub.all rfl) rfl))
  have hp10 := of_decide_eq_false hb10
  refine Z2 11 ?_
  refine A8 [false, false] ?_
  show JQ _ _ _ _ []
  refine Z1 fun w1 hw1 => ?_
  refine ⟨_, [], rfl, ⟨congrArg Value.bool ?_, rfl⟩, hw1.no⟩
  have e1 : l = l2 := list_eq ZO (by rw [hl]; intro k hk; exact hi2 k ZO)
  have e2 : ls = ls2 := list_eq ZO (by rw [hls]; intro k hk; exact hj2 k ZO)
  exact (decide_eq_true (by simp_all)).symm
 have hp3 := of_decide_eq_false hb3
 refine D4 7 19 26 false _ rfl rfl (by rw [show (decide (tg = tg2)) = false from hb3] <;> rfl) rfl (AE _ (CC _ rfl (by rw [show (decide (tg = tg2)) = false from hb3] <;> rfl) rfl) rfl ?_)
 refine Z2 33 ?_
 refine A7 _ rfl rfl ?_
 refine Z2 7 ?_
 refine A8 [false, false] ?_
 show JQ _ _ _ _ []
 refine Z1 fun w1 hw1 => ?_
 refine ⟨_, [], rfl, ⟨congrArg Value.bool ?_, rfl⟩, hw1.no⟩
 refine (decide_eq_false (fun h => ?_)).symm
 obtain ⟨h1, h2, h3, h4, h5, h6, h7⟩ := h
 have h8 := congrArg List.length h6
 have h9 := congrArg List.length h7
 first | omega | contradiction | exact list_ne (E0 (i := i) ZO) (E0 (i := i) ZO) (by assumption) h6 | (simp_all; done)
theorem rmay13_c (pv ep : UInt64) (kd : Int) (ai : Option Addr) (ni ci : Nat) (l : List UInt64) (sa : Option Addr) (ns sc : Nat) (ls : List SealR) (bl : UInt64) (tg : List UInt8)  (w : World) (hl : l.length = ni) (hnm : ni ≤ 2000000) (hnc : ni ≤ ci) (hcm : ci ≤ maxLen) (hv : RdV w ai (cu64 l)) (hls : ls.length = ns) (hnn : ns ≤ 2000000) (hnd : ns ≤ sc) (hcn : sc ≤ maxLen) (hs : RdV w sa (ls.flatMap sealC)) (htg : tg.length = 16)  : Calls Tryd.prog 45 #[.agg (V2 pv ep (kd) ai ni ci sa ns sc bl tg).toArray] w (Post w [] (fun v L => v = I64 ((mayN pv ep kd l ls bl : Nat) : Int) ∧ L = [])) := by
 have hmx : maxLen = 9223372036854775807 := rfl
 refine enter (P := Tryd.prog) (f := 45) (fn := Tryd.f45) w [] 33 [] [.agg (V2 pv ep (kd) ai ni ci sa ns sc bl tg).toArray] Tryd.func45 rfl rfl ZM (A2 ZM ZM ZM) ?_
 show JC _ _ _ [_] _
 refine A4 (AO (AF (B2 (.agg (V2 pv ep (kd) ai ni ci sa ns sc bl tg).toArray) (V2 pv ep (kd) ai ni ci sa ns sc bl tg) rfl (by first | rfl | simp)) rfl ?_))
 rintro v1 L1 ⟨nb1, hnb1, rfl, rfl⟩
 show JL _ _ _ _ (_ :: _) [_]
 refine Z2 7 ?_
 refine AE _ (AR rfl (BV Tryd.isAgg36 Tryd.sizeOf36 rfl (A0 0 rfl (CB (p := [U64 pv, U64 ep]) (q := cu8 tg) (vs := [I64 (kd), SL ai ni ci, SL sa ns sc, U64 bl]) (by first | rfl | (simp only [List.append_assoc, List.nil_append, List.append_nil, List.cons_append]; done)) rfl)))) rfl ?_
 refine AC (AJ 67 _ (.bool (RightO (kd) l ls bl)) (AH _ Tryd.call67 rfl) (fun w1 hw1 => rright13_c (kd) ai ni ci l sa ns sc ls bl w1 hl ZO ZO ZO (CF hw1 rfl hv) hls ZO ZO ZO (CF hw1 rfl hs))) rfl ?_
 show JL _ _ _ _ (_ :: _) [_]
 refine Z2 3 ?_
 refine AX _ rfl (fun hb1 => ?_) (fun hb1 => ?_)
 ·
  have hb2 : (RightO (kd) l ls bl) = false := by simpa using hb1
  refine Z2 7 ?_
  refine A8 [false] ?_
  show JQ _ _ _ _ []
  refine Z1 fun w1 hw1 => ?_
  have e1 : mayN pv ep kd l ls bl = 2 := by
   unfold mayN
   first | rw [if_pos ‹RightO kd l ls bl = true›] | rw [if_neg (by simp [*])]
   all_goals simp [*]
  rw [e1]
  exact ⟨_, [], rfl, ⟨rfl, rfl⟩, hw1.no⟩
 have hb3 : (RightO (kd) l ls bl) = true := by simpa using hb1
 refine Z2 4 ?_
 by_cases hk1 : kd = 1
 ·
  have hpos := RightO_pos hb3 hk1
  rw [hls, hl] at hpos
  obtain ⟨x1, hx1⟩ : ∃ x, ls[0]? = some x := ⟨_, List.getElem?_eq_getElem (by rw [hls]; omega)⟩
  obtain ⟨bz1, oz1, hz1, hm1⟩ := EJ D8 ZD hs hx1
  refine Z8 33 1 [(0, Ptr nb1 2), (1, Ptr nb1 2), (2, I64 (kd)), (3, .bool (decide ((kd) = (1:Int)))), (4, .bool (decide ((kd) = (1:Int)))), (5, Ptr nb1 2), (6, Ptr nb1 4), (7, SL sa ns sc), (8, Ptr bz1 oz1), (9, Ptr bz1 oz1), (10, U64 x1.e), (11, Ptr nb1 1), (12, U64 ep), (13, .bool (decide (x1.e ≠ ep))), (14, .bool (decide (x1.e ≠ ep)))] ?_
  refine Z5 ⟨[], [0, 1, 2, 3, 4, 5, 6, 7, 8, 9, 10, 11, 12, 13, 14], [], [0, 1, 2, 3, 4, 5, 6, 7, 8, 9, 10, 11, 12, 13, 14], []⟩ (hq := ⟨AA rfl rfl ZE, AA rfl rfl ZE, AA rfl rfl ZE, AA rfl rfl ZE, BM rfl rfl rfl, ⟨_, rfl, BA 4 11 true _ rfl rfl rfl (decide_eq_true hk1) (BX 2 36 4 Tryd.underlying38 rfl Tryd.sizeOf36 rfl rfl)⟩, ⟨_, rfl, BA 4 11 true _ rfl rfl rfl (decide_eq_true hk1) (BX 2 34 1 Tryd.underlying36 rfl Tryd.sizeOf34 rfl rfl)⟩, ⟨_, rfl, BA 4 11 true _ rfl rfl rfl (decide_eq_true hk1) (AR rfl (B1 Tryd.isAgg34 (A0 0 rfl (AU (B0 (B0 (B0 (B0 (Seg.head)))))))))⟩, ⟨_, rfl, BA 4 11 true _ rfl rfl rfl (decide_eq_true hk1) (BK 164 49 oz1 CE BW rfl hz1 rfl ZO ZO ZO)⟩, ⟨_, rfl, BA 4 11 true _ rfl rfl rfl (decide_eq_true hk1) (BX 0 22 1 Tryd.underlying164 rfl BJ rfl rfl)⟩, ⟨_, rfl, BA 4 11 true _ rfl rfl rfl (decide_eq_true hk1) (AR rfl (B1 BD (BP (hm1.mem ZM) (AU (AU (Seg.head))) (by first | omega | (simp; done) | (simp; omega)))))⟩, ⟨_, rfl, BA 4 11 true _ rfl rfl rfl (decide_eq_true hk1) (BX 1 22 1 Tryd.underlying38 rfl BJ rfl rfl)⟩, ⟨_, rfl, BA 4 11 true _ rfl rfl rfl (decide_eq_true hk1) (AR rfl (B1 BD (A0 0 rfl (AU (B0 (Seg.head))))))⟩, ⟨_, rfl, BA 4 11 true _ rfl rfl rfl (decide_eq_true hk1) (AT rfl rfl fun _ => CL x1.e ep)⟩, AA rfl rfl (CC _ rfl (decide_eq_true hk1) rfl), trivial⟩) ?_
  refine A9 (F' := [(21, .bool (decide (x1.e ≠ ep))), (1, Ptr nb1 0), (2, I64 0)]) ZR ?_
  refine AK (AX _ rfl (fun hb4 => ?_) (fun hb4 => ?_))
  ·
   have hp4 := of_decide_eq_true hb4
   refine Z2 7 ?_
   refine A8 [false] ?_
   show JQ _ _ _ _ []
   refine Z1 fun w1 hw1 => ?_
   have e1 : mayN pv ep kd l ls bl = 2 := by
    unfold mayN
    first | rw [if_pos ‹RightO kd l ls bl = true›] | rw [if_neg (by simp [*])]
    rw [FB hx1]
    all_goals simp [*]
   rw [e1]
   exact ⟨_, [], rfl, ⟨rfl, rfl⟩, hw1.no⟩
  have hp4 := of_decide_eq_false hb4
  refine Z2 7 ?_
  refine AC (AJ 111 _ (.bool (RightB (0:UInt64) ep)) (AH _ Tryd.call111 rfl) (fun w1 hw1 => rright_c (0:UInt64) ep w1 )) rfl ?_
  show JL _ _ _ _ (_ :: _) [_]
  refine Z2 2 ?_
  rcases Bool.eq_false_or_eq_true (RightB (0:UInt64) ep) with hb5 | hb5
  ·
   refine AD 4 26 false _ (Ptr nb1 0) rfl rfl (by rw [show (RightB (0:UInt64) ep) = true from hb5] <;> rfl) ZE rfl ?_
   refine AD 4 26 false _ (U64 pv) rfl rfl (by rw [show (RightB (0:UInt64) ep) = true from hb5] <;> rfl) ZE rfl ?_
   refine AD 4 26 false _ (Ptr nb1 1) rfl rfl (by rw [show (RightB (0:UInt64) ep) = true from hb5] <;> rfl) ZE rfl ?_
   refine AD 4 26 false _ (U64 ep) rfl rfl (by rw [show (RightB (0:UInt64) ep) = true from hb5] <;> rfl) ZE rfl ?_
   refine AD 4 26 false _ (.bool (decide (ep ≤ pv))) rfl rfl (by rw [show (RightB (0:UInt64) ep) = true from hb5] <;> rfl) (AT rfl rfl fun _ => EH pv ep) rfl ?_
   refine AE _ (BO _ rfl (by rw [show (RightB (0:UInt64) ep) = true from hb5] <;> rfl) rfl) rfl ?_
   refine A1 (AK (AX _ rfl (fun hb6 => ?_) (fun hb6 => ?_)))
   ·
    have hp6 := of_decide_eq_true hb6
    refine Z2 7 ?_
    refine A8 [false] ?_
    show JQ _ _ _ _ []
    refine Z1 fun w1 hw1 => ?_
    have e1 : mayN pv ep kd l ls bl = 1 := by
     unfold mayN
     first | rw [if_pos ‹RightO kd l ls bl = true›] | rw [if_neg (by simp [*])]
     rw [FB hx1]
     all_goals simp [*]
    rw [e1]
    exact ⟨_, [], rfl, ⟨rfl, rfl⟩, hw1.no⟩
   have hp6 := of_decide_eq_false hb6
   refine Z2 8 ?_
   refine A8 [false] ?_
   show JQ _ _ _ _ []
   refine Z1 fun w1 hw1 => ?_
   have e1 : mayN pv ep kd l ls bl = 0 := by
    unfold mayN
    first | rw [if_pos ‹RightO kd l ls bl = true›] | rw [if_neg (by simp [*])]
    rw [FB hx1]
    all_goals simp [*]
   rw [e1]
   exact ⟨_, [], rfl, ⟨rfl, rfl⟩, hw1.no⟩
  refine D4 5 4 26 false _ rfl rfl (by rw [show (RightB (0:UInt64) ep) = false from hb5] <;> rfl) rfl (AE _ (CC _ rfl (by rw [show (RightB (0:UInt64) ep) = false from hb5] <;> rfl) rfl) rfl ?_)
  refine A1 (AK (A7 _ rfl rfl ?_))
  refine Z2 7 ?_
  refine A8 [false] ?_
  show JQ _ _ _ _ []
  refine Z1 fun w1 hw1 => ?_
  have e1 : mayN pv ep kd l ls bl = 1 := by
   unfold mayN
   first | rw [if_pos ‹RightO kd l ls bl = true›] | rw [if_neg (by simp [*])]
   rw [FB hx1]
   all_goals simp [*]
  rw [e1]
  exact ⟨_, [], rfl, ⟨rfl, rfl⟩, hw1.no⟩
 refine Z8 33 1 [(0, Ptr nb1 2), (1, Ptr nb1 2), (2, I64 (kd)), (3, .bool (decide ((kd) = (1:Int)))), (4, .bool (decide ((kd) = (1:Int)))), (5, undef), (6, undef), (7, undef), (8, undef), (9, undef), (10, undef), (11, undef), (12, undef), (13, undef), (14, .bool false)] ?_
 refine Z5 ⟨[], [0, 1, 2, 3, 4, 5, 6, 7, 8, 9, 10, 11, 12, 13, 14], [], [0, 1, 2, 3, 4, 5, 6, 7, 8, 9, 10, 11, 12, 13, 14], []⟩ (hq := ⟨AA rfl rfl ZE, AA rfl rfl ZE, AA rfl rfl ZE, AA rfl rfl ZE, BM rfl rfl rfl, ⟨_, rfl, BN 4 11 true _ rfl rfl rfl (decide_eq_false hk1)⟩, ⟨_, rfl, BN 4 11 true _ rfl rfl rfl (decide_eq_false hk1)⟩, ⟨_, rfl, BN 4 11 true _ rfl rfl rfl (decide_eq_false hk1)⟩, ⟨_, rfl, BN 4 11 true _ rfl rfl rfl (decide_eq_false hk1)⟩, ⟨_, rfl, BN 4 11 true _ rfl rfl rfl (decide_eq_false hk1)⟩, ⟨_, rfl, BN 4 11 true _ rfl rfl rfl (decide_eq_false hk1)⟩, ⟨_, rfl, BN 4 11 true _ rfl rfl rfl (decide_eq_false hk1)⟩, ⟨_, rfl, BN 4 11 true _ rfl rfl rfl (decide_eq_false hk1)⟩, ⟨_, rfl, BN 4 11 true _ rfl rfl rfl (decide_eq_false hk1)⟩, AA rfl rfl (BO _ rfl (decide_eq_false hk1) rfl), trivial⟩) ?_
 refine A9 (F' := [(21, .bool false), (1, Ptr nb1 0), (2, I64 0)]) ZR ?_
 refine AK (AY _ rfl rfl ?_)
 refine Z2 7 ?_
 refine AC (AJ 111 _ (.bool (RightB (0:UInt64) ep)) (AH _ Tryd.call111 rfl) (fun w1 hw1 => rright_c (0:UInt64) ep w1 )) rfl ?_
 show JL _ _ _ _ (_ :: _) [_]
 refine Z2 2 ?_
 rcases Bool.eq_false_or_eq_true (RightB (0:UInt64) ep) with hb7 | hb7
 ·
  refine AD 4 26 false _ (Ptr nb1 0) rfl rfl (by rw [show (RightB (0:UInt64) ep) = true from hb7] <;> rfl) ZE rfl ?_
  refine AD 4 26 false _ (U64 pv) rfl rfl (by rw [show (RightB (0:UInt64) ep) = true from hb7] <;> rfl) ZE rfl ?_
  refine AD 4 26 false _ (Ptr nb1 1) rfl rfl (by rw [show (RightB (0:UInt64) ep) = true from hb7] <;> rfl) ZE rfl ?_
  refine AD 4 26 false _ (U64 ep) rfl rfl (by rw [show (RightB (0:UInt64) ep) = true from hb7] <;> rfl) ZE rfl ?_
  refine AD 4 26 false _ (.bool (decide (ep ≤ pv))) rfl rfl (by rw [show (RightB (0:UInt64) ep) = true from hb7] <;> rfl) (AT rfl rfl fun _ => EH pv ep) rfl ?_
  refine AE _ (BO _ rfl (by rw [show (RightB (0:UInt64) ep) = true from hb7] <;> rfl) rfl) rfl ?_
  refine A1 (AK (AX _ rfl (fun hb8 => ?_) (fun hb8 => ?_)))
  ·
   have hp8 := of_decide_eq_true hb8
   refine Z2 7 ?_
   refine A8 [false] ?_
   show JQ _ _ _ _ []
   refine Z1 fun w1 hw1 => ?_
   have e1 : mayN pv ep kd l ls bl = 1 := by
    unfold mayN
    first | rw [if_pos ‹RightO kd l ls bl = true›] | rw [if_neg (by simp [*])]
    all_goals simp [*]
   rw [e1]
   exact ⟨_, [], rfl, ⟨rfl, rfl⟩, hw1.no⟩
  have hp8 := of_decide_eq_false hb8
  refine Z2 8 ?_
  refine A8 [false] ?_
  show JQ _ _ _ _ []
  refine Z1 fun w1 hw1 => ?_
  have e1 : mayN pv ep kd l ls bl = 0 := by
   unfold mayN
   first | rw [if_pos ‹RightO kd l ls bl = true›] | rw [if_neg (by simp [*])]
   all_goals simp [*]
  rw [e1]
  exact ⟨_, [], rfl, ⟨rfl, rfl⟩, hw1.no⟩
 refine D4 5 4 26 false _ rfl rfl (by rw [show (RightB (0:UInt64) ep) = false from hb7] <;> rfl) rfl (AE _ (CC _ rfl (by rw [show (RightB (0:UInt64) ep) = false from hb7] <;> rfl) rfl) rfl ?_)
 refine A1 (AK (A7 _ rfl rfl ?_))
 refine Z2 7 ?_
 refine A8 [false] ?_
 show JQ _ _ _ _ []
 refine Z1 fun w1 hw1 => ?_
 have e1 : mayN pv ep kd l ls bl = 1 := by
  unfold mayN
  first | rw [if_pos ‹RightO kd l ls bl = true›] | rw [if_neg (by simp [*])]
  all_goals simp [*]
 rw [e1]
 exact ⟨_, [], rfl, ⟨rfl, rfl⟩, hw1.no⟩
theorem may13_c (pv ep : UInt64) (kd : Int) (ai : Option Addr) (ni ci : Nat) (l : List UInt64) (sa : Option Addr) (ns sc : Nat) (ls : List SealR) (bl : UInt64) (tg : List UInt8)  (w : World) (hl : l.length = ni) (hnm : ni ≤ 2000000) (hnc : ni ≤ ci) (hcm : ci ≤ maxLen) (hv : RdV w ai (cu64 l)) (hls : ls.length = ns) (hnn : ns ≤ 2000000) (hnd : ns ≤ sc) (hcn : sc ≤ maxLen) (hs : RdV w sa (ls.flatMap sealC)) (htg : tg.length = 16)  : Calls Tryd.prog 128 #[.agg (V2 pv ep (kd) ai ni ci sa ns sc bl tg).toArray] w (Post w [] (fun v L => v = errV 50 (mayN pv ep kd l ls bl) ∧ L = [])) := by
 have hmx : maxLen = 9223372036854775807 := rfl
 refine enter (P := Tryd.prog) (f := 128) (fn := Tryd.f128) w [] 37 [] [.agg (V2 pv ep (kd) ai ni ci sa ns sc bl tg).toArray] Tryd.func128 rfl rfl ZM (A2 ZM ZM ZM) ?_
 show JC _ _ _ [_] _
 refine A4 (AO (AF (B2 (.agg (V2 pv ep (kd) ai ni ci sa ns sc bl tg).toArray) (V2 pv ep (kd) ai ni ci sa ns sc bl tg) rfl (by first | rfl | simp)) rfl ?_))
 rintro v1 L1 ⟨nb1, hnb1, rfl, rfl⟩
 show JL _ _ _ _ (_ :: _) [_]
 refine Z2 9 ?_
 refine AE _ (AR rfl (BV DQ CX rfl (A0 0 rfl (CB (p := [U64 pv, U64 ep]) (q := cu8 tg) (vs := [I64 (kd), SL ai ni ci, SL sa ns sc, U64 bl]) (by first | rfl | (simp only [List.append_assoc, List.nil_append, List.append_nil, List.cons_append]; done)) rfl)))) rfl ?_
 refine AC (AJ 69 _ (.bool (RightO (kd) l ls bl)) (AH _ Tryd.call69 rfl) (fun w1 hw1 => right13_c (kd) ai ni ci l sa ns sc ls bl w1 hl ZO ZO ZO (CF hw1 rfl hv) hls ZO ZO ZO (CF hw1 rfl hs))) rfl ?_
 show JL _ _ _ _ (_ :: _) [_]
 refine Z2 4 ?_
 refine AX _ rfl (fun hb1 => ?_) (fun hb1 => ?_)
 ·
  have hb2 : (RightO (kd) l ls bl) = false := by simpa using hb1
  refine CY (AK (A7 _ rfl hb1 ?_))
  refine Z2 9 ?_
  refine A8 [false] ?_
  show JQ _ _ _ _ []
  refine Z1 fun w1 hw1 => ?_
  have e1 : mayN pv ep kd l ls bl = 2 := by
   unfold mayN
   first | rw [if_pos ‹RightO kd l ls bl = true›] | rw [if_neg (by simp [*])]
   all_goals simp [*]
  rw [e1]
  exact ⟨_, [], rfl, ⟨rfl, rfl⟩, hw1.no⟩
 have hb3 : (RightO (kd) l ls bl) = true := by simpa using hb1
 by_cases hk1 : kd = 1
 ·
  have hpos := RightO_pos hb3 hk1
  rw [hls, hl] at hpos
  obtain ⟨x1, hx1⟩ : ∃ x, ls[0]? = some x := ⟨_, List.getElem?_eq_getElem (by rw [hls]; omega)⟩
  obtain ⟨bz1, oz1, hz1, hm1⟩ := EJ D8 ZD hs hx1
  refine Z8 37 1 [(0, Ptr nb1 2), (1, Ptr nb1 2), (2, I64 (kd)), (3, .bool (decide ((kd) = (1:Int)))), (4, .bool (decide ((kd) = (1:Int)))), (5, Ptr nb1 2), (6, Ptr nb1 4), (7, SL sa ns sc), (8, Ptr bz1 oz1), (9, Ptr bz1 oz1), (10, U64 x1.e), (11, Ptr nb1 1), (12, U64 ep), (13, .bool (decide (x1.e ≠ ep))), (14, .bool (decide (x1.e ≠ ep))), (15, .bool (decide (x1.e ≠ ep)))] ?_
  refine Z5 ⟨[], [0, 1, 2, 3, 4, 5, 6, 7, 8, 9, 10, 11, 12, 13, 14, 15], [], [0, 1, 2, 3, 4, 5, 6, 7, 8, 9, 10, 11, 12, 13, 14, 15], []⟩ (hq := ⟨AA rfl rfl ZE, AA rfl rfl ZE, AA rfl rfl ZE, AA rfl rfl ZE, BM rfl rfl rfl, ⟨_, rfl, BA 4 12 true _ rfl rfl rfl (decide_eq_true hk1) (BX 2 26 4 Tryd.underlying29 rfl CX rfl rfl)⟩, ⟨_, rfl, BA 4 12 true _ rfl rfl rfl (decide_eq_true hk1) (BX 2 24 1 Tryd.underlying26 rfl Tryd.sizeOf24 rfl rfl)⟩, ⟨_, rfl, BA 4 12 true _ rfl rfl rfl (decide_eq_true hk1) (AR rfl (B1 Tryd.isAgg24 (A0 0 rfl (AU (B0 (B0 (B0 (B0 (Seg.head)))))))))⟩, ⟨_, rfl, BA 4 12 true _ rfl rfl rfl (decide_eq_true hk1) (BK 161 49 oz1 DA BC rfl hz1 rfl ZO ZO ZO)⟩, ⟨_, rfl, BA 4 12 true _ rfl rfl rfl (decide_eq_true hk1) (BX 0 22 1 Tryd.underlying161 rfl BJ rfl rfl)⟩, ⟨_, rfl, BA 4 12 true _ rfl rfl rfl (decide_eq_true hk1) (AR rfl (B1 BD (BP (hm1.mem ZM) (AU (AU (Seg.head))) (by first | omega | (simp; done) | (simp; omega)))))⟩, ⟨_, rfl, BA 4 12 true _ rfl rfl rfl (decide_eq_true hk1) (BX 1 22 1 Tryd.underlying29 rfl BJ rfl rfl)⟩, ⟨_, rfl, BA 4 12 true _ rfl rfl rfl (decide_eq_true hk1) (AR rfl (B1 BD (A0 0 rfl (AU (B0 (Seg.head))))))⟩, ⟨_, rfl, BA 4 12 true _ rfl rfl rfl (decide_eq_true hk1) (AT rfl rfl fun _ => CL x1.e ep)⟩, AA rfl rfl (CC _ rfl (decide_eq_true hk1) rfl), AA rfl rfl ZE, trivial⟩) ?_
  refine A9 (F' := [(3, .bool (decide (x1.e ≠ ep))), (1, Ptr nb1 0), (2, .nilIface)]) ZR ?_
  refine AK (AX _ rfl (fun hb4 => ?_) (fun hb4 => ?_))
  ·
   have hp4 := of_decide_eq_true hb4
   refine Z2 9 ?_
   refine A8 [false] ?_
   show JQ _ _ _ _ []
   refine Z1 fun w1 hw1 => ?_
   have e1 : mayN pv ep kd l ls bl = 2 := by
    unfold mayN
    first | rw [if_pos ‹RightO kd l ls bl = true›] | rw [if_neg (by simp [*])]
    rw [FB hx1]
    all_goals simp [*]
   rw [e1]
   exact ⟨_, [], rfl, ⟨rfl, rfl⟩, hw1.no⟩
  have hp4 := of_decide_eq_false hb4
  refine Z2 4 ?_
  refine AC (AJ 133 _ (.bool (RightB (0:UInt64) ep)) (AH _ Tryd.call133 rfl) (fun w1 hw1 => right_c (0:UInt64) ep w1 )) rfl ?_
  show JL _ _ _ _ (_ :: _) [_]
  refine Z2 2 ?_
  rcases Bool.eq_false_or_eq_true (RightB (0:UInt64) ep) with hb5 | hb5
  ·
   refine AD 4 29 false _ (Ptr nb1 0) rfl rfl (by rw [show (RightB (0:UInt64) ep) = true from hb5] <;> rfl) ZE rfl ?_
   refine AD 4 29 false _ (U64 pv) rfl rfl (by rw [show (RightB (0:UInt64) ep) = true from hb5] <;> rfl) ZE rfl ?_
   refine AD 4 29 false _ (Ptr nb1 1) rfl rfl (by rw [show (RightB (0:UInt64) ep) = true from hb5] <;> rfl) ZE rfl ?_
   refine AD 4 29 false _ (U64 ep) rfl rfl (by rw [show (RightB (0:UInt64) ep) = true from hb5] <;> rfl) ZE rfl ?_
   refine AD 4 29 false _ (.bool (decide (ep ≤ pv))) rfl rfl (by rw [show (RightB (0:UInt64) ep) = true from hb5] <;> rfl) (AT rfl rfl fun _ => EH pv ep) rfl ?_
   refine AE _ (BO _ rfl (by rw [show (RightB (0:UInt64) ep) = true from hb5] <;> rfl) rfl) rfl ?_
   refine Z2 3 ?_
   refine AX _ rfl (fun hb6 => ?_) (fun hb6 => ?_)
   ·
    have hp6 := of_decide_eq_true hb6
    refine Z2 9 ?_
    refine A8 [false] ?_
    show JQ _ _ _ _ []
    refine Z1 fun w1 hw1 => ?_
    have e1 : mayN pv ep kd l ls bl = 1 := by
     unfold mayN
     first | rw [if_pos ‹RightO kd l ls bl = true›] | rw [if_neg (by simp [*])]
     rw [FB hx1]
     all_goals simp [*]
    rw [e1]
    exact ⟨_, [], rfl, ⟨rfl, rfl⟩, hw1.no⟩
   have hp6 := of_decide_eq_false hb6
   refine Z2 9 ?_
   refine A8 [false] ?_
   show JQ _ _ _ _ []
   refine Z1 fun w1 hw1 => ?_
   have e1 : mayN pv ep kd l ls bl = 0 := by
    unfold mayN
    first | rw [if_pos ‹RightO kd l ls bl = true›] | rw [if_neg (by simp [*])]
    rw [FB hx1]
    all_goals simp [*]
   rw [e1]
   exact ⟨_, [], rfl, ⟨rfl, rfl⟩, hw1.no⟩
  refine D4 5 4 29 false _ rfl rfl (by rw [show (RightB (0:UInt64) ep) = false from hb5] <;> rfl) rfl (AE _ (CC _ rfl (by rw [show (RightB (0:UInt64) ep) = false from hb5] <;> rfl) rfl) rfl ?_)
  refine Z2 3 ?_
  refine A7 _ rfl rfl ?_
  refine Z2 9 ?_
  refine A8 [false] ?_
  show JQ _ _ _ _ []
  refine Z1 fun w1 hw1 => ?_
  have e1 : mayN pv ep kd l ls bl = 1 := by
   unfold mayN
   first | rw [if_pos ‹RightO kd l ls bl = true›] | rw [if_neg (by simp [*])]
   rw [FB hx1]
   all_goals simp [*]
  rw [e1]
  exact ⟨_, [], rfl, ⟨rfl, rfl⟩, hw1.no⟩
 refine Z8 37 1 [(0, Ptr nb1 2), (1, Ptr nb1 2), (2, I64 (kd)), (3, .bool (decide ((kd) = (1:Int)))), (4, .bool (decide ((kd) = (1:Int)))), (5, undef), (6, undef), (7, undef), (8, undef), (9, undef), (10, undef), (11, undef), (12, undef), (13, undef), (14, .bool false), (15, .bool false)] ?_
 refine Z5 ⟨[], [0, 1, 2, 3, 4, 5, 6, 7, 8, 9, 10, 11, 12, 13, 14, 15], [], [0, 1, 2, 3, 4, 5, 6, 7, 8, 9, 10, 11, 12, 13, 14, 15], []⟩ (hq := ⟨AA rfl rfl ZE, AA rfl rfl ZE, AA rfl rfl ZE, AA rfl rfl ZE, BM rfl rfl rfl, ⟨_, rfl, BN 4 12 true _ rfl rfl rfl (decide_eq_false hk1)⟩, ⟨_, rfl, BN 4 12 true _ rfl rfl rfl (decide_eq_false hk1)⟩, ⟨_, rfl, BN 4 12 true _ rfl rfl rfl (decide_eq_false hk1)⟩, ⟨_, rfl, BN 4 12 true _ rfl rfl rfl (decide_eq_false hk1)⟩, ⟨_, rfl, BN 4 12 true _ rfl rfl rfl (decide_eq_false hk1)⟩, ⟨_, rfl, BN 4 12 true _ rfl rfl rfl (decide_eq_false hk1)⟩, ⟨_, rfl, BN 4 12 true _ rfl rfl rfl (decide_eq_false hk1)⟩, ⟨_, rfl, BN 4 12 true _ rfl rfl rfl (decide_eq_false hk1)⟩, ⟨_, rfl, BN 4 12 true _ rfl rfl rfl (decide_eq_false hk1)⟩, AA rfl rfl (BO _ rfl (decide_eq_false hk1) rfl), AA rfl rfl ZE, trivial⟩) ?_
 refine A9 (F' := [(3, .bool false), (1, Ptr nb1 0), (2, .nilIface)]) ZR ?_
 refine AK (AY _ rfl rfl ?_)
 refine Z2 4 ?_
 refine AC (AJ 133 _ (.bool (RightB (0:UInt64) ep)) (AH _ Tryd.call133 rfl) (fun w1 hw1 => right_c (0:UInt64) ep w1 )) rfl ?_
 show JL _ _ _ _ (_ :: _) [_]
 refine Z2 2 ?_
 rcases Bool.eq_false_or_eq_true (RightB (0:UInt64) ep) with hb7 | hb7
 ·
  refine AD 4 29 false _ (Ptr nb1 0) rfl rfl (by rw [show (RightB (0:UInt64) ep) = true from hb7] <;> rfl) ZE rfl ?_
  refine AD 4 29 false _ (U64 pv) rfl rfl (by rw [show (RightB (0:UInt64) ep) = true from hb7] <;> rfl) ZE rfl ?_
  refine AD 4 29 false _ (Ptr nb1 1) rfl rfl (by rw [show (RightB (0:UInt64) ep) = true from hb7] <;> rfl) ZE rfl ?_
  refine AD 4 29 false _ (U64 ep) rfl rfl (by rw [show (RightB (0:UInt64) ep) = true from hb7] <;> rfl) ZE rfl ?_
  refine AD 4 29 false _ (.bool (decide (ep ≤ pv))) rfl rfl (by rw [show (RightB (0:UInt64) ep) = true from hb7] <;> rfl) (AT rfl rfl fun _ => EH pv ep) rfl ?_
  refine AE _ (BO _ rfl (by rw [show (RightB (0:UInt64) ep) = true from hb7] <;> rfl) rfl) rfl ?_
  refine Z2 3 ?_
  refine AX _ rfl (fun hb8 => ?_) (fun hb8 => ?_)
  ·
   have hp8 := of_decide_eq_true hb8
   refine Z2 9 ?_
   refine A8 [false] ?_
   show JQ _ _ _ _ []
   refine Z1 fun w1 hw1 => ?_
   have e1 : mayN pv ep kd l ls bl = 1 := by
    unfold mayN
    first | rw [if_pos ‹RightO kd l ls bl = true›] | rw [if_neg (by simp [*])]
    all_goals simp [*]
   rw [e1]
   exact ⟨_, [], rfl, ⟨rfl, rfl⟩, hw1.no⟩
  have hp8 := of_decide_eq_false hb8
  refine Z2 9 ?_
  refine A8 [false] ?_
  show JQ _ _ _ _ []
  refine Z1 fun w1 hw1 => ?_
  have e1 : mayN pv ep kd l ls bl = 0 := by
   unfold mayN
   first | rw [if_pos ‹RightO kd l ls bl = true›] | rw [if_neg (by simp [*])]
   all_goals simp [*]
  rw [e1]
  exact ⟨_, [], rfl, ⟨rfl, rfl⟩, hw1.no⟩
 refine D4 5 4 29 false _ rfl rfl (by rw [show (RightB (0:UInt64) ep) = false from hb7] <;> rfl) rfl (AE _ (CC _ rfl (by rw [show (RightB (0:UInt64) ep) = false from hb7] <;> rfl) rfl) rfl ?_)
 refine Z2 3 ?_
 refine A7 _ rfl rfl ?_
 refine Z2 9 ?_
 refine A8 [false] ?_
 show JQ _ _ _ _ []
 refine Z1 fun w1 hw1 => ?_
 have e1 : mayN pv ep kd l ls bl = 1 := by
  unfold mayN
  first | rw [if_pos ‹RightO kd l ls bl = true›] | rw [if_neg (by simp [*])]
  all_goals simp [*]
 rw [e1]
 exact ⟨_, [], rfl, ⟨rfl, rfl⟩, hw1.no⟩
theorem put7_c (e : UInt64) (d t : List UInt8) (w : World) (hd : d.length = 32) (ht : t.length = 16) : Calls Tryd.prog 97 #[.agg ([U64 e] ++ cu8 d ++ cu8 t).toArray] w (Post w [] (fun v L => ∃ g sp cap, v = Slc g 0 56 cap ∧ L = [(Ez g (cu8 (putL e d t) ++ sp) 5)] ∧ sp.length = cap - 56 ∧ 56 ≤ cap ∧ cap ≤ maxLen)) := by
 have hmx : maxLen = 9223372036854775807 := rfl
 refine enter (P := Tryd.prog) (f := 97) (fn := Tryd.f97) w [] 25 [] [.agg ([U64 e] ++ cu8 d ++ cu8 t).toArray] Tryd.func97 rfl rfl ZM (A2 ZM ZM ZM) ?_
 show JC _ _ _ [_] _
 refine A4 (AO (AF (B2 (.agg ([U64 e] ++ cu8 d ++ cu8 t).toArray) ([U64 e] ++ cu8 d ++ cu8 t) rfl (by first | rfl | simp)) rfl ?_))
 rintro v1 L1 ⟨nb1, hnb1, rfl, rfl⟩
 show JL _ _ _ _ (_ :: _) [_]
 refine Z2 5 ?_
 refine AE (.agg #[.nilIface, SL none 0 0]) Ze rfl ?_
 refine AF (B2 (.agg #[.nilIface, SL none 0 0]) ([.nilIface, SL none 0 0]) rfl (by first | rfl | simp)) rfl ?_
 rintro v1 L1 ⟨nb2, hnb2, rfl, rfl⟩
 show JL _ _ _ _ (_ :: _) [_, _]
 refine Z2 4 ?_
 refine Z8 25 5 [(0, Ptr nb2 0), (1, Ptr nb1 0), (2, U64 e), (4, Ptr nb1 1), (5, Slc nb1 1 32 32), (7, Ptr nb1 33), (8, Slc nb1 33 16 16)] ?_
 refine Z7 ⟨[], [0, 1, 2, 4, 5, 7, 8], [], [0, 1, 2, 4, 5, 7, 8], [3]⟩ 3 (hq := ⟨BM rfl rfl rfl, AA rfl rfl ZE, AA rfl rfl ZE, AA rfl rfl ZE, AA rfl rfl (B4 32 5 1 0 32 1 32 CJ AW rfl rfl rfl ZO ZO ZO ZO ZO 32 ZO), AA rfl rfl ZE, AA rfl rfl (B4 16 5 1 0 16 33 16 AZ AW rfl rfl rfl ZO ZO ZO ZO ZO 16 ZO), trivial⟩) (AL rfl (BE 81 _ [false, true] [nb2] _ (AH _ Tryd.call81 rfl) rfl (fun w1 hw1 => numN_c nb2 8 .nilIface e 8 w1 (hw1.en 1 rfl) ZU (fun h => absurd h ZO) ZO))) ?_
 rintro v1 L1 ⟨_, ⟨rfl, nb3, sp1, cp1, rfl, hc1, hc2, hc3⟩, rfl⟩
 refine ⟨[], ?_⟩
 show DP _ _ _ _ _ _ _ _ [_, _, _]
 refine Z7 ⟨[3], [0, 1, 2, 4, 5, 7, 8], [0, 1, 2], [4, 5, 7, 8], [6]⟩ 6 (hq := ⟨AA rfl rfl ZE, AA rfl rfl (B4 32 5 1 0 32 1 32 CJ AW rfl rfl rfl ZO ZO ZO ZO ZO 32 ZO), AA rfl rfl ZE, AA rfl rfl (B4 16 5 1 0 16 33 16 AZ AW rfl rfl rfl ZO ZO ZO ZO ZO 16 ZO), trivial⟩) (AL rfl (BE 82 _ [false, true, true] [nb2, nb3] _ (AH _ Tryd.call82 rfl) rfl (fun w1 hw1 => rawO_c nb2 nb3 8 cp1 40 .nilIface (numK 8 e 8) sp1 (some ⟨nb1, 1, none⟩) 32 32 d w1 (hw1.en 1 rfl) (hw1.en 2 rfl) (hw1.ne (i := 1) (j := 2) rfl rfl ZD) (show (numK 8 e 8).length = 8 from (BI _ _ _)) hc1 hc2 hc3 ZO hd ZO (RdB.of hw1 (A0 0 rfl (AU (Seg.right 1 0 rfl rfl (AG _)))) (by intro _; simp only [List.mem_cons, List.not_mem_nil, or_false, not_or]; exact ⟨hw1.ne (i := 0) (j := 1) rfl rfl ZD, hw1.ne (i := 0) (j := 2) rfl rfl ZD⟩)) ZO))) ?_
 rintro v1 L1 ⟨_, ⟨rfl, nb4, sp2, cp2, rfl, hc4, hc5, hc6⟩, rfl⟩
 refine ⟨[], ?_⟩
 show DP _ _ _ _ _ _ _ _ [_, _, _]
 refine Z7 ⟨[3, 6], [0, 1, 2, 4, 5, 7, 8], [0, 1, 2, 4, 5], [7, 8], [9]⟩ 9 (hq := ⟨AA rfl rfl ZE, AA rfl rfl (B4 16 5 1 0 16 33 16 AZ AW rfl rfl rfl ZO ZO ZO ZO ZO 16 ZO), trivial⟩) (AL rfl (BE 82 _ [false, true, true] [nb2, nb4] _ (AH _ Tryd.call82 rfl) rfl (fun w1 hw1 => rawO_c nb2 nb4 40 cp2 56 .nilIface ((numK 8 e 8) ++ d) sp2 (some ⟨nb1, 33, none⟩) 16 16 t w1 (hw1.en 1 rfl) (hw1.en 2 rfl) (hw1.ne (i := 1) (j := 2) rfl rfl ZD) (show ((numK 8 e 8) ++ d).length = 40 from (by rw [List.length_append, (show (numK 8 e 8).length = 8 from (BI _ _ _)), hd] <;> omega)) hc4 hc5 hc6 ZO ht ZO (RdB.of hw1 (A0 0 rfl (Seg.right 33 0 (by simp [hd]) rfl (AG _))) (by intro _; simp only [List.mem_cons, List.not_mem_nil, or_false, not_or]; exact ⟨hw1.ne (i := 0) (j := 1) rfl rfl ZD, hw1.ne (i := 0) (j := 2) rfl rfl ZD⟩)) ZO))) ?_
 rintro v1 L1 ⟨_, ⟨rfl, nb5, sp3, cp3, rfl, hc7, hc8, hc9⟩, rfl⟩
 refine ⟨[], ?_⟩
 show DP _ _ _ _ _ _ _ _ [_, _, _]
 refine Z7 ⟨[3, 6, 9], [0, 1, 2, 4, 5, 7, 8], [0, 1, 2, 4, 5, 7, 8], [], [10]⟩ 10 (AL rfl (A5 83 _ _ (AH _ Tryd.call83 rfl) (fun w1 hw1 => doneO_c nb2 0 nb5 56 cp3 (((numK 8 e 8) ++ d) ++ t) w1 (RdA.of hw1 (A0 1 rfl (AG _)) ZM) rfl (show (((numK 8 e 8) ++ d) ++ t).length = 56 from (by rw [List.length_append, (show ((numK 8 e 8) ++ d).length = 40 from (by rw [List.length_append, (show (numK 8 e 8).length = 8 from (BI _ _ _)), hd] <;> omega)), ht] <;> omega)) ZO (RdB.of hw1 (A0 2 rfl (AU (AG _))) ZM)))) ?_
 rintro v1 L1 ⟨_, ⟨nb6, sp4, cp4, rfl, rfl, hc10, hc11, hc12⟩, rfl⟩
 refine ⟨[(11, .tuple #[Slc nb6 0 56 cp4, .nilIface]), (12, Slc nb6 0 56 cp4), (13, .nilIface), (14, Slc nb6 0 56 cp4), (15, .nilIface)], ?_⟩
 show DP _ _ _ _ _ _ _ _ [_, _, _, _]
 refine Z5 ⟨[3, 6, 9, 10], [0, 1, 2, 4, 5, 7, 8, 11, 12, 13, 14, 15], [0, 1, 2, 4, 5, 7, 8], [11, 12, 13, 14, 15], []⟩ ?_
 refine A9 (F' := [(4, Slc nb6 0 56 cp4), (5, .nilIface), (2, SL none 0 0)]) ZR ?_
 refine Z2 5 ?_
 refine AE (.bool false) (CG _ _ _ rfl rfl (fun _ => eqGuard_nn ..) fun _ => neq_if_nil_nil AV) rfl ?_
 refine A1 (AK (AY _ rfl rfl ?_))
 refine Z2 9 ?_
 refine A8 [false, false, false, true] ?_
 show JQ _ _ _ _ [_]
 refine Z1 fun w1 hw1 => ?_
 have hq : ((numK 8 e 8) ++ d) ++ t = putL e d t := by rw [putL]
 rw [hq] at hw1
 exact ⟨_, _, rfl, ⟨nb6, sp4, cp4, rfl, rfl, hc10, hc11, hc12⟩, hw1.sub ZM ZM⟩
theorem text3_c (pv ep : UInt64) (k : Nat) (ai : Option Addr) (ni ci : Nat) (l : List UInt64) (sa : Option Addr) (ns sc : Nat) (ls : List SealR) (bl : UInt64) (tg : List UInt8)  (w : World) (hl : l.length = ni) (hnm : ni ≤ 2000000) (hnc : ni ≤ ci) (hcm : ci ≤ maxLen) (hv : RdV w ai (cu64 l)) (hls : ls.length = ns) (hnn : ns ≤ 2000000) (hnd : ns ≤ sc) (hcn : sc ≤ maxLen) (hs : RdV w sa (ls.flatMap sealC)) (htg : tg.length = 16) (hmay : mayN pv ep (k:Int) l ls bl = 0) (hk : k = 3)  : Calls Tryd.prog 114 #[.agg (V2 pv ep k ai ni ci sa ns sc bl tg).toArray] w (Post w [] (fun v L => ∃ g sp cap, v = .tuple #[Slc g 0 25 cap, .nilIface] ∧ L = [(Ez g (cu8 (tktT pv ep k l ls bl) ++ sp) 5)] ∧ sp.length = cap - 25 ∧ 25 ≤ cap ∧ cap ≤ maxLen)) := by
 have hmx : maxLen = 9223372036854775807 := rfl
 refine enter (P := Tryd.prog) (f := 114) (fn := Tryd.f114) w [] 75 [] [.agg (V2 pv ep k ai ni ci sa ns sc bl tg).toArray] Tryd.func114 rfl rfl ZM (A2 ZM ZM ZM) ?_
 show JC _ _ _ [_] _
 refine A4 (AO (AF (B2 (.agg (V2 pv ep k ai ni ci sa ns sc bl tg).toArray) (V2 pv ep k ai ni ci sa ns sc bl tg) rfl (by first | rfl | simp)) rfl ?_))
 rintro v1 L1 ⟨nb1, hnb1, rfl, rfl⟩
 show JL _ _ _ _ (_ :: _) [_]
 refine Z2 8 ?_
 refine AC (AJ 128 _ (errV 50 (mayN pv ep ((k:Int)) l ls bl)) (AH _ Tryd.call128 rfl) (fun w1 hw1 => may13_c pv ep ((k:Int)) ai ni ci l sa ns sc ls bl tg w1 hl ZO ZO ZO (CF hw1 rfl hv) hls ZO ZO ZO (CF hw1 rfl hs) htg)) rfl ?_
 show JL _ _ _ _ (_ :: _) [_]
 refine Z2 6 ?_
 refine AE (.bool (!(decide (mayN pv ep ((k:Int)) l ls bl = 0)))) (CG _ _ _ rfl rfl (fun _ => BL ..) fun _ => CW AV _ _) rfl ?_
 refine A1 (AK (AY _ rfl (by rw [show (decide (mayN pv ep ((k:Int)) l ls bl = 0)) = true from (decide_eq_true hmay)] <;> rfl) ?_))
 refine Z2 5 ?_
 refine AE _ (AR rfl (BV DQ CX rfl (A0 0 rfl (CB (p := [U64 pv, U64 ep]) (q := cu8 tg) (vs := [I64 k, SL ai ni ci, SL sa ns sc, U64 bl]) (by first | rfl | (simp only [List.append_assoc, List.nil_append, List.append_nil, List.cons_append]; done)) rfl)))) rfl ?_
 refine AF (AS _ ([I64 0, SL none 0 0, SL none 0 0, U64 0]) Tryd.zeroValue26 ZR) rfl ?_
 rintro v1 L1 ⟨nb2, hnb2, rfl, rfl⟩
 show JL _ _ _ _ (_ :: _) [_, _]
 refine Z2 5 ?_
 refine AE (.agg #[.nilIface, SL none 0 0]) Ze rfl ?_
 refine AF (B2 (.agg #[.nilIface, SL none 0 0]) ([.nilIface, SL none 0 0]) rfl (by first | rfl | simp)) rfl ?_
 rintro v1 L1 ⟨nb3, hnb3, rfl, rfl⟩
 show JL _ _ _ _ (_ :: _) [_, _, _]
 refine Z2 4 ?_
 refine Z8 75 4 [(0, Ptr nb3 0), (1, Ptr nb1 0), (2, U64 pv), (4, Ptr nb1 1), (5, U64 ep), (7, Ptr nb2 0), (8, I64 k), (9, U64 (UInt64.ofNat k))] ?_
 refine Z7 ⟨[], [0, 1, 2, 4, 5, 7, 8, 9], [], [0, 1, 2, 4, 5, 7, 8, 9], [3]⟩ 3 (hq := ⟨BM rfl rfl rfl, AA rfl rfl ZE, AA rfl rfl ZE, AA rfl rfl ZE, AA rfl rfl ZE, AA rfl rfl ZE, AA rfl rfl ZE, AA rfl rfl (EW _ _ rfl fun _ => EO (by rw [DM]; rfl) BQ k _ ZO), trivial⟩) (AL rfl (BE 81 _ [false, false, true] [nb3] _ (AH _ Tryd.call81 rfl) rfl (fun w1 hw1 => numN_c nb3 8 .nilIface pv 8 w1 (hw1.en 2 rfl) ZU (fun h => absurd h ZO) ZO))) ?_
 rintro v1 L1 ⟨_, ⟨rfl, nb4, sp1, cp1, rfl, hc1, hc2, hc3⟩, rfl⟩
 refine ⟨[], ?_⟩
 show DP _ _ _ _ _ _ _ _ [_, _, _, _]
 refine Z7 ⟨[3], [0, 1, 2, 4, 5, 7, 8, 9], [0, 1, 2], [4, 5, 7, 8, 9], [6]⟩ 6 (hq := ⟨AA rfl rfl ZE, AA rfl rfl ZE, AA rfl rfl ZE, AA rfl rfl ZE, AA rfl rfl (EW _ _ rfl fun _ => EO (by rw [DM]; rfl) BQ k _ ZO), trivial⟩) (AL rfl (BE 81 _ [false, false, true, true] [nb3, nb4] _ (AH _ Tryd.call81 rfl) rfl (fun w1 hw1 => numO_c nb3 nb4 8 cp1 16 .nilIface (numK 8 pv 8) sp1 ep 8 w1 (hw1.en 2 rfl) (hw1.en 3 rfl) (hw1.ne (i := 2) (j := 3) rfl rfl ZD) (show (numK 8 pv 8).length = 8 from (BI _ _ _)) hc1 hc2 hc3 ZO ZU (fun h => absurd h ZO) ZO))) ?_
 rintro v1 L1 ⟨_, ⟨rfl, nb5, sp2, cp2, rfl, hc4, hc5, hc6⟩, rfl⟩
 refine ⟨[], ?_⟩
 show DP _ _ _ _ _ _ _ _ [_, _, _, _]
 refine Z7 ⟨[3, 6], [0, 1, 2, 4, 5, 7, 8, 9], [0, 1, 2, 4, 5], [7, 8, 9], [10]⟩ 10 (hq := ⟨AA rfl rfl ZE, AA rfl rfl ZE, AA rfl rfl (EW _ _ rfl fun _ => EO (by rw [DM]; rfl) BQ k _ ZO), trivial⟩) (AL rfl (BE 81 _ [false, false, true, true] [nb3, nb5] _ (AH _ Tryd.call81 rfl) rfl (fun w1 hw1 => numO_c nb3 nb5 16 cp2 17 .nilIface ((numK 8 pv 8) ++ numK 8 ep 8) sp2 (UInt64.ofNat k) 1 w1 (hw1.en 2 rfl) (hw1.en 3 rfl) (hw1.ne (i := 2) (j := 3) rfl rfl ZD) (show ((numK 8 pv 8) ++ numK 8 ep 8).length = 16 from (by rw [List.length_append, (show (numK 8 pv 8).length = 8 from (BI _ _ _)), BI] <;> omega)) hc4 hc5 hc6 ZO ZU (fun _ => shr8n ZO) ZO))) ?_
 rintro v1 L1 ⟨_, ⟨rfl, nb6, sp3, cp3, rfl, hc7, hc8, hc9⟩, rfl⟩
 refine ⟨[], ?_⟩
 show DP _ _ _ _ _ _ _ _ [_, _, _, _]
 refine Z5 ⟨[3, 6, 10], [0, 1, 2, 4, 5, 7, 8, 9], [0, 1, 2, 4, 5, 7, 8, 9], [], []⟩ ?_
 refine A9 (F' := [(2, SL none 0 0), (3, .nilIface), (5, Ptr nb2 0), (6, Ptr nb3 0)]) ZR ?_
 refine Z2 9 ?_
 refine A7 _ rfl (decide_eq_true ZO) ?_
 refine Z2 5 ?_
 refine AF (BE 81 _ [false, false, true, true] [nb3, nb6] _ (AH _ Tryd.call81 rfl) rfl (fun w1 hw1 => numO_c nb3 nb6 17 cp3 25 .nilIface (((numK 8 pv 8) ++ numK 8 ep 8) ++ numK 1 (UInt64.ofNat k) 1) sp3 bl 8 w1 (hw1.en 2 rfl) (hw1.en 3 rfl) (hw1.ne (i := 2) (j := 3) rfl rfl ZD) (show (((numK 8 pv 8) ++ numK 8 ep 8) ++ numK 1 (UInt64.ofNat k) 1).length = 17 from (by rw [List.length_append, (show ((numK 8 pv 8) ++ numK 8 ep 8).length = 16 from (by rw [List.length_append, (show (numK 8 pv 8).length = 8 from (BI _ _ _)), BI] <;> omega)), BI] <;> omega)) hc7 hc8 hc9 ZO ZU (fun h => absurd h ZO) ZO)) rfl ?_
 rintro v1 L1 ⟨_, ⟨rfl, nb7, sp4, cp4, rfl, hc10, hc11, hc12⟩, rfl⟩
 show JL _ _ _ _ (_ :: _) [_, _, _, _]
 refine AF (A5 83 _ _ (AH _ Tryd.call83 rfl) (fun w1 hw1 => doneO_c nb3 0 nb7 25 cp4 ((((numK 8 pv 8) ++ numK 8 ep 8) ++ numK 1 (UInt64.ofNat k) 1) ++ numK 8 bl 8) w1 (RdA.of hw1 (A0 2 rfl (AG _)) ZM) rfl (show ((((numK 8 pv 8) ++ numK 8 ep 8) ++ numK 1 (UInt64.ofNat k) 1) ++ numK 8 bl 8).length = 25 from (by rw [List.length_append, (show (((numK 8 pv 8) ++ numK 8 ep 8) ++ numK 1 (UInt64.ofNat k) 1).length = 17 from (by rw [List.length_append, (show ((numK 8 pv 8) ++ numK 8 ep 8).length = 16 from (by rw [List.length_append, (show (numK 8 pv 8).length = 8 from (BI _ _ _)), BI] <;> omega)), BI] <;> omega)), BI] <;> omega)) ZO (RdB.of hw1 (A0 3 rfl (AU (AG _))) ZM))) rfl ?_
 rintro v1 L1 ⟨_, ⟨nb8, sp5, cp5, rfl, rfl, hc13, hc14, hc15⟩, rfl⟩
 show JL _ _ _ _ (_ :: _) [_, _, _, _, _]
 refine Z2 8 ?_
 refine A8 [false, false, false, false, true] ?_
 show JQ _ _ _ _ [_]
 refine Z1 fun w1 hw1 => ?_
 have hq : (((numK 8 pv 8) ++ numK 8 ep 8) ++ numK 1 (UInt64.ofNat k) 1) ++ numK 8 bl 8 = tktT pv ep k l ls bl := by
  unfold tktT
  rw [if_pos hk]
 rw [hq] at hw1
 exact ⟨_, _, rfl, ⟨nb8, sp5, cp5, rfl, rfl, hc13, hc14, hc15⟩, hw1.sub ZM ZM⟩
theorem text12_c (pv ep : UInt64) (k : Nat) (ai : Option Addr) (ni ci : Nat) (l : List UInt64) (sa : Option Addr) (ns sc : Nat) (ls : List SealR) (bl : UInt64) (tg : List UInt8) (tot : Nat)  (w : World) (hl : l.length = ni) (hnm : ni ≤ 2000000) (hnc : ni ≤ ci) (hcm : ci ≤ maxLen) (hv : RdV w ai (cu64 l)) (hls : ls.length = ns) (hnn : ns ≤ 2000000) (hnd : ns ≤ sc) (hcn : sc ≤ maxLen) (hs : RdV w sa (ls.flatMap sealC)) (htg : tg.length = 16) (hmay : mayN pv ep (k:Int) l ls bl = 0) (hk : k = 1 ∨ k = 2) (hsm : ns ≤ 300) (htot : 18 + 4*ni + 56*ns = tot)  : Calls Tryd.prog 114 #[.agg (V2 pv ep k ai ni ci sa ns sc bl tg).toArray] w (Post w [] (fun v L => ∃ g sp cap, v = .tuple #[Slc g 0 tot cap, .nilIface] ∧ L = [(Ez g (cu8 (tktT pv ep k l ls bl) ++ sp) 5)] ∧ sp.length = cap - tot ∧ tot ≤ cap ∧ cap ≤ maxLen)) := by
 have hmx : maxLen = 9223372036854775807 := rfl
 have hRO := mayN_right hmay
 have hRI := RightO_idx hRO ZO
 have hRp := RightI_pos hRI
 rw [hl] at hRp
 refine enter (P := Tryd.prog) (f := 114) (fn := Tryd.f114) w [] 75 [] [.agg (V2 pv ep k ai ni ci sa ns sc bl tg).toArray] Tryd.func114 rfl rfl ZM (A2 ZM ZM ZM) ?_
 show JC _ _ _ [_] _
 refine A4 (AO (AF (B2 (.agg (V2 pv ep k ai ni ci sa ns sc bl tg).toArray) (V2 pv ep k ai ni ci sa ns sc bl tg) rfl (by first | rfl | simp)) rfl ?_))
 rintro v1 L1 ⟨nb1, hnb1, rfl, rfl⟩
 show JL _ _ _ _ (_ :: _) [_]
 refine Z2 8 ?_
 refine AC (AJ 128 _ (errV 50 (mayN pv ep ((k:Int)) l ls bl)) (AH _ Tryd.call128 rfl) (fun w1 hw1 => may13_c pv ep ((k:Int)) ai ni ci l sa ns sc ls bl tg w1 hl ZO ZO ZO (CF hw1 rfl hv) hls ZO ZO ZO (CF hw1 rfl hs) htg)) rfl ?_
 show JL _ _ _ _ (_ :: _) [_]
 refine Z2 6 ?_
 refine AE (.bool (!(decide (mayN pv ep ((k:Int)) l ls bl = 0)))) (CG _ _ _ rfl rfl (fun _ => BL ..) fun _ => CW AV _ _) rfl ?_
 refine A1 (AK (AY _ rfl (by rw [show (decide (mayN pv ep ((k:Int)) l ls bl = 0)) = true from (decide_eq_true hmay)] <;> rfl) ?_))
 refine Z2 5 ?_
 refine AE _ (AR rfl (BV DQ CX rfl (A0 0 rfl (CB (p := [U64 pv, U64 ep]) (q := cu8 tg) (vs := [I64 k, SL ai ni ci, SL sa ns sc, U64 bl]) (by first | rfl | (simp only [List.append_assoc, List.nil_append, List.append_nil, List.cons_append]; done)) rfl)))) rfl ?_
 refine AF (AS _ ([I64 0, SL none 0 0, SL none 0 0, U64 0]) Tryd.zeroValue26 ZR) rfl ?_
 rintro v1 L1 ⟨nb2, hnb2, rfl, rfl⟩
 show JL _ _ _ _ (_ :: _) [_, _]
 refine Z2 5 ?_
 refine AE (.agg #[.nilIface, SL none 0 0]) Ze rfl ?_
 refine AF (B2 (.agg #[.nilIface, SL none 0 0]) ([.nilIface, SL none 0 0]) rfl (by first | rfl | simp)) rfl ?_
 rintro v1 L1 ⟨nb3, hnb3, rfl, rfl⟩
 show JL _ _ _ _ (_ :: _) [_, _, _]
 refine Z2 4 ?_
 refine Z8 75 4 [(0, Ptr nb3 0), (1, Ptr nb1 0), (2, U64 pv), (4, Ptr nb1 1), (5, U64 ep), (7, Ptr nb2 0), (8, I64 k), (9, U64 (UInt64.ofNat k))] ?_
 refine Z7 ⟨[], [0, 1, 2, 4, 5, 7, 8, 9], [], [0, 1, 2, 4, 5, 7, 8, 9], [3]⟩ 3 (hq := ⟨BM rfl rfl rfl, AA rfl rfl ZE, AA rfl rfl ZE, AA rfl rfl ZE, AA rfl rfl ZE, AA rfl rfl ZE, AA rfl rfl ZE, AA rfl rfl (EW _ _ rfl fun _ => EO (by rw [DM]; rfl) BQ k _ ZO), trivial⟩) (AL rfl (BE 81 _ [false, false, true] [nb3] _ (AH _ Tryd.call81 rfl) rfl (fun w1 hw1 => numN_c nb3 8 .nilIface pv 8 w1 (hw1.en 2 rfl) ZU (fun h => absurd h ZO) ZO))) ?_
 rintro v1 L1 ⟨_, ⟨rfl, nb4, sp1, cp1, rfl, hc1, hc2, hc3⟩, rfl⟩
 refine ⟨[], ?_⟩
 show DP _ _ _ _ _ _ _ _ [_, _, _, _]
 refine Z7 ⟨[3], [0, 1, 2, 4, 5, 7, 8, 9], [0, 1, 2], [4, 5, 7, 8, 9], [6]⟩ 6 (hq := ⟨AA rfl rfl ZE, AA rfl rfl ZE, AA rfl rfl ZE, AA rfl rfl ZE, AA rfl rfl (EW _ _ rfl fun _ => EO (by rw [DM]; rfl) BQ k _ ZO), trivial⟩) (AL rfl (BE 81 _ [false, false, true, true] [nb3, nb4] _ (AH _ Tryd.call81 rfl) rfl (fun w1 hw1 => numO_c nb3 nb4 8 cp1 16 .nilIface (numK 8 pv 8) sp1 ep 8 w1 (hw1.en 2 rfl) (hw1.en 3 rfl) (hw1.ne (i := 2) (j := 3) rfl rfl ZD) (show (numK 8 pv 8).length = 8 from (BI _ _ _)) hc1 hc2 hc3 ZO ZU (fun h => absurd h ZO) ZO))) ?_
 rintro v1 L1 ⟨_, ⟨rfl, nb5, sp2, cp2, rfl, hc4, hc5, hc6⟩, rfl⟩
 refine ⟨[], ?_⟩
 show DP _ _ _ _ _ _ _ _ [_, _, _, _]
 refine Z7 ⟨[3, 6], [0, 1, 2, 4, 5, 7, 8, 9], [0, 1, 2, 4, 5], [7, 8, 9], [10]⟩ 10 (hq := ⟨AA rfl rfl ZE, AA rfl rfl ZE, AA rfl rfl (EW _ _ rfl fun _ => EO (by rw [DM]; rfl) BQ k _ ZO), trivial⟩) (AL rfl (BE 81 _ [false, false, true, true] [nb3, nb5] _ (AH _ Tryd.call81 rfl) rfl (fun w1 hw1 => numO_c nb3 nb5 16 cp2 17 .nilIface ((numK 8 pv 8) ++ numK 8 ep 8) sp2 (UInt64.ofNat k) 1 w1 (hw1.en 2 rfl) (hw1.en 3 rfl) (hw1.ne (i := 2) (j := 3) rfl rfl ZD) (show ((numK 8 pv 8) ++ numK 8 ep 8).length = 16 from (by rw [List.length_append, (show (numK 8 pv 8).length = 8 from (BI _ _ _)), BI] <;> omega)) hc4 hc5 hc6 ZO ZU (fun _ => shr8n ZO) ZO))) ?_
 rintro v1 L1 ⟨_, ⟨rfl, nb6, sp3, cp3, rfl, hc7, hc8, hc9⟩, rfl⟩
 refine ⟨[], ?_⟩
 show DP _ _ _ _ _ _ _ _ [_, _, _, _]
 refine Z5 ⟨[3, 6, 10], [0, 1, 2, 4, 5, 7, 8, 9], [0, 1, 2, 4, 5, 7, 8, 9], [], []⟩ ?_
 refine A9 (F' := [(2, SL none 0 0), (3, .nilIface), (5, Ptr nb2 0), (6, Ptr nb3 0)]) ZR ?_
 refine Z2 9 ?_
 refine AY _ rfl (decide_eq_false ZO) ?_
 refine Z2 8 ?_
 refine AE (I64 ((ni:Int) - 1)) (AT rfl rfl fun _ => EU _ _ ((ni:Int) - 1) ZO ZO) rfl ?_
 refine AE (U64 (UInt64.ofNat (ni - 1))) (EW _ _ rfl fun _ => EO (by rw [DM]; rfl) BQ (ni - 1) _ ZO) rfl ?_
 refine AF (BE 81 _ [false, false, true, true] [nb3, nb6] _ (AH _ Tryd.call81 rfl) rfl (fun w1 hw1 => numO_c nb3 nb6 17 cp3 18 .nilIface (((numK 8 pv 8) ++ numK 8 ep 8) ++ numK 1 (UInt64.ofNat k) 1) sp3 (UInt64.ofNat (ni - 1)) 1 w1 (hw1.en 2 rfl) (hw1.en 3 rfl) (hw1.ne (i := 2) (j := 3) rfl rfl ZD) (show (((numK 8 pv 8) ++ numK 8 ep 8) ++ numK 1 (UInt64.ofNat k) 1).length = 17 from (by rw [List.length_append, (show ((numK 8 pv 8) ++ numK 8 ep 8).length = 16 from (by rw [List.length_append, (show (numK 8 pv 8).length = 8 from (BI _ _ _)), BI] <;> omega)), BI] <;> omega)) hc7 hc8 hc9 ZO ZU (fun _ => shr8n ZO) ZO)) rfl ?_
 rintro v1 L1 ⟨_, ⟨rfl, nb7, sp4, cp4, rfl, hc10, hc11, hc12⟩, rfl⟩
 show JL _ _ _ _ (_ :: _) [_, _, _, _]
 refine Z2 12 ?_
 skip
 refine JC_mask [false, true, true, true] ?_
 show JC _ _ _ _ [_, _, _]
 refine C3 (ι := Nat × List UInt8 × Nat × List Value × Nat) (fun ⟨i, oqi, gqi, spqi, cpqi⟩ => [(2, SL none 0 0), (3, .nilIface), (5, Ptr nb2 0), (6, Ptr nb3 0), (49, SL ai ni ci), (50, I64 ni), (51, I64 i)]) (fun ⟨i, oqi, gqi, spqi, cpqi⟩ => [(Ez nb2 [I64 k, SL ai ni ci, SL sa ns sc, U64 bl] 26), (Ez nb3 [.nilIface, Slc gqi 0 (4*i + 18) cpqi] 149), (Ez gqi (cu8 oqi ++ spqi) 5)]) (fun ⟨i, oqi, gqi, spqi, cpqi⟩ => i ≤ ni ∧ oqi = (((numK 8 pv 8 ++ numK 8 ep 8) ++ numK 1 (UInt64.ofNat k) 1) ++ numK 1 (UInt64.ofNat (ni - 1)) 1) ++ idxT l i ∧ oqi.length = (4*i + 18) ∧ spqi.length = cpqi - ((4*i + 18)) ∧ (4*i + 18) ≤ cpqi ∧ cpqi ≤ maxLen) (fun ⟨i, oqi, gqi, spqi, cpqi⟩ => ni - i) (0, (((numK 8 pv 8) ++ numK 8 ep 8) ++ numK 1 (UInt64.ofNat k) 1) ++ numK 1 (UInt64.ofNat (ni - 1)) 1, nb7, sp4, cp4) ⟨ZO, by rw [idxT_zero, List.append_nil], (by have h := (show ((((numK 8 pv 8) ++ numK 8 ep 8) ++ numK 1 (UInt64.ofNat k) 1) ++ numK 1 (UInt64.ofNat (ni - 1)) 1).length = 18 from (by rw [List.length_append, (show (((numK 8 pv 8) ++ numK 8 ep 8) ++ numK 1 (UInt64.ofNat k) 1).length = 17 from (by rw [List.length_append, (show ((numK 8 pv 8) ++ numK 8 ep 8).length = 16 from (by rw [List.length_append, (show (numK 8 pv 8).length = 8 from (BI _ _ _)), BI] <;> omega)), BI] <;> omega)), BI] <;> omega)); omega), (by have h := hc10; omega), ZO, ZO⟩ (Sub.all rfl) (by first | rfl | (simp; done)) ?_
 rintro ⟨i, oqi, gqi, spqi, cpqi⟩ ⟨hi1, hi2, hi3, hi4, hi5, hi6⟩
 show JC _ _ _ [_, _, _, _, _, _, _] [_, _, _]
 refine Z2 6 ?_
 refine AX _ rfl (fun hb1 => ?_) (fun hb1 => ?_)
 ·
  have hp1 := of_decide_eq_true hb1
  refine Z2 6 ?_
  obtain ⟨bz1, oz1, hz1, hm1⟩ := RdV.pos hv (by rw [EA, hl]; omega)
  refine AE (Ptr bz1 (i + oz1)) (BK 22 1 (i + oz1) BB BJ rfl hz1 rfl ZO ZO ZO) rfl (AE _ (AR rfl (B1 BD (BP (hm1.mem ZM) (Seg.get (FE (i := i) (by rw [hl]; omega))) (by first | omega | (simp; done) | (simp; omega))))) rfl ?_)
  refine Z2 6 ?_
  refine AF (BE 81 _ [false, true, true] [nb3, gqi] _ (AH _ Tryd.call81 rfl) rfl (fun w1 hw1 => numO_c nb3 gqi (4*i + 18) cpqi (4*i + 22) .nilIface oqi spqi (g64 l i) 4 w1 (hw1.en 1 rfl) (hw1.en 2 rfl) (hw1.ne (i := 1) (j := 2) rfl rfl ZD) hi3 hi4 hi5 hi6 ZO ZU (fun _ => idx_fit hRI ZO) ZO)) rfl ?_
  rintro v1 L1 ⟨_, ⟨rfl, nb8, sp5, cp5, rfl, hc13, hc14, hc15⟩, rfl⟩
  show JL _ _ _ _ (_ :: _) [_, _, _]
  refine Z2 4 ?_
  refine AE (I64 ((i:Int) + 1)) (AT rfl rfl fun _ => BR _ _ ((i:Int) + 1) ZO ZO) rfl ?_
  refine Z2 1 ?_
  refine A1 (B5 (C1 (i + 1, oqi ++ numK 4 (g64 l i) 4, nb8, sp5, cp5) ⟨ZO, by rw [hi2, idxT_succ, List.append_assoc], (by have h := (show (oqi ++ numK 4 (g64 l i) 4).length = (4*i + 22) from (by rw [List.length_append, hi3, BI] <;> omega)); omega), (by have h := hc13; omega), ZO, ZO⟩ (by first | (simp; omega) | simp | (dsimp only; omega) | omega) (Sub.all rfl) (by first | rfl | rw [show (4*i + 22) = (4*(i + 1) + 18) by omega])))
 have hp1 := of_decide_eq_false hb1
 refine Z2 15 ?_
 have ei : ni = i := by omega
 subst ei
 show JC _ _ _ _ [_, _, _]
 refine JC_mask [false, true, true] ?_
 show JC _ _ _ _ [_, _]
 refine C3 (ι := Nat × List UInt8 × Nat × List Value × Nat) (fun ⟨j, oqj, gqj, spqj, cpqj⟩ => [(2, SL none 0 0), (3, .nilIface), (6, Ptr nb3 0), (60, SL sa ns sc), (61, I64 ns), (62, I64 j)]) (fun ⟨j, oqj, gqj, spqj, cpqj⟩ => [(Ez nb3 [.nilIface, Slc gqj 0 (56*j + 4*ni + 18) cpqj] 149), (Ez gqj (cu8 oqj ++ spqj) 5)]) (fun ⟨j, oqj, gqj, spqj, cpqj⟩ => j ≤ ns ∧ oqj = ((((numK 8 pv 8 ++ numK 8 ep 8) ++ numK 1 (UInt64.ofNat k) 1) ++ numK 1 (UInt64.ofNat (ni - 1)) 1) ++ idxT l ni) ++ selT (ls.take j) ∧ oqj.length = (56*j + 4*ni + 18) ∧ spqj.length = cpqj - ((56*j + 4*ni + 18)) ∧ (56*j + 4*ni + 18) ≤ cpqj ∧ cpqj ≤ maxLen) (fun ⟨j, oqj, gqj, spqj, cpqj⟩ => ns - j) (0, oqi, gqi, spqi, cpqi) ⟨ZO, by rw [hi2]; simp [selT_nil], (by have h := hi3; omega), (by have h := hi4; omega), ZO, ZO⟩ (Sub.all rfl) (by first | rfl | (simp; done)) ?_
 rintro ⟨j, oqj, gqj, spqj, cpqj⟩ ⟨hj1, hj2, hj3, hj4, hj5, hj6⟩
 show JC _ _ _ [_, _, _, _, _, _] [_, _]
 refine Z2 6 ?_
 refine AX _ rfl (fun hb2 => ?_) (fun hb2 => ?_)
 ·
  have hp2 := of_decide_eq_true hb2
  refine Z2 6 ?_
  obtain ⟨x1, hx1⟩ : ∃ x, ls[j]? = some x := ⟨_, List.getElem?_eq_getElem (by rw [hls]; omega)⟩
  obtain ⟨bz2, oz2, hz2, hm2⟩ := EJ D8 ZD hs hx1
  refine AE (Ptr bz2 (49*j + oz2)) (BK 161 49 (49*j + oz2) DA BC rfl hz2 rfl ZO ZO ZO) rfl ?_
  refine AE (.agg ([U64 x1.e] ++ cu8 x1.d ++ cu8 x1.t).toArray) (AR rfl (BV CT BC (by simp [x1.hd, x1.ht]) (BP (hm2.mem ZM) (AG _) (by first | omega | (simp; done) | (simp; omega))))) rfl ?_
  refine AF (AS _ ([U64 0] ++ cu8 (zr8 32) ++ cu8 (zr8 16)) Tryd.zeroValue161 ZR) rfl ?_
  rintro v1 L1 ⟨nb9, hnb9, rfl, rfl⟩
  show JL _ _ _ _ (_ :: _) [_, _, _]
  refine AC (AB 2 nb9 49 _ 161 ([U64 x1.e] ++ cu8 x1.d ++ cu8 x1.t) rfl rfl rfl BC (by simp [x1.hd, x1.ht]) (AQ (AQ ZC A6) A6) ZS (AI (by simp [(AN 32), (AN 16), x1.hd, x1.ht]))) rfl ?_
  show JL _ _ _ _ _ [_, _, _]
  refine Z2 4 ?_
  refine AE _ (AR rfl (BV CT BC (by simp [x1.hd, x1.ht]) (A0 2 rfl (AG _)))) rfl ?_
  refine AF (A5 97 _ _ (AH _ Tryd.call97 rfl) (fun w1 hw1 => put7_c x1.e x1.d x1.t w1 x1.hd x1.ht)) rfl ?_
  rintro v1 L1 ⟨_, ⟨nb10, sp6, cp6, rfl, rfl, hc16, hc17, hc18⟩, rfl⟩
  show JL _ _ _ _ (_ :: _) [_, _, _, _]
  refine AF (BE 82 _ [true, true, false, false] [nb3, gqj] _ (AH _ Tryd.call82 rfl) rfl (fun w1 hw1 => rawO_c nb3 gqj (56*j + 4*ni + 18) cpqj (56*j + 4*ni + 74) .nilIface oqj spqj (some ⟨nb10, 0, none⟩) 56 cp6 (putL x1.e x1.d x1.t) w1 (hw1.en 0 rfl) (hw1.en 1 rfl) (hw1.ne (i := 0) (j := 1) rfl rfl ZD) hj3 hj4 hj5 hj6 ZO (show (putL x1.e x1.d x1.t).length = 56 from (putL_len x1.hd x1.ht)) ZO (RdB.of hw1 (A0 3 rfl (AU (AG _))) (by intro _; simp only [List.mem_cons, List.not_mem_nil, or_false, not_or]; exact ⟨hw1.ne (i := 3) (j := 0) rfl rfl ZD, hw1.ne (i := 3) (j := 1) rfl rfl ZD⟩)) ZO)) rfl ?_
  rintro v1 L1 ⟨_, ⟨rfl, nb11, sp7, cp7, rfl, hc19, hc20, hc21⟩, rfl⟩
  show JL _ _ _ _ (_ :: _) [_, _, _, _]
  refine Z2 4 ?_
  refine AE (I64 ((j:Int) + 1)) (AT rfl rfl fun _ => BR _ _ ((j:Int) + 1) ZO ZO) rfl ?_
  refine Z2 2 ?_
  refine B5 (D7 [false, false, true, true] ?_)
  show K _ _ [_, _] _
  refine C1 (j + 1, oqj ++ (putL x1.e x1.d x1.t), nb11, sp7, cp7) ⟨ZO, by rw [hj2, ← EZ hx1, selT_app, List.append_assoc], (by have h := (show (oqj ++ (putL x1.e x1.d x1.t)).length = (56*j + 4*ni + 74) from (by rw [List.length_append, hj3, (show (putL x1.e x1.d x1.t).length = 56 from (putL_len x1.hd x1.ht))] <;> omega)); omega), (by have h := hc19; omega), ZO, ZO⟩ (by first | (simp; omega) | simp | (dsimp only; omega) | omega) (Sub.all rfl) (by first | rfl | rw [show (56*j + 4*ni + 74) = (56*(j + 1) + 4*ni + 18) by omega])
 have hp2 := of_decide_eq_false hb2
 refine Z2 8 ?_
 refine AF (A5 83 _ _ (AH _ Tryd.call83 rfl) (fun w1 hw1 => doneO_c nb3 0 gqj (56*j + 4*ni + 18) cpqj oqj w1 (RdA.of hw1 (A0 0 rfl (AG _)) ZM) rfl hj3 ZO (RdB.of hw1 (A0 1 rfl (AU (AG _))) ZM))) rfl ?_
 rintro v1 L1 ⟨_, ⟨nb12, sp8, cp8, rfl, rfl, hc22, hc23, hc24⟩, rfl⟩
 show JL _ _ _ _ (_ :: _) [_, _, _]
 refine Z2 7 ?_
 refine A8 [false, false, true] ?_
 show JQ _ _ _ _ [_]
 refine Z1 fun w1 hw1 => ?_
 obtain rfl : j = ns := by omega
 have hq : oqj = tktT pv ep k l ls bl := by
  unfold tktT
  rw [if_neg ZO, hl, hj2, List.take_of_length_le ZO]
 rw [hq] at hw1
 obtain rfl : tot = (56*j + 4*ni + 18) := by omega
 exact ⟨_, _, rfl, ⟨nb12, sp8, cp8, rfl, rfl, hc22, hc23, hc24⟩, hw1.sub ZM ZM⟩
attribute [local irreducible] tktT mayN idxT selT
theorem text_w (pv ep : UInt64) (k : Nat) (ai : Option Addr) (ni ci : Nat) (l : List UInt64) (sa : Option Addr) (ns sc : Nat) (ls : List SealR) (bl : UInt64) (tg : List UInt8) (tot : Nat) (w : World) (hl : l.length = ni) (hnm : ni ≤ 2000000) (hnc : ni ≤ ci) (hcm : ci ≤ maxLen) (hv : RdV w ai (cu64 l)) (hls : ls.length = ns) (hnn : ns ≤ 2000000) (hnd : ns ≤ sc) (hcn : sc ≤ maxLen) (hs : RdV w sa (ls.flatMap sealC)) (htg : tg.length = 16) (hmay : mayN pv ep (k:Int) l ls bl = 0) (hk : k = 1 ∨ k = 2 ∨ k = 3) (hsm : ns ≤ 300) (htot : tktN k ni ns = tot) : Calls Tryd.prog 114 #[.agg (V2 pv ep k ai ni ci sa ns sc bl tg).toArray] w (Post w [] (fun v L => ∃ g sp cap, v = .tuple #[Slc g 0 tot cap, .nilIface] ∧ L = [(Ez g (cu8 (tktT pv ep k l ls bl) ++ sp) 5)] ∧ sp.length = cap - tot ∧ tot ≤ cap ∧ cap ≤ maxLen)) := by
 by_cases h3 : k = 3
 ·
  have e : tot = 25 := by rw [← htot]; unfold tktN; rw [if_pos h3]
  subst e
  exact text3_c pv ep k ai ni ci l sa ns sc ls bl tg w hl hnm hnc hcm hv hls hnn hnd hcn hs htg hmay h3
 ·
  exact text12_c pv ep k ai ni ci l sa ns sc ls bl tg tot w hl hnm hnc hcm hv hls hnn hnd hcn hs htg hmay ZO hsm (by rw [← htot]; unfold tktN; rw [if_neg h3])
theorem textB_c (pv ep : UInt64) (kd : Int) (ai : Option Addr) (ni ci : Nat) (l : List UInt64) (sa : Option Addr) (ns sc : Nat) (ls : List SealR) (bl : UInt64) (tg : List UInt8)  (w : World) (hl : l.length = ni) (hnm : ni ≤ 2000000) (hnc : ni ≤ ci) (hcm : ci ≤ maxLen) (hv : RdV w ai (cu64 l)) (hls : ls.length = ns) (hnn : ns ≤ 2000000) (hnd : ns ≤ sc) (hcn : sc ≤ maxLen) (hs : RdV w sa (ls.flatMap sealC)) (htg : tg.length = 16) (hm : mayN pv ep kd l ls bl ≠ 0)  : Calls Tryd.prog 114 #[.agg (V2 pv ep (kd) ai ni ci sa ns sc bl tg).toArray] w (Post w [] (fun v L => v = .tuple #[SL none 0 0, errV 50 (mayN pv ep kd l ls bl)] ∧ L = [])) := by
 have hmx : maxLen = 9223372036854775807 := rfl
 refine enter (P := Tryd.prog) (f := 114) (fn := Tryd.f114) w [] 75 [] [.agg (V2 pv ep (kd) ai ni ci sa ns sc bl tg).toArray] Tryd.func114 rfl rfl ZM (A2 ZM ZM ZM) ?_
 show JC _ _ _ [_] _
 refine A4 (AO (AF (B2 (.agg (V2 pv ep (kd) ai ni ci sa ns sc bl tg).toArray) (V2 pv ep (kd) ai ni ci sa ns sc bl tg) rfl (by first | rfl | simp)) rfl ?_))
 rintro v1 L1 ⟨nb1, hnb1, rfl, rfl⟩
 show JL _ _ _ _ (_ :: _) [_]
 refine Z2 8 ?_
 refine AC (AJ 128 _ (errV 50 (mayN pv ep (kd) l ls bl)) (AH _ Tryd.call128 rfl) (fun w1 hw1 => may13_c pv ep (kd) ai ni ci l sa ns sc ls bl tg w1 hl ZO ZO ZO (CF hw1 rfl hv) hls ZO ZO ZO (CF hw1 rfl hs) htg)) rfl ?_
 show JL _ _ _ _ (_ :: _) [_]
 refine Z2 6 ?_
 refine AE (.bool (!(decide (mayN pv ep (kd) l ls bl = 0)))) (CG _ _ _ rfl rfl (fun _ => BL ..) fun _ => CW AV _ _) rfl ?_
 refine A1 (AK (A7 _ rfl (by rw [show (decide (mayN pv ep (kd) l ls bl = 0)) = false from (decide_eq_false hm)] <;> rfl) ?_))
 refine Z2 9 ?_
 refine A8 [false] ?_
 show JQ _ _ _ _ []
 refine Z1 fun w1 hw1 => ?_
 exact ⟨_, [], rfl, ⟨rfl, rfl⟩, hw1.no⟩
theorem put13_c (pv ep : UInt64) (k : Nat) (ai : Option Addr) (ni ci : Nat) (l : List UInt64) (sa : Option Addr) (ns sc : Nat) (ls : List SealR) (bl : UInt64) (tg : List UInt8) (tot : Nat)  (w : World) (hl : l.length = ni) (hnm : ni ≤ 2000000) (hnc : ni ≤ ci) (hcm : ci ≤ maxLen) (hv : RdV w ai (cu64 l)) (hls : ls.length = ns) (hnn : ns ≤ 2000000) (hnd : ns ≤ sc) (hcn : sc ≤ maxLen) (hs : RdV w sa (ls.flatMap sealC)) (htg : tg.length = 16) (hmay : mayN pv ep (k:Int) l ls bl = 0) (hk : k = 1 ∨ k = 2 ∨ k = 3) (hsm : ns ≤ 300) (htot : tktN k ni ns = tot) (htb : tot ≤ 30000)  : Calls Tryd.prog 47 #[.agg (V2 pv ep k ai ni ci sa ns sc bl tg).toArray] w (Post w [] (fun v L => ∃ g sp cap, v = .tuple #[Slc g 0 (tot + 16) cap, .nilIface] ∧ L = [(Ez g (cu8 ((tktT pv ep k l ls bl) ++ tg) ++ sp) 5)] ∧ sp.length = cap - (tot + 16) ∧ (tot + 16) ≤ cap ∧ cap ≤ maxLen)) := by
 have hmx : maxLen = 9223372036854775807 := rfl
 refine enter (P := Tryd.prog) (f := 47) (fn := Tryd.f47) w [] 18 [] [.agg (V2 pv ep k ai ni ci sa ns sc bl tg).toArray] Tryd.func47 rfl rfl ZM (A2 ZM ZM ZM) ?_
 show JC _ _ _ [_] _
 refine A4 (AO (AF (B2 (.agg (V2 pv ep k ai ni ci sa ns sc bl tg).toArray) (V2 pv ep k ai ni ci sa ns sc bl tg) rfl (by first | rfl | simp)) rfl ?_))
 rintro v1 L1 ⟨nb1, hnb1, rfl, rfl⟩
 show JL _ _ _ _ (_ :: _) [_]
 refine Z2 7 ?_
 refine AF (A5 114 _ _ (AH _ Tryd.call114 rfl) (fun w1 hw1 => text_w pv ep k ai ni ci l sa ns sc ls bl tg tot w1 hl ZO ZO ZO (CF hw1 rfl hv) hls ZO ZO ZO (CF hw1 rfl hs) htg hmay hk hsm htot)) rfl ?_
 rintro v1 L1 ⟨_, ⟨nb2, sp1, cp1, rfl, rfl, hc1, hc2, hc3⟩, rfl⟩
 show JL _ _ _ _ (_ :: _) [_, _]
 refine Z2 11 ?_
 refine AE (.bool false) (CG _ _ _ rfl rfl (fun _ => eqGuard_nn ..) fun _ => neq_if_nil_nil AV) rfl ?_
 refine A1 (AK (AY _ rfl rfl ?_))
 refine Z2 6 ?_
 refine AE (Slc nb1 6 16 16) (B4 16 5 1 0 16 6 16 AZ AW rfl rfl rfl ZO ZO ZO ZO ZO 16 ZO) rfl ?_
 refine AF (FD 43 5 [false, true] (Slc nb2 0 tot cp1) tot (tktT pv ep k l ls bl) tg (some ⟨nb1, 6, none⟩) 16 16 (tot + 16) AM FC rfl (.inr ⟨nb2, sp1, cp1, rfl, rfl, (by first | exact (show (tktT pv ep k l ls bl).length = tot from ((tktT_len hl hls).trans htot)) | simp [(show (tktT pv ep k l ls bl).length = tot from ((tktT_len hl hls).trans htot))]), hc1, ZO, ZO⟩) rfl (by first | exact htg | simp [htg]; try omega) (SrcAt.mem (A0 0 rfl (Seg.right 6 0 rfl rfl (AG _)))) ZO ZX ZO) rfl ?_
 rintro v1 L1 ⟨nb3, sp2, cp2, hg1, rfl, rfl, ha1, ha2, ha3, ha4⟩
 show JL _ _ _ _ (_ :: _) [_, _]
 refine Z2 5 ?_
 refine A8 [false, true] ?_
 show JQ _ _ _ _ [_]
 refine Z1 fun w1 hw1 => ?_
 exact ⟨_, _, rfl, ⟨nb3, sp2, cp2, rfl, rfl, ha2, ha3, ha4⟩, hw1.sub ZM ZM⟩
theorem putB_c (pv ep : UInt64) (kd : Int) (ai : Option Addr) (ni ci : Nat) (l : List UInt64) (sa : Option Addr) (ns sc : Nat) (ls : List SealR) (bl : UInt64) (tg : List UInt8)  (w : World) (hl : l.length = ni) (hnm : ni ≤ 2000000) (hnc : ni ≤ ci) (hcm : ci ≤ maxLen) (hv : RdV w ai (cu64 l)) (hls : ls.length = ns) (hnn : ns ≤ 2000000) (hnd : ns ≤ sc) (hcn : sc ≤ maxLen) (hs : RdV w sa (ls.flatMap sealC)) (htg : tg.length = 16) (hm : mayN pv ep kd l ls bl ≠ 0)  : Calls Tryd.prog 47 #[.agg (V2 pv ep (kd) ai ni ci sa ns sc bl tg).toArray] w (Post w [] (fun v L => v = .tuple #[SL none 0 0, errV 50 (mayN pv ep kd l ls bl)] ∧ L = [])) := by
 have hmx : maxLen = 9223372036854775807 := rfl
 refine enter (P := Tryd.prog) (f := 47) (fn := Tryd.f47) w [] 18 [] [.agg (V2 pv ep (kd) ai ni ci sa ns sc bl tg).toArray] Tryd.func47 rfl rfl ZM (A2 ZM ZM ZM) ?_
 show JC _ _ _ [_] _
 refine A4 (AO (AF (B2 (.agg (V2 pv ep (kd) ai ni ci sa ns sc bl tg).toArray) (V2 pv ep (kd) ai ni ci sa ns sc bl tg) rfl (by first | rfl | simp)) rfl ?_))
 rintro v1 L1 ⟨nb1, hnb1, rfl, rfl⟩
 show JL _ _ _ _ (_ :: _) [_]
 refine Z2 7 ?_
 refine AC (AJ 114 _ (.tuple #[SL none 0 0, errV 50 (mayN pv ep (kd) l ls bl)]) (AH _ Tryd.call114 rfl) (fun w1 hw1 => textB_c pv ep (kd) ai ni ci l sa ns sc ls bl tg w1 hl ZO ZO ZO (CF hw1 rfl hv) hls ZO ZO ZO (CF hw1 rfl hs) htg hm)) rfl ?_
 show JL _ _ _ _ (_ :: _) [_]
 refine Z2 11 ?_
 refine AE (.bool (!(decide (mayN pv ep (kd) l ls bl = 0)))) (CG _ _ _ rfl rfl (fun _ => BL ..) fun _ => CW AV _ _) rfl ?_
 refine A1 (AK (A7 _ rfl (by rw [show (decide (mayN pv ep (kd) l ls bl = 0)) = false from (decide_eq_false hm)] <;> rfl) ?_))
 refine Z2 9 ?_
 refine A8 [false] ?_
 show JQ _ _ _ _ []
 refine Z1 fun w1 hw1 => ?_
 exact ⟨_, [], rfl, ⟨rfl, rfl⟩, hw1.no⟩
theorem bld38_0123 {w : World} {v0 : Value} {v1 : Value} {c2 : List Value} {c3 : List Value} (h0 : v0.cells = [v0].toArray) (h1 : v1.cells = [v1].toArray) (h2 : c2.length = 4) (h3 : c3.length = 16) : (Instr.build 38 ([(0, v0), (1, v1), (2, .agg c2.toArray), (3, .agg c3.toArray)] : List (Nat × Value)).toArray).run Tryd.prog w = .ok (.agg (((([v0] : List Value) ++ ([v1] : List Value)) ++ c2) ++ c3).toArray) w :=
 C8 (places := #[(0, 1), (1, 1), (2, 4), (6, 16)]) (Z := (([U64 0] : List Value) ++ (([U64 0] : List Value) ++ (([I64 0, .slice none 0 0, .slice none 0 0, U64 0] : List Value) ++ ((cu8 (zr8 16) : List Value) ++ []))))) (fun _ => by kernel_rfl) Tryd.underlying38 (fun _ => by kernel_rfl) ((EI ([U64 0] : List Value) (([U64 0] : List Value) ++ (([I64 0, .slice none 0 0, .slice none 0 0, U64 0] : List Value) ++ ((cu8 (zr8 16) : List Value) ++ []))) ([v0] : List Value) h0 (by simp [AN]) rfl).trans ((DL ([v0] : List Value) ([U64 0] : List Value) (([I64 0, .slice none 0 0, .slice none 0 0, U64 0] : List Value) ++ ((cu8 (zr8 16) : List Value) ++ [])) ([v1] : List Value) h1 (by simp [AN]) rfl).trans ((DL (([v0] : List Value) ++ ([v1] : List Value)) ([I64 0, .slice none 0 0, .slice none 0 0, U64 0] : List Value) ((cu8 (zr8 16) : List Value) ++ []) c2 rfl (by simp [AN, h2]) (by simp [h2, AN])).trans ((DL ((([v0] : List Value) ++ ([v1] : List Value)) ++ c2) (cu8 (zr8 16) : List Value) [] c3 rfl (by simp [AN, h2, h3]) (by simp [h3, AN])).trans (by simp [Instr.fill])))))
attribute [local irreducible] blankB spanB reqR
theorem spanA_c (fs : UInt64) (mn : Int)  (w : World) (h : mn < 1)  : Calls Tryd.prog 86 #[I64 32, U64 fs, I64 (mn)] w (Post w [] (fun v L => v = .bool (spanB fs mn) ∧ L = [])) := by
 refine enter w [] 35 [] [I64 32, U64 fs, I64 (mn)] Tryd.func86 rfl rfl ZM (A2 ZM ZM ZM) ?_
 show JC _ _ _ [_, _, _] _
 refine Z2 11 ?_
 refine AD 2 10 false _ _ rfl rfl ZD ZE rfl ?_
 refine AD 2 10 false _ (.bool (decide ((32:Int) < (32:Int)))) rfl rfl ZD ZE rfl ?_
 refine AE _ (BO _ rfl ZD rfl) rfl ?_
 refine Z2 1 ?_
 refine AD 6 14 false _ _ rfl rfl ZD ZE rfl ?_
 refine AD 6 14 false _ (.bool (decide ((mn) < (1:Int)))) rfl rfl ZD ZE rfl ?_
 refine AE _ (BO _ rfl ZD rfl) rfl ?_
 refine Z2 1 ?_
 refine D4 2 10 18 false _ rfl rfl (decide_eq_true ZO) rfl (AE _ (CC _ rfl (decide_eq_true ZO) rfl) rfl ?_)
 refine A1 (AK (A7 _ rfl rfl ?_))
 refine Z2 7 ?_
 refine Z1 fun w1 hw1 => ?_
 exact ⟨_, [], rfl, ⟨congrArg Value.bool (spanB_no ZO).symm, rfl⟩, hw1.no⟩
theorem spanB_c (fs : UInt64) (mn : Int)  (w : World) (h : 256 < mn)  : Calls Tryd.prog 86 #[I64 32, U64 fs, I64 (mn)] w (Post w [] (fun v L => v = .bool (spanB fs mn) ∧ L = [])) := by
 refine enter w [] 35 [] [I64 32, U64 fs, I64 (mn)] Tryd.func86 rfl rfl ZM (A2 ZM ZM ZM) ?_
 show JC _ _ _ [_, _, _] _
 refine Z2 11 ?_
 refine AD 2 10 false _ _ rfl rfl ZD ZE rfl ?_
 refine AD 2 10 false _ (.bool (decide ((32:Int) < (32:Int)))) rfl rfl ZD ZE rfl ?_
 refine AE _ (BO _ rfl ZD rfl) rfl ?_
 refine Z2 1 ?_
 refine AD 6 14 false _ _ rfl rfl ZD ZE rfl ?_
 refine AD 6 14 false _ (.bool (decide ((mn) < (1:Int)))) rfl rfl ZD ZE rfl ?_
 refine AE _ (BO _ rfl ZD rfl) rfl ?_
 refine Z2 1 ?_
 refine AD 10 18 false _ _ rfl rfl (decide_eq_false ZO) ZE rfl ?_
 refine AD 10 18 false _ (.bool (decide ((256:Int) < (mn)))) rfl rfl (decide_eq_false ZO) ZE rfl ?_
 refine AE _ (BO _ rfl (decide_eq_false ZO) rfl) rfl ?_
 refine A1 (AK (A7 _ rfl (decide_eq_true ZO) ?_))
 refine Z2 7 ?_
 refine Z1 fun w1 hw1 => ?_
 exact ⟨_, [], rfl, ⟨congrArg Value.bool (spanB_no ZO).symm, rfl⟩, hw1.no⟩
theorem rspanA_c (fs : UInt64) (mn : Int)  (w : World) (h : mn < 1)  : Calls Tryd.prog 80 #[I64 32, U64 fs, I64 (mn)] w (Post w [] (fun v L => v = .bool (spanB fs mn) ∧ L = [])) := by
 refine enter w [] 47 [] [I64 32, U64 fs, I64 (mn)] Tryd.func80 rfl rfl ZM (A2 ZM ZM ZM) ?_
 show JC _ _ _ [_, _, _] _
 refine Z2 11 ?_
 refine AD 2 12 false _ _ rfl rfl ZD ZE rfl ?_
 refine AD 2 12 false _ (.bool (decide ((32:Int) < (32:Int)))) rfl rfl ZD ZE rfl ?_
 refine AE _ (BO _ rfl ZD rfl) rfl ?_
 refine Z2 1 ?_
 refine AD 6 16 false _ _ rfl rfl ZD ZE rfl ?_
 refine AD 6 16 false _ (.bool (decide ((mn) < (1:Int)))) rfl rfl ZD ZE rfl ?_
 refine AE _ (BO _ rfl ZD rfl) rfl ?_
 refine Z2 1 ?_
 refine D4 2 10 20 false _ rfl rfl (decide_eq_true ZO) rfl (AE _ (CC _ rfl (decide_eq_true ZO) rfl) rfl ?_)
 refine A1 (AK (A7 _ rfl rfl ?_))
 refine Z2 7 ?_
 refine Z1 fun w1 hw1 => ?_
 exact ⟨_, [], rfl, ⟨congrArg Value.bool (spanB_no ZO).symm, rfl⟩, hw1.no⟩
theorem rspanB_c (fs : UInt64) (mn : Int)  (w : World) (h : 256 < mn)  : Calls Tryd.prog 80 #[I64 32, U64 fs, I64 (mn)] w (Post w [] (fun v L => v = .bool (spanB fs mn) ∧ L = [])) := by
 refine enter w [] 47 [] [I64 32, U64 fs, I64 (mn)] Tryd.func80 rfl rfl ZM (A2 ZM ZM ZM) ?_
 show JC _ _ _ [_, _, _] _
 refine Z2 11 ?_
 refine AD 2 12 false _ _ rfl rfl ZD ZE rfl ?_
 refine AD 2 12 false _ (.bool (decide ((32:Int) < (32:Int)))) rfl rfl ZD ZE rfl ?_
 refine AE _ (BO _ rfl ZD rfl) rfl ?_
 refine Z2 1 ?_
 refine AD 6 16 false _ _ rfl rfl ZD ZE rfl ?_
 refine AD 6 16 false _ (.bool (decide ((mn) < (1:Int)))) rfl rfl ZD ZE rfl ?_
 refine AE _ (BO _ rfl ZD rfl) rfl ?_
 refine Z2 1 ?_
 refine AD 10 20 false _ _ rfl rfl (decide_eq_false ZO) ZE rfl ?_
 refine AD 10 20 false _ (.bool (decide ((256:Int) < (mn)))) rfl rfl (decide_eq_false ZO) ZE rfl ?_
 refine AE _ (BO _ rfl (decide_eq_false ZO) rfl) rfl ?_
 refine A1 (AK (A7 _ rfl (decide_eq_true ZO) ?_))
 refine Z2 7 ?_
 refine Z1 fun w1 hw1 => ?_
 exact ⟨_, [], rfl, ⟨congrArg Value.bool (spanB_no ZO).symm, rfl⟩, hw1.no⟩
theorem spanC_c (fs : UInt64) (mn : Nat)  (w : World) (h1 : 1 ≤ mn) (h2 : mn ≤ 256)  : Calls Tryd.prog 86 #[I64 32, U64 fs, I64 mn] w (Post w [] (fun v L => v = .bool (spanB fs (mn:Int)) ∧ L = [])) := by
 have hmx : maxLen = 9223372036854775807 := rfl
 refine enter w [] 35 [] [I64 32, U64 fs, I64 mn] Tryd.func86 rfl rfl ZM (A2 ZM ZM ZM) ?_
 show JC _ _ _ [_, _, _] _
 refine Z2 11 ?_
 refine AD 2 10 false _ _ rfl rfl ZD ZE rfl ?_
 refine AD 2 10 false _ (.bool (decide ((32:Int) < (32:Int)))) rfl rfl ZD ZE rfl ?_
 refine AE _ (BO _ rfl ZD rfl) rfl ?_
 refine Z2 1 ?_
 refine AD 6 14 false _ _ rfl rfl ZD ZE rfl ?_
 refine AD 6 14 false _ (.bool (decide (((mn:Int)) < (1:Int)))) rfl rfl ZD ZE rfl ?_
 refine AE _ (BO _ rfl ZD rfl) rfl ?_
 refine Z2 1 ?_
 refine AD 10 18 false _ _ rfl rfl (decide_eq_false ZO) ZE rfl ?_
 refine AD 10 18 false _ (.bool (decide ((256:Int) < ((mn:Int))))) rfl rfl (decide_eq_false ZO) ZE rfl ?_
 refine AE _ (BO _ rfl (decide_eq_false ZO) rfl) rfl ?_
 refine A1 (AK (AY _ rfl (decide_eq_false ZO) ?_))
 refine Z2 5 ?_
 refine AE (U64 ((1:UInt64) <<< (32:UInt64))) (AT rfl rfl fun _ => bin_shl_u64 (1:UInt64) _ _ 32 ZD rfl) rfl ?_
 refine Z2 7 ?_
 refine AE (.bool (decide (fs < ((1:UInt64) <<< (32:UInt64))))) (AT rfl rfl fun _ => bin_lss_u64 fs ((1:UInt64) <<< (32:UInt64))) rfl ?_
 refine Z2 1 ?_
 rcases Bool.eq_false_or_eq_true (decide (fs < ((1:UInt64) <<< (32:UInt64)))) with hb1 | hb1
 ·
  have hp1 := of_decide_eq_true hb1
  refine Z2 1 ?_
  refine AD 3 27 true _ (U64 (UInt64.ofNat mn)) rfl rfl hb1 (EW _ _ rfl fun _ => EO (by rw [DM]; rfl) BQ mn _ ZO) rfl ?_
  refine Z2 2 ?_
  refine AD 3 27 true _ (U64 (((1:UInt64) <<< (32:UInt64)) - fs)) rfl rfl hb1 (AT rfl rfl fun _ => bin_sub_u64 ((1:UInt64) <<< (32:UInt64)) fs) rfl ?_
  refine AD 3 27 true _ (.bool (decide ((UInt64.ofNat mn) ≤ (((1:UInt64) <<< (32:UInt64)) - fs)))) rfl rfl hb1 (AT rfl rfl fun _ => bin_leq_u64 (UInt64.ofNat mn) (((1:UInt64) <<< (32:UInt64)) - fs)) rfl ?_
  refine Z2 5 ?_
  refine Z1 fun w1 hw1 => ?_
  refine ⟨_, [], rfl, ⟨congrArg Value.bool ?_, rfl⟩, hw1.no⟩
  rw [span_ok h1 h2]
  first | exact (decide_eq_false (span_no (by assumption) h1)).symm | exact decide_eq_decide.2 ⟨fun h => span_hi (by assumption) h h2, fun e => Classical.byContradiction (fun hn => span_lo (by assumption) hn h2 e)⟩
 have hp1 := of_decide_eq_false hb1
 refine Z2 11 ?_
 refine Z1 fun w1 hw1 => ?_
 refine ⟨_, [], rfl, ⟨congrArg Value.bool ?_, rfl⟩, hw1.no⟩
 rw [span_ok h1 h2]
 first | exact (decide_eq_false (span_no (by assumption) h1)).symm | exact decide_eq_decide.2 ⟨fun h => span_hi (by assumption) h h2, fun e => Classical.byContradiction (fun hn => span_lo (by assumption) hn h2 e)⟩
theorem rspanC_c (fs : UInt64) (mn : Nat)  (w : World) (h1 : 1 ≤ mn) (h2 : mn ≤ 256)  : Calls Tryd.prog 80 #[I64 32, U64 fs, I64 mn] w (Post w [] (fun v L => v = .bool (spanB fs (mn:Int)) ∧ L = [])) := by
 have hmx : maxLen = 9223372036854775807 := rfl
 refine enter w [] 47 [] [I64 32, U64 fs, I64 mn] Tryd.func80 rfl rfl ZM (A2 ZM ZM ZM) ?_
 show JC _ _ _ [_, _, _] _
 refine Z2 11 ?_
 refine AD 2 12 false _ _ rfl rfl ZD ZE rfl ?_
 refine AD 2 12 false _ (.bool (decide ((32:Int) < (32:Int)))) rfl rfl ZD ZE rfl ?_
 refine AE _ (BO _ rfl ZD rfl) rfl ?_
 refine Z2 1 ?_
 refine AD 6 16 false _ _ rfl rfl ZD ZE rfl ?_
 refine AD 6 16 false _ (.bool (decide (((mn:Int)) < (1:Int)))) rfl rfl ZD ZE rfl ?_
 refine AE _ (BO _ rfl ZD rfl) rfl ?_
 refine Z2 1 ?_
 refine AD 10 20 false _ _ rfl rfl (decide_eq_false ZO) ZE rfl ?_
 refine AD 10 20 false _ (.bool (decide ((256:Int) < ((mn:Int))))) rfl rfl (decide_eq_false ZO) ZE rfl ?_
 refine AE _ (BO _ rfl (decide_eq_false ZO) rfl) rfl ?_
 refine A1 (AK (AY _ rfl (decide_eq_false ZO) ?_))
 refine Z2 14 ?_
 refine C3 (ι := Nat × UInt64) (fun ⟨j, y⟩ => [(0, I64 32), (1, U64 fs), (2, I64 mn), (6, .bool false), (8, I64 j), (7, U64 y)]) (fun ⟨j, y⟩ => []) (fun ⟨j, y⟩ => j ≤ 32 ∧ y = UInt64.ofNat (2 ^ j)) (fun ⟨j, y⟩ => 32 - j) (0, 1) ⟨ZO, rfl⟩ (Sub.all rfl) rfl ?_
 rintro ⟨j, y⟩ ⟨hj1, hj2⟩
 show JC _ _ _ [_, _, _, _, _, _] []
 refine Z2 8 ?_
 refine AX _ rfl (fun hb1 => ?_) (fun hb1 => ?_)
 ·
  have hp1 := of_decide_eq_true hb1
  refine Z2 6 ?_
  refine AE (U64 (y * (2:UInt64))) (AT rfl rfl fun _ => bin_mul_u64 y (2:UInt64)) rfl ?_
  refine Z2 6 ?_
  refine AE (I64 ((j:Int) + 1)) (AT rfl rfl fun _ => BR _ _ ((j:Int) + 1) ZO ZO) rfl ?_
  refine Z2 1 ?_
  refine A1 (B5 (C1 (j + 1, y * 2) ⟨ZO, by rw [hj2]; exact pow2_step j⟩ (by first | (simp; omega) | simp | (dsimp only; omega) | omega) (Sub.all rfl) rfl))
 have hp1 := of_decide_eq_false hb1
 refine Z2 7 ?_
 have hj3 : j = 32 := by omega
 have hy : y = 4294967296 := by rw [hj2, hj3]; rfl
 subst hy
 refine Z2 5 ?_
 refine C3 (ι := Nat) (fun i => [(1, U64 fs), (2, I64 mn), (7, U64 4294967296), (9, I64 i)]) (fun i => []) (fun i => i ≤ mn ∧ (0 < i → fs < 4294967296 ∧ UInt64.ofNat (i - 1) < 4294967296 - fs)) (fun i => mn - i) 0 ⟨ZO, fun h => absurd h ZO⟩ (Sub.all rfl) rfl ?_
 rintro i ⟨hi1, hi2⟩
 show JC _ _ _ [_, _, _, _] []
 refine Z2 8 ?_
 refine AX _ rfl (fun hb2 => ?_) (fun hb2 => ?_)
 ·
  have hp2 := of_decide_eq_true hb2
  refine Z2 8 ?_
  refine AE (.bool (decide ((4294967296:UInt64) ≤ fs))) (AT rfl rfl fun _ => EH fs (4294967296:UInt64)) rfl ?_
  refine Z2 1 ?_
  rcases Bool.eq_false_or_eq_true (decide ((4294967296:UInt64) ≤ fs)) with hb3 | hb3
  ·
   have hp3 := of_decide_eq_true hb3
   refine Z2 9 ?_
   refine A7 _ rfl rfl ?_
   refine Z2 11 ?_
   refine Z1 fun w1 hw1 => ?_
   refine ⟨_, [], rfl, ⟨congrArg Value.bool ?_, rfl⟩, hw1.no⟩
   rw [span_ok h1 h2]
   refine (decide_eq_false ?_).symm
   exact span_no (UInt64.not_lt.2 (of_decide_eq_true hb3)) h1
  have hp3 := of_decide_eq_false hb3
  refine Z2 1 ?_
  refine AD 3 39 false _ (U64 (UInt64.ofNat i)) rfl rfl hb3 (EW _ _ rfl fun _ => EO (by rw [DM]; rfl) BQ i _ ZO) rfl ?_
  refine Z2 2 ?_
  refine AD 3 39 false _ (U64 ((4294967296:UInt64) - fs)) rfl rfl hb3 (AT rfl rfl fun _ => bin_sub_u64 (4294967296:UInt64) fs) rfl ?_
  refine AD 3 39 false _ (.bool (decide (((4294967296:UInt64) - fs) ≤ (UInt64.ofNat i)))) rfl rfl hb3 (AT rfl rfl fun _ => EH (UInt64.ofNat i) ((4294967296:UInt64) - fs)) rfl ?_
  refine Z2 3 ?_
  refine AX _ rfl (fun hb4 => ?_) (fun hb4 => ?_)
  ·
   have hp4 := of_decide_eq_true hb4
   refine Z2 11 ?_
   refine Z1 fun w1 hw1 => ?_
   refine ⟨_, [], rfl, ⟨congrArg Value.bool ?_, rfl⟩, hw1.no⟩
   rw [span_ok h1 h2]
   refine (decide_eq_false ?_).symm
   exact span_gt (i := i) (UInt64.not_le.1 (of_decide_eq_false hb3)) (of_decide_eq_true hb4) ZO ZO
  have hp4 := of_decide_eq_false hb4
  refine Z2 5 ?_
  refine AE (I64 ((i:Int) + 1)) (AT rfl rfl fun _ => BR _ _ ((i:Int) + 1) ZO ZO) rfl ?_
  refine Z2 1 ?_
  refine A1 (B5 (C1 (i + 1) ⟨ZO, fun _ => ⟨UInt64.not_le.1 (of_decide_eq_false hb3), by rw [Nat.add_sub_cancel]; exact UInt64.not_le.1 (of_decide_eq_false hb4)⟩⟩ (by first | (simp; omega) | simp | (dsimp only; omega) | omega) (Sub.all rfl) rfl))
 have hp2 := of_decide_eq_false hb2
 refine Z2 11 ?_
 refine Z1 fun w1 hw1 => ?_
 refine ⟨_, [], rfl, ⟨congrArg Value.bool ?_, rfl⟩, hw1.no⟩
 rw [span_ok h1 h2]
 obtain rfl : i = mn := by omega
 obtain ⟨a1, a2⟩ := hi2 ZO
 exact (decide_eq_true (span_lt a1 a2 h1 h2)).symm
theorem span_w (fs : UInt64) (mn : Int) (w : World) : Calls Tryd.prog 86 #[I64 32, U64 fs, I64 mn] w (Post w [] (fun v L => v = .bool (spanB fs mn) ∧ L = [])) := by
 by_cases h1 : mn < 1
 ·
  exact spanA_c fs mn w h1
 by_cases h2 : 256 < mn
 ·
  exact spanB_c fs mn w h2
 ·
  obtain ⟨k, rfl⟩ : ∃ k : Nat, mn = k := ⟨mn.toNat, ZO⟩
  exact spanC_c fs k w ZO ZO
theorem rspan_w (fs : UInt64) (mn : Int) (w : World) : Calls Tryd.prog 80 #[I64 32, U64 fs, I64 mn] w (Post w [] (fun v L => v = .bool (spanB fs mn) ∧ L = [])) := by
 by_cases h1 : mn < 1
 ·
  exact rspanA_c fs mn w h1
 by_cases h2 : 256 < mn
 ·
  exact rspanB_c fs mn w h2
 ·
  obtain ⟨k, rfl⟩ : ∃ k : Nat, mn = k := ⟨mn.toNat, ZO⟩
  exact rspanC_c fs k w ZO ZO
theorem blank_c (pv ep : UInt64) (kd : Int) (ai : Option Addr) (ni ci : Nat) (l : List UInt64) (sa : Option Addr) (ns sc : Nat) (ls : List SealR) (bl : UInt64) (tg : List UInt8)  (w : World) (hl : l.length = ni) (hnm : ni ≤ 2000000) (hnc : ni ≤ ci) (hcm : ci ≤ maxLen) (hv : RdV w ai (cu64 l)) (hls : ls.length = ns) (hnn : ns ≤ 2000000) (hnd : ns ≤ sc) (hcn : sc ≤ maxLen) (hs : RdV w sa (ls.flatMap sealC)) (htg : tg.length = 16)  : Calls Tryd.prog 84 #[.agg (V2 pv ep (kd) ai ni ci sa ns sc bl tg).toArray] w (Post w [] (fun v L => v = .bool (blankB pv ep kd l ls bl tg) ∧ L = [])) := by
 have hmx : maxLen = 9223372036854775807 := rfl
 refine enter (P := Tryd.prog) (f := 84) (fn := Tryd.f84) w [] 6 [] [.agg (V2 pv ep (kd) ai ni ci sa ns sc bl tg).toArray] Tryd.func84 rfl rfl ZM (A2 ZM ZM ZM) ?_
 show JC _ _ _ [_] _
 refine A4 (AO (AF (B2 (.agg (V2 pv ep (kd) ai ni ci sa ns sc bl tg).toArray) (V2 pv ep (kd) ai ni ci sa ns sc bl tg) rfl (by first | rfl | simp)) rfl ?_))
 rintro v1 L1 ⟨nb1, hnb1, rfl, rfl⟩
 show JL _ _ _ _ (_ :: _) [_]
 refine Z2 6 ?_
 refine AE (.agg (V4).toArray) Ze rfl ?_
 refine AC (AJ 49 _ (.bool (decide (pv = (0:UInt64) ∧ ep = (0:UInt64) ∧ tg = (zr8 16) ∧ (kd) = (0:Int) ∧ bl = (0:UInt64) ∧ l = ([] : List UInt64) ∧ ls = ([] : List SealR)))) (AH _ Tryd.call49 rfl) (fun w1 hw1 => same13_c pv ep (kd) ai ni ci l sa ns sc ls bl tg (0:UInt64) (0:UInt64) (0:Int) none 0 0 ([] : List UInt64) none 0 0 ([] : List SealR) (0:UInt64) (zr8 16) w1 hl ZO ZO ZO (CF hw1 rfl hv) hls ZO ZO ZO (CF hw1 rfl hs) htg rfl ZO ZO ZO RdV.nil rfl ZO ZO ZO RdV.nil (AN 16))) rfl ?_
 show JL _ _ _ _ (_ :: _) [_]
 refine Z2 4 ?_
 refine A8 [false] ?_
 show JQ _ _ _ _ []
 refine Z1 fun w1 hw1 => ?_
 exact ⟨_, [], rfl, ⟨congrArg Value.bool (show _ = _ from by unfold blankB; rfl), rfl⟩, hw1.no⟩
theorem rblank_c (pv ep : UInt64) (kd : Int) (ai : Option Addr) (ni ci : Nat) (l : List UInt64) (sa : Option Addr) (ns sc : Nat) (ls : List SealR) (bl : UInt64) (tg : List UInt8)  (w : World) (hl : l.length = ni) (hnm : ni ≤ 2000000) (hnc : ni ≤ ci) (hcm : ci ≤ maxLen) (hv : RdV w ai (cu64 l)) (hls : ls.length = ns) (hnn : ns ≤ 2000000) (hnd : ns ≤ sc) (hcn : sc ≤ maxLen) (hs : RdV w sa (ls.flatMap sealC)) (htg : tg.length = 16)  : Calls Tryd.prog 78 #[.agg (V2 pv ep (kd) ai ni ci sa ns sc bl tg).toArray] w (Post w [] (fun v L => v = .bool (blankB pv ep kd l ls bl tg) ∧ L = [])) := by
 have hmx : maxLen = 9223372036854775807 := rfl
 refine enter (P := Tryd.prog) (f := 78) (fn := Tryd.f78) w [] 6 [] [.agg (V2 pv ep (kd) ai ni ci sa ns sc bl tg).toArray] Tryd.func78 rfl rfl ZM (A2 ZM ZM ZM) ?_
 show JC _ _ _ [_] _
 refine A4 (AO (AF (B2 (.agg (V2 pv ep (kd) ai ni ci sa ns sc bl tg).toArray) (V2 pv ep (kd) ai ni ci sa ns sc bl tg) rfl (by first | rfl | simp)) rfl ?_))
 rintro v1 L1 ⟨nb1, hnb1, rfl, rfl⟩
 show JL _ _ _ _ (_ :: _) [_]
 refine Z2 6 ?_
 refine AE (.agg (V4).toArray) Ze rfl ?_
 refine AC (AJ 51 _ (.bool (decide (pv = (0:UInt64) ∧ ep = (0:UInt64) ∧ tg = (zr8 16) ∧ (kd) = (0:Int) ∧ bl = (0:UInt64) ∧ l = ([] : List UInt64) ∧ ls = ([] : List SealR)))) (AH _ Tryd.call51 rfl) (fun w1 hw1 => rsame13_c pv ep (kd) ai ni ci l sa ns sc ls bl tg (0:UInt64) (0:UInt64) (0:Int) none 0 0 ([] : List UInt64) none 0 0 ([] : List SealR) (0:UInt64) (zr8 16) w1 hl ZO ZO ZO (CF hw1 rfl hv) hls ZO ZO ZO (CF hw1 rfl hs) htg rfl ZO ZO ZO RdV.nil rfl ZO ZO ZO RdV.nil (AN 16))) rfl ?_
 show JL _ _ _ _ (_ :: _) [_]
 refine Z2 4 ?_
 refine A8 [false] ?_
 show JQ _ _ _ _ []
 refine Z1 fun w1 hw1 => ?_
 exact ⟨_, [], rfl, ⟨congrArg Value.bool (show _ = _ from by unfold blankB; rfl), rfl⟩, hw1.no⟩
theorem wmayK_c (pv ep : UInt64) (k : Nat) (ai : Option Addr) (ni ci : Nat) (l : List UInt64) (sa : Option Addr) (ns sc : Nat) (ls : List SealR) (bl : UInt64) (tg : List UInt8) (tot : Nat)  (w : World) (hl : l.length = ni) (hnm : ni ≤ 2000000) (hnc : ni ≤ ci) (hcm : ci ≤ maxLen) (hv : RdV w ai (cu64 l)) (hls : ls.length = ns) (hnn : ns ≤ 2000000) (hnd : ns ≤ sc) (hcn : sc ≤ maxLen) (hs : RdV w sa (ls.flatMap sealC)) (htg : tg.length = 16) (hmay : mayN pv ep (k:Int) l ls bl = 0) (hk : k = 1 ∨ k = 2 ∨ k = 3) (hsm : ns ≤ 300) (htot : tktN k ni ns = tot) (htb : tot ≤ 30000)  : Calls Tryd.prog 87 #[.agg (V2 pv ep k ai ni ci sa ns sc bl tg).toArray] w (Post w [] (fun v L => v = .bool true ∧ L = [])) := by
 have hmx : maxLen = 9223372036854775807 := rfl
 refine enter (P := Tryd.prog) (f := 87) (fn := Tryd.f87) w [] 12 [] [.agg (V2 pv ep k ai ni ci sa ns sc bl tg).toArray] Tryd.func87 rfl rfl ZM (A2 ZM ZM ZM) ?_
 show JC _ _ _ [_] _
 refine A4 (AO (AF (B2 (.agg (V2 pv ep k ai ni ci sa ns sc bl tg).toArray) (V2 pv ep k ai ni ci sa ns sc bl tg) rfl (by first | rfl | simp)) rfl ?_))
 rintro v1 L1 ⟨nb1, hnb1, rfl, rfl⟩
 show JL _ _ _ _ (_ :: _) [_]
 refine Z2 6 ?_
 refine AF (A5 47 _ _ (AH _ Tryd.call47 rfl) (fun w1 hw1 => put13_c pv ep k ai ni ci l sa ns sc ls bl tg tot w1 hl ZO ZO ZO (CF hw1 rfl hv) hls ZO ZO ZO (CF hw1 rfl hs) htg hmay hk hsm htot ZO)) rfl ?_
 rintro v1 L1 ⟨_, ⟨nb2, sp1, cp1, rfl, rfl, hc1, hc2, hc3⟩, rfl⟩
 show JL _ _ _ _ (_ :: _) [_, _]
 refine Z2 10 ?_
 refine AE (.bool true) (CG _ _ _ rfl rfl (fun _ => eqGuard_nn ..) fun _ => eql_if_nil_nil AV) rfl ?_
 refine Z2 4 ?_
 refine A8 [false, false] ?_
 show JQ _ _ _ _ []
 refine Z1 fun w1 hw1 => ?_
 exact ⟨_, [], rfl, ⟨rfl, rfl⟩, hw1.no⟩
theorem wmayB_c (pv ep : UInt64) (kd : Int) (ai : Option Addr) (ni ci : Nat) (l : List UInt64) (sa : Option Addr) (ns sc : Nat) (ls : List SealR) (bl : UInt64) (tg : List UInt8)  (w : World) (hl : l.length = ni) (hnm : ni ≤ 2000000) (hnc : ni ≤ ci) (hcm : ci ≤ maxLen) (hv : RdV w ai (cu64 l)) (hls : ls.length = ns) (hnn : ns ≤ 2000000) (hnd : ns ≤ sc) (hcn : sc ≤ maxLen) (hs : RdV w sa (ls.flatMap sealC)) (htg : tg.length = 16) (hm : mayN pv ep kd l ls bl ≠ 0)  : Calls Tryd.prog 87 #[.agg (V2 pv ep (kd) ai ni ci sa ns sc bl tg).toArray] w (Post w [] (fun v L => v = .bool false ∧ L = [])) := by
 have hmx : maxLen = 9223372036854775807 := rfl
 refine enter (P := Tryd.prog) (f := 87) (fn := Tryd.f87) w [] 12 [] [.agg (V2 pv ep (kd) ai ni ci sa ns sc bl tg).toArray] Tryd.func87 rfl rfl ZM (A2 ZM ZM ZM) ?_
 show JC _ _ _ [_] _
 refine A4 (AO (AF (B2 (.agg (V2 pv ep (kd) ai ni ci sa ns sc bl tg).toArray) (V2 pv ep (kd) ai ni ci sa ns sc bl tg) rfl (by first | rfl | simp)) rfl ?_))
 rintro v1 L1 ⟨nb1, hnb1, rfl, rfl⟩
 show JL _ _ _ _ (_ :: _) [_]
 refine Z2 6 ?_
 refine AC (AJ 47 _ (.tuple #[SL none 0 0, errV 50 (mayN pv ep (kd) l ls bl)]) (AH _ Tryd.call47 rfl) (fun w1 hw1 => putB_c pv ep (kd) ai ni ci l sa ns sc ls bl tg w1 hl ZO ZO ZO (CF hw1 rfl hv) hls ZO ZO ZO (CF hw1 rfl hs) htg hm)) rfl ?_
 show JL _ _ _ _ (_ :: _) [_]
 refine Z2 10 ?_
 refine AE (.bool (decide (mayN pv ep (kd) l ls bl = 0))) (CG _ _ _ rfl rfl (fun _ => BL ..) fun _ => eql_errV AV _ _) rfl ?_
 refine Z2 4 ?_
 refine A8 [false] ?_
 show JQ _ _ _ _ []
 refine Z1 fun w1 hw1 => ?_
 exact ⟨_, [], rfl, ⟨congrArg Value.bool (decide_eq_false hm), rfl⟩, hw1.no⟩
theorem wmay_w (pv ep : UInt64) (kd : Int) (ai : Option Addr) (ni ci : Nat) (l : List UInt64) (sa : Option Addr) (ns sc : Nat) (ls : List SealR) (bl : UInt64) (tg : List UInt8) (w : World) (hl : l.length = ni) (hnm : ni ≤ 2000000) (hnc : ni ≤ ci) (hcm : ci ≤ maxLen) (hv : RdV w ai (cu64 l)) (hls : ls.length = ns) (hnn : ns ≤ 2000000) (hnd : ns ≤ sc) (hcn : sc ≤ maxLen) (hs : RdV w sa (ls.flatMap sealC)) (htg : tg.length = 16) (hbi : ni ≤ 300) (hbs : ns ≤ 300) : Calls Tryd.prog 87 #[.agg (V2 pv ep (kd) ai ni ci sa ns sc bl tg).toArray] w (Post w [] (fun v L => v = .bool (decide (mayN pv ep kd l ls bl = 0)) ∧ L = [])) := by
 by_cases hm : mayN pv ep kd l ls bl = 0
 ·
  obtain ⟨k, rfl, hk⟩ : ∃ k : Nat, kd = k ∧ (k = 1 ∨ k = 2 ∨ k = 3) := by
   rcases RightO_cases (mayN_right hm) with ⟨rfl, _⟩ | ⟨rfl, _⟩ | ⟨rfl, _⟩
   ·
    exact ⟨1, rfl, .inl rfl⟩
   ·
    exact ⟨2, rfl, .inr (.inl rfl)⟩
   ·
    exact ⟨3, rfl, .inr (.inr rfl)⟩
  rw [decide_eq_true hm]
  exact wmayK_c pv ep k ai ni ci l sa ns sc ls bl tg (tktN k ni ns) w hl hnm hnc hcm hv hls hnn hnd hcn hs htg hm hk hbs rfl (tktN_le ZO ZO)
 ·
  rw [decide_eq_false hm]
  exact wmayB_c pv ep kd ai ni ci l sa ns sc ls bl tg w hl hnm hnc hcm hv hls hnn hnd hcn hs htg hm
end Go.Proofs.YtkdpdgpphpngeaaDoor
