import Derived.Test.YtkdpdgpphpngeaaDoorPkTB2
set_option linter.unusedVariables false
set_option linter.unusedSimpArgs false
set_option maxRecDepth 100000
namespace Go.Sx
open Go Go.RowKit
variable {C : Cx} {F : Frm} {L : List Ent}
theorem Step_appG8 {x y : Operand} {ty : TypeId} (t e : Nat) (a0 : Addr) (n cap : Nat) (l z : List UInt8) (ao : Option Addr) (k c tot : Nat)
    (hu : C.P.underlying t = some (.slice e)) (hi : (C.P.info? e).map (fun i => (i.zero, i.size, i.bytes)) = some (some (.int .u8 0), 1, 1))
    (hx : ev F x = some (.slice (some a0) n cap)) (hl : l.length = n) (hr : SrcAt C L (some a0) (cu8 l))
    (hy : ev F y = some (.slice ao k c)) (hk : z.length = k) (hm : SrcAt C L ao (cu8 z)) (hk0 : 0 < k) (hg : cap < n + k) (hmax : (n + k) * 1 ≤ 140737488355328) (hmax' : n + k ≤ maxLen) (htot : n + k = tot) :
    Step C F L (.call { callee := .builtin .append, args := #[x, y], argTypes := #[t, t] }) ty fun v' L' => ∃ g sp cap', C.w0.heap.size ≤ g ∧ v' = Slc g 0 tot cap' ∧ L' = L ++ [⟨g, cu8 (l ++ z) ++ sp, e, (0, 0)⟩] ∧ (l ++ z).length = tot ∧ sp.length = cap' - tot ∧ tot ≤ cap' ∧ cap' ≤ maxLen :=
  Step_run fun a w ha hw d pos aft g => by
  subst htot
  obtain ⟨i, hi1, hi2, hi3, hi4⟩ := info_of hi
  have he := ha.ev hx
  have he' := ha.ev hy
  cases ao with
  | none =>
    have := hm.1 rfl
    have hz : z = [] := by simpa [cu8] using this
    subst hz; simp at hk; omega
  | some ad =>
    have hsrc : ∀ j u, (cu8 z)[j]? = some u → w.cell? (ad.add j) = some u := fun j u hj => hm.2 ad rfl w hw j u hj
    have hold : ∀ j u, (cu8 l)[j]? = some u → w.cell? (a0.add j) = some u := fun j u hj => hr.2 a0 rfl w hw j u hj
    obtain ⟨v', w', hrun, hown, hgr⟩ := run_append_arg_grows (P := C.P) (w := w) t ty e i (.int .u8 0) 1 1 hu hi1 hi2 hi3 hi4 rfl (by decide) a0 n cap (cu8 l) (by simp [cu8, hl]) hold ad k c (cu8 z) (by simp [cu8, hk]) hsrc hg hmax' hmax
    obtain ⟨hlen, hcase⟩ := hown
    rcases hcase with ⟨_, h5⟩ | ⟨g', cap', cur, rfl, hb, hh, hcap, hmaxl, hsz, htk⟩
    · omega
    · have hcur : cur = (cu8 (l ++ z) ++ cur.toList.drop ((n + k) * 1)).toArray := by
        apply Array.toList_inj.1
        rw [cu8, List.map_append]
        show cur.toList = (cu8 l ++ cu8 z) ++ _
        rw [← htk]; simp
      refine ⟨_, L ++ [⟨g', cu8 (l ++ z) ++ cur.toList.drop ((n + k) * 1), e, (0, 0)⟩], w', ⟨g', cur.toList.drop ((n + k) * 1), cap', Nat.le_trans hw.le hb, rfl, rfl, by simp [hl, hk], ?_, hcap, hmaxl⟩, hw.grown (m := []) none hgr (fun b hb => by cases hb) (by rw [← hcur]; exact hh) (.inl hb), .inl ?_⟩
      · have := congrArg Array.size hcur
        rw [hsz] at this
        simp [cu8, hl, hk] at this
        simp; omega
      · simp [execOp, resolve, invoke, he, he', builtin, hrun]
end Go.Sx
namespace Go.Proofs.YtkdpdgpphpngeaaDoor
open Go Go.Sx
def blkL (b : List UInt8) : List UInt8 := if 64 < b.length then spl (zr8 64) 0 (sumG constL initL b) else spl (zr8 64) 0 b
theorem E4 (b : List UInt8) : (blkL b).length = 64 := by
  unfold blkL
  split
  · rw [spl_len (by rw [DY, AP]; omega), AP]
  · rw [spl_len (by rw [AP]; omega), AP]
theorem spl_zr (v : List UInt8) {n : Nat} (h : v.length = n) : spl (zr8 64) 0 v = v ++ zr8 (64 - n) := by
 subst h
 rw [spl, List.take_zero, List.nil_append, Nat.zero_add, zr8, zr8, List.drop_replicate]
theorem blkL_big {b : List UInt8} (h : 64 < b.length) : blkL b = sumG constL initL b ++ zr8 32 := by
 rw [blkL, if_pos h, spl_zr _ (DY _ _ _)]
theorem blkL_small {b : List UInt8} (h : b.length ≤ 64) : blkL b = b ++ zr8 (64 - b.length) := by
 rw [blkL, if_neg (by omega), spl_zr _ rfl]
def xbN (b : List UInt8) (x : UInt8) : Nat → List UInt8
 | 0 => b
 | k + 1 => (xbN b x k).set k (g8 (xbN b x k) k ^^^ x)
theorem xbN_len (b : List UInt8) (x : UInt8) : ∀ k, (xbN b x k).length = b.length
 | 0 => rfl
 | k + 1 => by rw [xbN, List.length_set, xbN_len b x k]
theorem xbN_len64 {b : List UInt8} (x : UInt8) (k : Nat) (h : b.length = 64) : (xbN b x k).length = 64 := (xbN_len b x k).trans h
theorem xbN_get (b : List UInt8) (x : UInt8) : ∀ k, k ≤ b.length → ∀ j, g8 (xbN b x k) j = if j < k then g8 b j ^^^ x else g8 b j
  | 0, _, j => by simp [xbN]
  | k + 1, h, j => by
    rw [xbN, g8_set _ _ _ _ (by rw [xbN_len]; omega)]
    by_cases hj : k = j
    · subst hj; rw [if_pos rfl, if_pos (by omega), xbN_get b x k (by omega), if_neg (by omega)]
    · rw [if_neg hj, xbN_get b x k (by omega)]
      by_cases h2 : j < k
      · rw [if_pos h2, if_pos (by omega)]
      · rw [if_neg h2, if_neg (by omega)]
def raN (b : List UInt8) (x : UInt8) : Nat → List UInt8
 | 0 => []
 | k + 1 => raN b x k ++ [g8 b k ^^^ x]
theorem raN_len (b : List UInt8) (x : UInt8) : ∀ k, (raN b x k).length = k
 | 0 => rfl
 | k + 1 => by rw [raN, List.length_append, raN_len b x k]; rfl
theorem raN_get (b : List UInt8) (x : UInt8) : ∀ k j, j < k → g8 (raN b x k) j = g8 b j ^^^ x
  | 0, j, h => by omega
  | k + 1, j, h => by
    rw [raN]
    by_cases hj : j < k
    · rw [g8_app, raN_len, if_pos hj, raN_get b x k j hj]
    · obtain rfl : j = k := by omega
      rw [g8_app, raN_len, if_neg (by omega), Nat.sub_self]; rfl
theorem raN_xbN {b : List UInt8} (x : UInt8) (h : b.length = 64) : raN b x 64 = xbN b x 64 :=
 ext8 (by rw [raN_len, xbN_len, h]) fun j hj => by
  rw [raN_len] at hj
  rw [raN_get b x 64 j hj, xbN_get b x 64 (by omega), if_pos hj]
def macL (b t : List UInt8) : List UInt8 := sumG constL initL (xbN (blkL b) 92 64 ++ sumG constL initL (xbN (blkL b) 54 64 ++ t))
theorem EB (b t : List UInt8) : (macL b t).length = 32 := DY _ _ _
def orN (x y : List UInt8) : Nat → UInt8
 | 0 => 0
 | i + 1 => orN x y i ||| (g8 x i ^^^ g8 y i)
theorem or_zero {a b : UInt8} : (a ||| b = 0) ↔ a = 0 ∧ b = 0 := by
  constructor
  · intro h
    have h2 : a.toBitVec ||| b.toBitVec = 0 := by
      have := congrArg UInt8.toBitVec h
      simpa using this
    have ha : a.toBitVec = 0 := by
      apply BitVec.eq_of_getElem_eq
      intro i hi
      have := congrArg (fun v => v[i]) h2
      simp at this
      simpa using this.1
    have hb : b.toBitVec = 0 := by
      apply BitVec.eq_of_getElem_eq
      intro i hi
      have := congrArg (fun v => v[i]) h2
      simp at this
      simpa using this.2
    exact ⟨UInt8.toBitVec_inj.1 ha, UInt8.toBitVec_inj.1 hb⟩
  · rintro ⟨rfl, rfl⟩; rfl
theorem xor_zero {a b : UInt8} : (a ^^^ b = 0) ↔ a = b := UInt8.xor_eq_zero_iff
theorem orN_zero (x y : List UInt8) : ∀ n, (orN x y n = 0) ↔ ∀ i, i < n → g8 x i = g8 y i
  | 0 => by simp [orN]
  | n + 1 => by
    rw [orN, or_zero, xor_zero, orN_zero x y n]
    constructor
    · rintro ⟨h1, h2⟩ i hi
      by_cases h : i = n
      · subst h; exact h2
      · exact h1 i (by omega)
    · intro h; exact ⟨fun i hi => h i (by omega), h n (by omega)⟩
theorem orN_same {x y : List UInt8} {n : Nat} (hx : x.length = n) (hy : y.length = n) : decide (orN x y n = 0) = decide (x = y) := by
  have : (orN x y n = 0) ↔ x = y := by
    rw [orN_zero]
    constructor
    · intro h; exact ext8 (by rw [hx, hy]) fun j hj => h j (by omega)
    · rintro rfl _ _; rfl
  by_cases h : x = y
  · rw [decide_eq_true h, decide_eq_true (this.2 h)]
  · rw [decide_eq_false h, decide_eq_false (fun h2 => h (this.1 h2))]
theorem numK_byteT (n : Nat) : numK 1 (UInt64.ofNat n) 1 = [UInt8.ofNat n] := by rw [numK_one, u8_of]
def tktN (k ni ns : Nat) : Nat := if k = 3 then 25 else 18 + 4*ni + 56*ns
theorem EX {pv ep : UInt64} {k : Nat} {l : List UInt64} {ls : List SealR} {bl : UInt64} {ni ns : Nat} (hl : l.length = ni) (hls : ls.length = ns) : (tktT pv ep k l ls bl).length = tktN k ni ns := by
  unfold tktT tktN
  split
  · simp only [List.length_append, C3]
  · simp only [List.length_append, C3, idxT_len, selT_len, hl, hls]
def tkG (key : List UInt8) (pv ep : UInt64) (k : Nat) (l : List UInt64) (ls : List SealR) (bl : UInt64) : List UInt8 := mid (macL key (tktT pv ep k l ls bl)) 0 16
theorem CL (key : List UInt8) (pv ep : UInt64) (k : Nat) (l : List UInt64) (ls : List SealR) (bl : UInt64) : (tkG key pv ep k l ls bl).length = 16 := E3 (by rw [EB]; omega)
theorem tkG_of (key : List UInt8) (pv ep : UInt64) (k : Nat) (l : List UInt64) (ls : List SealR) (bl : UInt64) : mid (macL key [tktT pv ep k l ls bl].flatten) 0 16 = tkG key pv ep k l ls bl := by
 unfold tkG; simp
def chkG (key : List UInt8) (pv ep : UInt64) (k : Nat) (l : List UInt64) (ls : List SealR) (bl : UInt64) (tg : List UInt8) : Nat := if tg = tkG key pv ep k l ls bl then 0 else 4
theorem chk_tk (key : List UInt8) (pv ep : UInt64) (k : Nat) (l : List UInt64) (ls : List SealR) (bl : UInt64) {tg : List UInt8} (ht : tg.length = 16) :
  (decide (tg = macL key [tktT pv ep k l ls bl].flatten) || decide (tg = mid (macL key [tktT pv ep k l ls bl].flatten) 0 16)) = decide (tg = tkG key pv ep k l ls bl) := by
 rw [tkG_of, decide_eq_false, Bool.false_or]
 intro h
 have := congrArg List.length h
 rw [EB, ht] at this
 omega
theorem chk_eq (key : List UInt8) (pv ep : UInt64) (k : Nat) (l : List UInt64) (ls : List SealR) (bl : UInt64) (tg : List UInt8) : (decide (chkG key pv ep k l ls bl tg = 0) == decide (tkG key pv ep k l ls bl = tg)) = true := by
  unfold chkG
  split
  · rename_i h; rw [← h]; simp
  · rename_i h
    have h2 : ¬ tkG key pv ep k l ls bl = tg := fun e => h e.symm
    simp [h2]
section
variable {C : Cx} {F : Frm} {L : List Ent}
theorem one_rows : ∀ (ls : List SealR), ∀ v ∈ ls.flatMap sealC, v.oneCell' = true := fun ls v hv => by
 obtain ⟨z, _, hz⟩ := List.mem_flatMap.1 hv
 exact one_seal z v hz
theorem Step_cloneS {x y : Operand} {ty : TypeId} (t e bytes : Nat) (zv : Value) (m : List Bool) (nb : Nat) (ls : List SealR) (ao : Option Addr) (k c : Nat)
  (hu : C.P.underlying t = some (.slice e)) (hi : (C.P.info? e).map (fun i => (i.zero, i.size, i.bytes)) = some (some zv, 49, bytes)) (hzs : zv.cells.size = 49)
  (hx : ev F x = some (Slc nb 0 0 0)) (ht : take? m L = [⟨nb, [], e, (0, 0)⟩]) (hy : ev F y = some (.slice ao k c)) (hl : ls.length = k) (hm : SrcAt C L ao (ls.flatMap sealC)) (hmax : k * bytes ≤ 140737488355328) (hmax' : k ≤ maxLen) :
  Step C F L (.call { callee := .builtin .append, args := #[x, y], argTypes := #[t, t] }) ty fun v' L' => ∃ g sp cap, (C.w0.heap.size ≤ g ∨ g ∈ C.M) ∧ v' = Slc g 0 k cap ∧ L' = rest? m L ++ [⟨g, ls.flatMap sealC ++ sp, e, (0, 0)⟩] ∧ sp.length = cap * 49 - k * 49 ∧ k ≤ cap ∧ cap ≤ maxLen := by
 have h := Step_append (C := C) (F := F) (L := L) (x := x) (y := y) (ty := ty) t e 49 bytes zv m (Slc nb 0 0 0) 0 [] (ls.flatMap sealC) ao k c hu hi hzs (by decide) hx (.inr ⟨nb, [], 0, rfl, ht, rfl, rfl, Nat.le_refl _, Nat.zero_le _⟩) hy (by rw [rows_len, hl]) hm (one_rows ls) (by rw [Nat.zero_add]; exact hmax) (by omega)
 intro a w ha hw d pos aft g Kk Q hq
 refine h a w ha hw d pos aft g Kk Q ?_
 rintro v' L' w' ⟨g, sp, cap, h1, h2, h3, h4, h5, h6, h7⟩ hw'
 rw [List.nil_append] at h3 h4 h5
 rw [Nat.zero_add] at h2 h4 h6
 refine hq v' L' w' ⟨g, sp, cap, h1, h2, h3, ?_, h6, h7⟩ hw'
 rw [List.length_append, h4] at h5
 omega
end
end Go.Proofs.YtkdpdgpphpngeaaDoor
namespace Go.Proofs.YtkdpdgpphpngeaaDoor
open Go Go.Sx Go.RowKit
open Go.ChangeShapes Go.WideShapes
section
variable {H : Type} {enc : TypeId × Value → H} {P : Program} {w : World} {base : Nat} {spare : Nat → Bool} {held : Bool} {sz : Bool} {t : TypeId} {cs : List Value}
theorem flat64 (l : List UInt64) : l.flatMap (fun a => [U64 a]) = cu64 l := by
 induction l with
 | nil => rfl
 | cons a l ih => rw [List.flatMap_cons, ih]; rfl
theorem TD.sl64 {e : Nat} (ht : P.underlying t = some (.slice e)) (he : P.underlying e = some (.int .u64)) (hs : P.cellsOf e = 1) (hb : P.bytesOf e ≠ 0) (h : TD enc P w base spare held sz t cs) :
  ∃ (ao : Option Addr) (n c : Nat) (l : List UInt64), cs = [.slice ao n c] ∧ l.length = n ∧ (ao = none → c = 0) ∧ (n ≤ c ∧ c ≤ maxLen) ∧ RdV w ao (cu64 l) := by
 obtain ⟨ao, n, c, al, h1, h2, h3, h4, h5, h6, h7⟩ := TD.rows (f := fun a : UInt64 => [U64 a]) (G := fun _ => True) (b := P.bytesOf e) ht hs (by decide) rfl (Nat.pos_of_ne_zero hb) (fun _ => rfl) (fun cs' hcs => by
  obtain ⟨a, ha⟩ := TD.u64 he hcs
  exact ⟨a, ha, trivial⟩) h
 rw [flat64] at h6
 exact ⟨ao, n, c, al, h1, h2, h4, h5, h6⟩
theorem TD.slSeal {e c64 a32 a16 u8 : TypeId} {fs : Array Field} (ht : P.underlying t = some (.slice e)) (hs : P.cellsOf e = 49) (hb : P.bytesOf e ≠ 0) (hst : P.underlying e = some (.struct fs))
  (f0 : (fs[0]?).map (fun f => (f.offset, f.type)) = some (0, c64)) (f1 : (fs[1]?).map (fun f => (f.offset, f.type)) = some (1, a32)) (f2 : (fs[2]?).map (fun f => (f.offset, f.type)) = some (33, a16))
  (uc : P.underlying c64 = some (.int .u64)) (ud : P.underlying a32 = some (.array 32 u8)) (ut : P.underlying a16 = some (.array 16 u8)) (uu : P.underlying u8 = some (.int .u8)) (cc : P.cellsOf c64 = 1) (cd : P.cellsOf a32 = 32) (ct : P.cellsOf a16 = 16) (cu : P.cellsOf u8 = 1)
  (h : TD enc P w base spare held sz t cs) :
  ∃ (ao : Option Addr) (n c : Nat) (ls : List SealR), cs = [.slice ao n c] ∧ ls.length = n ∧ (ao = none → c = 0) ∧ (n ≤ c ∧ c ≤ maxLen) ∧ RdV w ao (ls.flatMap sealC) := by
 obtain ⟨ao, n, c, al, h1, h2, h3, h4, h5, h6, h7⟩ := TD.rows (f := sealC) (G := fun _ => True) (b := P.bytesOf e) ht hs (by decide) rfl (Nat.pos_of_ne_zero hb) FR (fun cs' hcs => by
  have hl : cs'.length = 49 := (TD.slen hst hcs).trans hs
  obtain ⟨x, e0⟩ := TD.u64 uc (GG 0 0 c64 1 hst f0 cc hcs)
  obtain ⟨d, e1, k1⟩ := TD.arr8 ud uu cu cd (GG 1 1 a32 32 hst f1 cd hcs)
  obtain ⟨q, e2, k2⟩ := TD.arr8 ut uu cu ct (GG 2 33 a16 16 hst f2 ct hcs)
  exact ⟨⟨x, d, q, k1, k2⟩, cat_end (cat_step (cat_step (cat0 e0) e1 rfl) e2 rfl) hl, trivial⟩) h
 exact ⟨ao, n, c, al, h1, h2, h4, h5, h6⟩
end
theorem RightO_cases {kd : Int} {l : List UInt64} {ls : List SealR} {bl : UInt64} (h : RightO kd l ls bl = true) :
    (kd = 1 ∧ 1 ≤ l.length ∧ ls.length = l.length) ∨ (kd = 2 ∧ 1 ≤ l.length ∧ ls.length = 0) ∨ (kd = 3 ∧ l.length = 0 ∧ ls.length = 0) := by
  unfold RightO at h
  split at h
  · rename_i hk
    simp only [Bool.and_eq_true, decide_eq_true_eq] at h
    have := h.2.1.1
    exact .inl ⟨hk, by omega, h.2.2.1⟩
  · split at h
    · rename_i hk
      simp only [Bool.and_eq_true, decide_eq_true_eq] at h
      have := h.2.1.1
      exact .inr (.inl ⟨hk, by omega, h.2.2⟩)
    · split at h
      · rename_i hk
        simp only [Bool.and_eq_true, decide_eq_true_eq] at h
        exact .inr (.inr ⟨hk, by omega, by omega⟩)
      · exact absurd h (by decide)
theorem RightO_len {kd : Int} {l : List UInt64} {ls : List SealR} {bl : UInt64} (h : RightO kd l ls bl = true) : l.length ≤ 256 := by
  rcases RightO_cases h with ⟨hk, _, _⟩ | ⟨hk, _, _⟩ | ⟨_, h1, _⟩
  · have := (RightI_pos (RightO_idx h (.inl hk))).2; omega
  · have := (RightI_pos (RightO_idx h (.inr hk))).2; omega
  · omega
theorem tktN_le {k ni ns : Nat} (h1 : ni ≤ 300) (h2 : ns ≤ 300) : tktN k ni ns ≤ 30000 := by
 unfold tktN; split <;> omega
theorem large_not {n m : Nat} (h : ¬ LargeP n m) : n ≤ 300 ∧ m ≤ 300 := by
 unfold LargeP at h; omega
end Go.Proofs.YtkdpdgpphpngeaaDoor
namespace Go.Proofs.YtkdpdgpphpngeaaDoor
open Go Go.Sx
def ySeal (z : List UInt8) : SealR :=
 if h : 56 ≤ z.length then ⟨valK z 8, mid (z.drop 8) 0 32, mid ((z.drop 8).drop 32) 0 16, E3 (by rw [List.length_drop]; omega), E3 (by rw [List.length_drop, List.length_drop]; omega)⟩
 else ⟨0, zr8 32, zr8 16, AP 32, AP 16⟩
def z3T (z : List UInt8) : List UInt8 := ((z.drop 8).drop 8).drop 1
def kdT (z : List UInt8) : Nat := (valK ((z.drop 8).drop 8) 1).toNat
def nnT (z : List UInt8) : Nat := (valK (z3T z) 1).toNat + 1
def zlT (z : List UInt8) : List UInt8 := (z3T z).drop 1
def ixT (zl : List UInt8) : Nat → List UInt64
 | 0 => []
 | i + 1 => ixT zl i ++ [valK (zl.drop (4*i)) 4]
def seT (zs : List UInt8) : Nat → List SealR
 | 0 => []
 | j + 1 => seT zs j ++ [ySeal (zs.drop (56*j))]
def nsT (z : List UInt8) : Nat := if kdT z = 1 then nnT z else 0
def zsT (z : List UInt8) : List UInt8 := (zlT z).drop (4 * nnT z)
def lT (z : List UInt8) : List UInt64 := if kdT z = 3 then [] else ixT (zlT z) (nnT z)
def lsT (z : List UInt8) : List SealR := if kdT z = 1 then seT (zsT z) (nnT z) else []
def blT (z : List UInt8) : UInt64 := if kdT z = 3 then valK (z3T z) 8 else 0
def LenT (z : List UInt8) : Prop := 17 ≤ z.length ∧ ((kdT z = 3 ∧ 41 ≤ z.length) ∨ ((kdT z = 1 ∨ kdT z = 2) ∧ 18 ≤ z.length ∧ 34 + 4 * nnT z + 56 * nsT z ≤ z.length))
instance (z : List UInt8) : Decidable (LenT z) := by unfold LenT; infer_instance
def OkT (z : List UInt8) : Prop := LenT z ∧ mayN (valK z 8) (valK (z.drop 8) 8) (kdT z : Int) (lT z) (lsT z) (blT z) = 0
instance (z : List UInt8) : Decidable (OkT z) := by unfold OkT; infer_instance
theorem mayN_kd {pv ep : UInt64} {kd : Int} {l : List UInt64} {ls : List SealR} {bl : UInt64} (h : kd ≠ 1 ∧ kd ≠ 2 ∧ kd ≠ 3) : mayN pv ep kd l ls bl = 2 := by
  have hR : ¬ RightO kd l ls bl = true := fun e => by
    rcases RightO_cases e with h1 | h1 | h1
    · exact h.1 h1.1
    · exact h.2.1 h1.1
    · exact h.2.2 h1.1
  unfold mayN; rw [if_neg hR]
theorem bnotT {b : Bool} (h : b = true) : (!b) = false := by rw [h]; rfl
theorem bnotF {b : Bool} (h : b = false) : (!b) = true := by rw [h]; rfl
def eQ (z0 : List UInt8) (p : Nat) : Nat := if p ≤ z0.length then 0 else 2
def vQ (z0 : List UInt8) (p s : Nat) : UInt64 := if p + s ≤ z0.length then valK (z0.drop p) s else 0
def bQ (z0 : List UInt8) (p s : Nat) : List UInt8 := if p + s ≤ z0.length then mid (z0.drop p) 0 s else zr8 s
theorem B5 (z0 : List UInt8) (p s : Nat) : (bQ z0 p s).length = s := by
  unfold bQ
  by_cases h : p + s ≤ z0.length
  · rw [if_pos h]; exact E3 (by rw [List.length_drop]; omega)
  · rw [if_neg h]; exact AP s
theorem bQ_neg {z0 : List UInt8} {p s : Nat} (h : ¬ p + s ≤ z0.length) : bQ z0 p s = zr8 s := if_neg h
theorem vQ_lt1 (z0 : List UInt8) (p : Nat) : (vQ z0 p 1).toNat < 256 := by
  unfold vQ
  by_cases h : p + 1 ≤ z0.length
  · rw [if_pos h, valK_one]
    have := (g8 (z0.drop p) 0).toNat_lt
    simpa using this
  · rw [if_neg h]; decide
def sQ (z0 : List UInt8) (p : Nat) : SealR := ⟨vQ z0 p 8, bQ z0 (p + 8) 32, bQ z0 (p + 40) 16, B5 _ _ _, B5 _ _ _⟩
theorem sQ_eq (z0 : List UInt8) (p : Nat) (h1 : (bQ z0 (p + 8) 32).length = 32) (h2 : (bQ z0 (p + 40) 16).length = 16) : SealR.mk (vQ z0 p 8) (bQ z0 (p + 8) 32) (bQ z0 (p + 40) 16) h1 h2 = sQ z0 p := rfl
def ixQ (z0 : List UInt8) (p : Nat) : Nat → List UInt64
 | 0 => []
 | i + 1 => ixQ z0 p i ++ [vQ z0 (p + 4*i) 4]
def seQ (z0 : List UInt8) (p : Nat) : Nat → List SealR
 | 0 => []
 | j + 1 => seQ z0 p j ++ [sQ z0 (p + 56*j)]
theorem ixQ_succ (z0 : List UInt8) (p i : Nat) : ixQ z0 p (i + 1) = ixQ z0 p i ++ [vQ z0 (p + 4*i) 4] := rfl
theorem ixQ_one (z0 : List UInt8) (p : Nat) : ixQ z0 p 1 = [vQ z0 p 4] := rfl
theorem seQ_succ (z0 : List UInt8) (p i : Nat) : seQ z0 p (i + 1) = seQ z0 p i ++ [sQ z0 (p + 56*i)] := rfl
theorem seQ_one (z0 : List UInt8) (p : Nat) : seQ z0 p 1 = [sQ z0 p] := rfl
theorem FJ (z0 : List UInt8) (p : Nat) : ∀ i, (ixQ z0 p i).length = i
 | 0 => rfl
 | i + 1 => by unfold ixQ; rw [List.length_append, FJ z0 p i]; rfl
theorem seQ_len (z0 : List UInt8) (p : Nat) : ∀ i, (seQ z0 p i).length = i
 | 0 => rfl
 | i + 1 => by unfold seQ; rw [List.length_append, seQ_len z0 p i]; rfl
theorem eQ_zero {z0 : List UInt8} {p : Nat} : eQ z0 p = 0 ↔ p ≤ z0.length := by
  unfold eQ
  by_cases h : p ≤ z0.length
  · rw [if_pos h]; exact ⟨fun _ => h, fun _ => rfl⟩
  · rw [if_neg h]; exact ⟨fun e => absurd e (by decide), fun e => absurd e h⟩
theorem eQ_ok {z0 : List UInt8} {p : Nat} (h : p ≤ z0.length) : eQ z0 p = 0 := eQ_zero.2 h
theorem eQ_bad {z0 : List UInt8} {p : Nat} (h : ¬ p ≤ z0.length) : eQ z0 p = 2 := if_neg h
def Lq (z0 z : List UInt8) (p : Nat) : Prop := p ≤ z0.length → z = z0.drop p
theorem Lq.zero (z0 : List UInt8) : Lq z0 z0 0 := fun _ => rfl
theorem Lq.len {z0 z : List UInt8} {p : Nat} (h : Lq z0 z p) (hp : p ≤ z0.length) : z.length = z0.length - p := by rw [h hp, List.length_drop]
theorem NuOk_q {z0 z : List UInt8} {p s : Nat} (h : Lq z0 z p) (hs : Szd (s : Int)) : NuOk z (eQ z0 p) (s : Int) ↔ p + s ≤ z0.length := by
  unfold NuOk
  rw [eQ_zero]
  constructor
  · rintro ⟨h1, _, h3⟩; have := h.len h1; omega
  · intro h1; have := h.len (by omega); exact ⟨by omega, hs, by omega⟩
theorem okE_q {z0 : List UInt8} {p s : Nat} {q : Prop} [Decidable q] (h : q ↔ p + s ≤ z0.length) : okE (eQ z0 p) (decide q) = eQ z0 (p + s) := by
  by_cases hq : q
  · rw [decide_eq_true hq, eQ_ok (h.1 hq)]; rfl
  · rw [decide_eq_false hq, eQ_bad (fun e => hq (h.2 e))]
    show erN (eQ z0 p) 2 = 2
    unfold eQ
    by_cases hp : p ≤ z0.length
    · rw [if_pos hp]; rfl
    · rw [if_neg hp]; rfl
theorem nuV_q {z0 z : List UInt8} {p s : Nat} (h : Lq z0 z p) (hs : Szd (s : Int)) : nuV z (eQ z0 p) (s : Int) = vQ z0 p s := by
  unfold nuV vQ
  by_cases hq : p + s ≤ z0.length
  · rw [if_pos ((NuOk_q h hs).2 hq), if_pos hq, h (by omega)]; rfl
  · rw [if_neg (fun e => hq ((NuOk_q h hs).1 e)), if_neg hq]
theorem nuZ_q {z0 z : List UInt8} {p s : Nat} (h : Lq z0 z p) (hs : Szd (s : Int)) : Lq z0 (nuZ z (eQ z0 p) (s : Int)) (p + s) := fun hq => by
 unfold nuZ
 rw [if_pos ((NuOk_q h hs).2 hq), h (by omega), List.drop_drop]; rfl
attribute [local irreducible] mid zr8 zr32 numK rnK valK rotr wordL spreadL comprL cpN adN spN wrdN constL initL padL stN outN routN sumG putL
theorem pright_c (ai : Option Addr) (ni ci : Nat) (l : List UInt64)  (w : World) (hl : l.length = ni) (hnm : ni ≤ 2000000) (hnc : ni ≤ ci) (hcm : ci ≤ maxLen) (hv : RdV w ai (cu64 l))  : Calls Tryd.prog 85 #[I64 32, .slice ai ni ci] w (Post w [] (fun v L => v = .bool (decide (RightI l)) ∧ L = [])) := by
 have hmx : maxLen = 9223372036854775807 := rfl
 refine enter w [] 48 [] [I64 32, .slice ai ni ci] Tryd.func85 rfl rfl (by simp) (BZ (by simp) (by simp) (by simp)) ?_
 show JC _ _ _ [(0, I64 32), (1, .slice ai ni ci)] _
 refine AI (AD (AA _ (AG rfl) rfl ?_))
 refine AN (AE (AI (AI (AD (AA _ (AH rfl) rfl ?_)))))
 refine AA (.bool (decide ((32:Int) < (0:Int)))) (AR rfl rfl fun _ => CS _ _) rfl ?_
 refine AA _ (AH rfl) rfl ?_
 refine A0 2 9 false _ _ rfl rfl (by decide) (AH rfl) rfl ?_
 refine A0 2 9 false _ (.bool (decide ((32:Int) < (32:Int)))) rfl rfl (by decide) (AR rfl rfl fun _ => FL _ _) rfl ?_
 refine AA _ (BU _ rfl (by decide) rfl) rfl ?_
 refine AA _ (AH rfl) rfl ?_
 refine A0 6 13 false _ _ rfl rfl (by decide) (AH rfl) rfl ?_
 refine A0 6 13 false _ (I64 ni) rfl rfl (by decide) (EL CA rfl) rfl ?_
 refine A0 6 13 false _ (.bool (decide (((ni:Int)) < (1:Int)))) rfl rfl (by decide) (AR rfl rfl fun _ => CS _ _) rfl ?_
 refine AA _ (BU _ rfl (by decide) rfl) rfl ?_
 refine AA _ (AH rfl) rfl ?_
 rcases Bool.eq_false_or_eq_true (decide (((ni:Int)) < (1:Int))) with hb1 | hb1
 ·
  have hp1 : ((ni:Int)) < (1:Int) := of_decide_eq_true hb1
  refine AQ 11 18 false _ rfl rfl hb1 rfl ?_
  refine AQ 11 18 false _ rfl rfl hb1 rfl ?_
  refine AQ 11 18 false _ rfl rfl hb1 rfl ?_
  refine AA _ (CN _ rfl hb1 rfl) rfl ?_
  refine AN (AE (DJ _ rfl rfl ?_))
  refine AI (AD (AA _ (AG rfl) rfl ?_))
  refine AN (AE (BP (BN (BQ (.bool false) (res1 Tryd.results85 (B2 rfl)) fun w1 hw1 => ?_))))
  refine ⟨_, [], rfl, ⟨congrArg Value.bool (Eq.symm (decide_eq_false (fun h => ?_))), rfl⟩, hw1.sub (by simp) (by simp)⟩
  first | (have := h.1; omega) | (have := h.2.1; omega) | exact h.2.2 i (by omega) (.inl ‹_›) | exact h.2.2 i (by omega) (.inr ⟨by omega, ‹_›⟩) | exact h.2.2 i (by omega) (.inl ((shr32 _).1 ‹_›))
 ·
  have hp1 : ¬ (((ni:Int)) < (1:Int)) := of_decide_eq_false hb1
  refine A0 11 18 false _ _ rfl rfl hb1 (AH rfl) rfl ?_
  refine A0 11 18 false _ (I64 ni) rfl rfl hb1 (EL CA rfl) rfl ?_
  refine A0 11 18 false _ (.bool (decide ((256:Int) < ((ni:Int))))) rfl rfl hb1 (AR rfl rfl fun _ => FL _ _) rfl ?_
  refine AA _ (BU _ rfl hb1 rfl) rfl ?_
  refine AN (AE (CY (decide ((256:Int) < ((ni:Int)))) rfl (fun hb2 => ?_) (fun hb2 => ?_)))
  ·
   have hp2 : (256:Int) < ((ni:Int)) := of_decide_eq_true hb2
   refine AI (AD (AA _ (AG rfl) rfl ?_))
   refine AN (AE (BP (BN (BQ (.bool false) (res1 Tryd.results85 (B2 rfl)) fun w1 hw1 => ?_))))
   refine ⟨_, [], rfl, ⟨congrArg Value.bool (Eq.symm (decide_eq_false (fun h => ?_))), rfl⟩, hw1.sub (by simp) (by simp)⟩
   first | (have := h.1; omega) | (have := h.2.1; omega) | exact h.2.2 i (by omega) (.inl ‹_›) | exact h.2.2 i (by omega) (.inr ⟨by omega, ‹_›⟩) | exact h.2.2 i (by omega) (.inl ((shr32 _).1 ‹_›))
  ·
   have hp2 : ¬ ((256:Int) < ((ni:Int))) := of_decide_eq_false hb2
   refine BT (AE (AI (AI (AD (AA _ (AH rfl) rfl ?_)))))
   refine AA (I64 ni) (EL CA rfl) rfl ?_
   refine AA _ (AH rfl) rfl ?_
   refine AN (AE (BY (EE (ι := Nat) (fun i => [(0, I64 32), (1, .slice ai ni ci), (23, .slice ai ni ci), (24, I64 ni), (25, I64 i)]) (fun i => []) (fun i => i ≤ ni ∧ ∀ k, k < i → ¬ IdxBad l k) (fun i => ni - i) 0 ⟨by omega, fun k hk => absurd hk (by omega)⟩ (Sub.all rfl) rfl ?_)))
   rintro i ⟨hx1, hx2⟩
   show JC _ _ _ [(0, I64 32), (1, .slice ai ni ci), (23, .slice ai ni ci), (24, I64 ni), (25, I64 i)] []
   refine AI (AD (AA (.bool (decide (((i:Int)) < ((ni:Int))))) (AR rfl rfl fun _ => CS _ _) rfl ?_))
   refine AN (AE (AI (CY (decide (((i:Int)) < ((ni:Int)))) rfl (fun hb3 => ?_) (fun hb3 => ?_))))
   ·
    have hp3 : ((i:Int)) < ((ni:Int)) := of_decide_eq_true hb3
    refine BT (AE (AI (BY (AI (AD (AA _ (AH rfl) rfl ?_))))))
    obtain ⟨bz1, oz1, hz1, hm1⟩ := RdV.pos hv (by rw [F4, hl]; omega)
    refine AA (Ptr bz1 (i + oz1)) (D9 22 1 (i + oz1) CA AU rfl hz1 rfl (by omega) (by omega) (by omega)) rfl ?_
    refine AA (U64 (g64 l i)) (AK rfl (AV AX (C8 (hm1.mem (by simp)) (Seg.get (g64_get (i := i) (by rw [hl]; omega))) (by omega)))) rfl ?_
    refine AA _ (AG rfl) rfl ?_
    refine AA _ (AG rfl) rfl ?_
    refine AN (AE (AI (AD (AA _ (AH rfl) rfl ?_))))
    refine AA _ (AH rfl) rfl ?_
    refine AA (U64 ((g64 l i) >>> (32:UInt64))) (AR rfl rfl fun _ => FD (g64 l i) _ _ 32 (by decide) rfl) rfl ?_
    refine AA (.bool (decide (((g64 l i) >>> (32:UInt64)) ≠ (0:UInt64)))) (AR rfl rfl fun _ => bin_neq_u64 ((g64 l i) >>> (32:UInt64)) (0:UInt64)) rfl ?_
    refine AA _ (AH rfl) rfl ?_
    rcases Bool.eq_false_or_eq_true (decide (((g64 l i) >>> (32:UInt64)) ≠ (0:UInt64))) with hb4 | hb4
    ·
     have hp4 : ((g64 l i) >>> (32:UInt64)) ≠ (0:UInt64) := of_decide_eq_true hb4
     refine AQ 4 34 false _ rfl rfl hb4 rfl ?_
     refine AQ 4 34 false _ rfl rfl hb4 rfl ?_
     refine AQ 4 34 false _ rfl rfl hb4 rfl ?_
     refine FG 7 37 true rfl rfl rfl ?_
     refine FG 7 37 true rfl rfl rfl ?_
     refine FG 7 37 true rfl rfl rfl ?_
     refine FG 7 37 true rfl rfl rfl ?_
     refine FG 7 37 true rfl rfl rfl ?_
     refine FG 7 37 true rfl rfl rfl ?_
     refine FG 7 37 true rfl rfl rfl ?_
     refine AQ 4 34 false _ rfl rfl hb4 rfl ?_
     refine AA _ (CN _ rfl hb4 rfl) rfl ?_
     refine AN (AE (DJ _ rfl rfl ?_))
     refine AI (AD (AA _ (AG rfl) rfl ?_))
     refine AN (AE (BP (DV (BN (BN (DV (BN (BQ (.bool false) (res1 Tryd.results85 (B2 rfl)) fun w1 hw1 => ?_))))))))
     refine ⟨_, [], rfl, ⟨congrArg Value.bool (Eq.symm (decide_eq_false (fun h => ?_))), rfl⟩, hw1.sub (by simp) (by simp)⟩
     first | (have := h.1; omega) | (have := h.2.1; omega) | exact h.2.2 i (by omega) (.inl ‹_›) | exact h.2.2 i (by omega) (.inr ⟨by omega, ‹_›⟩) | exact h.2.2 i (by omega) (.inl ((shr32 _).1 ‹_›))
    ·
     have hp4 : ¬ (((g64 l i) >>> (32:UInt64)) ≠ (0:UInt64)) := of_decide_eq_false hb4
     refine A0 4 34 false _ _ rfl rfl hb4 (AH rfl) rfl ?_
     refine A0 4 34 false _ (.bool (decide ((0:Int) < ((i:Int))))) rfl rfl hb4 (AR rfl rfl fun _ => FL _ _) rfl ?_
     refine A0 4 34 false _ _ rfl rfl hb4 (AH rfl) rfl ?_
     rcases Bool.eq_false_or_eq_true (decide ((0:Int) < ((i:Int)))) with hb5 | hb5
     ·
      have hp5 : (0:Int) < ((i:Int)) := of_decide_eq_true hb5
      refine A0 7 37 true _ _ rfl rfl hb5 (AH rfl) rfl ?_
      refine A0 7 37 true _ _ rfl rfl hb5 (AH rfl) rfl ?_
      refine A0 7 37 true _ (I64 ((i:Int) - 1)) rfl rfl hb5 (AR rfl rfl fun _ => DD _ _ ((i:Int) - 1) (by omega) (by omega)) rfl ?_
      refine A0 7 37 true _ (Ptr bz1 (i + oz1 - 1)) rfl rfl hb5 (D9 22 1 (i + oz1 - 1) CA AU rfl hz1 rfl (by omega) (by omega) (by omega)) rfl ?_
      refine A0 7 37 true _ (U64 (g64 l (i - 1))) rfl rfl hb5 (AK rfl (AV AX (C8 (hm1.mem (by simp)) (Seg.get (g64_get (i := (i - 1)) (by rw [hl]; omega))) (by omega)))) rfl ?_
      refine A0 7 37 true _ _ rfl rfl hb5 (AH rfl) rfl ?_
      refine A0 7 37 true _ (.bool (decide ((g64 l i) ≤ (g64 l (i - 1))))) rfl rfl hb5 (AR rfl rfl fun _ => bin_geq_u64 (g64 l (i - 1)) (g64 l i)) rfl ?_
      refine A0 4 34 false _ _ rfl rfl hb4 (CN _ rfl hb5 rfl) rfl ?_
      refine AA _ (BU _ rfl hb4 rfl) rfl ?_
      refine AN (AE (CY (decide ((g64 l i) ≤ (g64 l (i - 1)))) rfl (fun hb6 => ?_) (fun hb6 => ?_)))
      ·
       have hp6 : (g64 l i) ≤ (g64 l (i - 1)) := of_decide_eq_true hb6
       refine AI (AD (AA _ (AG rfl) rfl ?_))
       refine AN (AE (BP (DV (BN (BN (DV (BN (BQ (.bool false) (res1 Tryd.results85 (B2 rfl)) fun w1 hw1 => ?_))))))))
       refine ⟨_, [], rfl, ⟨congrArg Value.bool (Eq.symm (decide_eq_false (fun h => ?_))), rfl⟩, hw1.sub (by simp) (by simp)⟩
       first | (have := h.1; omega) | (have := h.2.1; omega) | exact h.2.2 i (by omega) (.inl ‹_›) | exact h.2.2 i (by omega) (.inr ⟨by omega, ‹_›⟩) | exact h.2.2 i (by omega) (.inl ((shr32 _).1 ‹_›))
      ·
       have hp6 : ¬ ((g64 l i) ≤ (g64 l (i - 1))) := of_decide_eq_false hb6
       refine BT (BO (AE (AD (AA (I64 ((i:Int) + 1)) (AR rfl rfl fun _ => DF _ _ ((i:Int) + 1) (by omega) (by omega)) rfl ?_))))
       refine AA _ (AH rfl) rfl ?_
       refine AN (DH (EP (i + 1) ⟨by omega, idx_step hx2 (fun hq => by rcases hq with hq | ⟨hq1, hq2⟩ <;> first | contradiction | omega | exact absurd ((shr32 _).2 hq) ‹_›)⟩ (by first | (simp; omega) | simp | (dsimp only; omega) | omega) (Sub.all rfl) rfl))
     ·
      have hp5 : ¬ ((0:Int) < ((i:Int))) := of_decide_eq_false hb5
      refine AQ 7 37 true _ rfl rfl hb5 rfl ?_
      refine AQ 7 37 true _ rfl rfl hb5 rfl ?_
      refine AQ 7 37 true _ rfl rfl hb5 rfl ?_
      refine AQ 7 37 true _ rfl rfl hb5 rfl ?_
      refine AQ 7 37 true _ rfl rfl hb5 rfl ?_
      refine AQ 7 37 true _ rfl rfl hb5 rfl ?_
      refine AQ 7 37 true _ rfl rfl hb5 rfl ?_
      refine A0 4 34 false _ _ rfl rfl hb4 (BU _ rfl hb5 rfl) rfl ?_
      refine AA _ (BU _ rfl hb4 rfl) rfl ?_
      refine AN (AE (CK _ rfl rfl ?_))
      refine BT (BO (AE (AD (AA (I64 ((i:Int) + 1)) (AR rfl rfl fun _ => DF _ _ ((i:Int) + 1) (by omega) (by omega)) rfl ?_))))
      refine AA _ (AH rfl) rfl ?_
      refine AN (DH (EP (i + 1) ⟨by omega, idx_step hx2 (fun hq => by rcases hq with hq | ⟨hq1, hq2⟩ <;> first | contradiction | omega | exact absurd ((shr32 _).2 hq) ‹_›)⟩ (by first | (simp; omega) | simp | (dsimp only; omega) | omega) (Sub.all rfl) rfl))
   ·
    have hp3 : ¬ (((i:Int)) < ((ni:Int))) := of_decide_eq_false hb3
    refine D8 (BB (BB (CV (AE (AI (AD (AA _ (AG rfl) rfl ?_)))))))
    refine AN (AE (BP (BQ (.bool true) (res1 Tryd.results85 (B2 rfl)) fun w1 hw1 => ?_)))
    have e1 : i = ni := by omega
    subst e1
    exact ⟨_, [], rfl, ⟨congrArg Value.bool (Eq.symm (decide_eq_true ⟨by omega, by omega, by rw [hl]; exact hx2⟩)), rfl⟩, hw1.sub (by simp) (by simp)⟩
attribute [local irreducible] RightB
theorem right_c (i e : UInt64) (w : World) : Calls Tryd.prog 133 #[U64 i, U64 e] w (Post w [] (fun v L => v = .bool (RightB i e) ∧ L = [])) := by
 refine enter w [] 15 [] [U64 i, U64 e] Tryd.func133 rfl rfl (by simp) (BZ (by simp) (by simp) (by simp)) ?_
 show JC _ _ _ [(0, U64 i), (1, U64 e)] _
 refine AI (AD (AA _ (AG rfl) rfl ?_))
 refine AN (AE (AI (AD (AA _ (AH rfl) rfl ?_))))
 refine AA (.bool (decide (i < (4294967296:UInt64)))) (AR rfl rfl fun _ => bin_lss_u64 i (4294967296:UInt64)) rfl ?_
 refine AA _ (AH rfl) rfl ?_
 rcases Bool.eq_false_or_eq_true (decide (i < (4294967296:UInt64))) with hb1 | hb1
 ·
  have hp1 : i < (4294967296:UInt64) := of_decide_eq_true hb1
  refine A0 2 7 true _ _ rfl rfl hb1 (AH rfl) rfl ?_
  refine A0 2 7 true _ (.bool (decide ((1:UInt64) ≤ e))) rfl rfl hb1 (AR rfl rfl fun _ => bin_geq_u64 e (1:UInt64)) rfl ?_
  refine AA _ (CN _ rfl hb1 rfl) rfl ?_
  refine AA _ (AH rfl) rfl ?_
  rcases Bool.eq_false_or_eq_true (decide ((1:UInt64) ≤ e)) with hb2 | hb2
  ·
   have hp2 : (1:UInt64) ≤ e := of_decide_eq_true hb2
   refine A0 6 11 true _ _ rfl rfl hb2 (AH rfl) rfl ?_
   refine A0 6 11 true _ (.bool (decide (e < (18446744073709551615:UInt64)))) rfl rfl hb2 (AR rfl rfl fun _ => bin_lss_u64 e (18446744073709551615:UInt64)) rfl ?_
   refine AA _ (CN _ rfl hb2 rfl) rfl ?_
   refine AA _ (AG rfl) rfl ?_
   refine AN (AE (BP (BQ (.bool (decide (e < (18446744073709551615:UInt64)))) (res1 Tryd.results133 (B2 rfl)) fun w1 hw1 => ?_)))
   refine ⟨_, [], rfl, ⟨congrArg Value.bool ?_, rfl⟩, hw1.sub (by simp) (by simp)⟩
   unfold RightB
   simp [*]
  ·
   have hp2 : ¬ ((1:UInt64) ≤ e) := of_decide_eq_false hb2
   refine AQ 6 11 true _ rfl rfl hb2 rfl ?_
   refine AQ 6 11 true _ rfl rfl hb2 rfl ?_
   refine AA _ (BU _ rfl hb2 rfl) rfl ?_
   refine AA _ (AG rfl) rfl ?_
   refine AN (AE (BP (BQ (.bool false) (res1 Tryd.results133 (B2 rfl)) fun w1 hw1 => ?_)))
   refine ⟨_, [], rfl, ⟨congrArg Value.bool ?_, rfl⟩, hw1.sub (by simp) (by simp)⟩
   unfold RightB
   simp [*]
 ·
  have hp1 : ¬ (i < (4294967296:UInt64)) := of_decide_eq_false hb1
  refine AQ 2 7 true _ rfl rfl hb1 rfl ?_
  refine AQ 2 7 true _ rfl rfl hb1 rfl ?_
  refine AA _ (BU _ rfl hb1 rfl) rfl ?_
  refine AA _ (AH rfl) rfl ?_
  refine AQ 6 11 true _ rfl rfl rfl rfl ?_
  refine AQ 6 11 true _ rfl rfl rfl rfl ?_
  refine AA _ (BU _ rfl rfl rfl) rfl ?_
  refine AA _ (AG rfl) rfl ?_
  refine AN (AE (BP (BQ (.bool false) (res1 Tryd.results133 (B2 rfl)) fun w1 hw1 => ?_)))
  refine ⟨_, [], rfl, ⟨congrArg Value.bool ?_, rfl⟩, hw1.sub (by simp) (by simp)⟩
  unfold RightB
  simp [*]
theorem odd_c (ob : Nat) (kd : Int) (ai : Option Addr) (ni ci : Nat) (l : List UInt64) (sa : Option Addr) (ns sc : Nat) (ls : List SealR) (bl : UInt64) (e : UInt64) (d t : List UInt8)  (w : World) (hd : d.length = 32) (ht : t.length = 16) (hpos : 0 < ns) (hls : ls.length = ns) (hnn : ns ≤ 2000000) (hnd : ns ≤ sc) (hcn : sc ≤ maxLen) (hs : RdV w sa (ls.flatMap sealC)) (hO : RdA w ob 0 [I64 (kd), .slice ai ni ci, .slice sa ns sc, U64 bl])  : Calls Tryd.prog 132 #[.agg ([U64 e] ++ cu8 d ++ cu8 t).toArray, Ptr ob 0] w (Post w [] (fun v L => v = .bool (oddB (headE ls) e) ∧ L = [])) := by
 have hmx : maxLen = 9223372036854775807 := rfl
 refine enter (P := Tryd.prog) (f := 132) (fn := Tryd.f132) w [] 18 [] [.agg ([U64 e] ++ cu8 d ++ cu8 t).toArray, Ptr ob 0] Tryd.func132 rfl rfl (by simp) (BZ (by simp) (by simp) (by simp)) ?_
 show JC _ _ _ [(0, .agg ([U64 e] ++ cu8 d ++ cu8 t).toArray), (1, Ptr ob 0)] _
 refine AI (AD (A1 (CW (.agg ([U64 e] ++ cu8 d ++ cu8 t).toArray) ([U64 e] ++ cu8 d ++ cu8 t) rfl (by first | rfl | simp)) rfl ?_))
 rintro v1 L1 ⟨nb1, hnb1, rfl, rfl⟩
 show JL _ _ _ _ ((2, Ptr nb1 0) :: _) [⟨nb1, [U64 e] ++ cu8 d ++ cu8 t, 161, (0, 0)⟩]
 refine AA _ (AG rfl) rfl ?_
 refine AN (AE (AI ?_))
 rcases Bool.eq_false_or_eq_true (RightB (0:UInt64) e) with hb1 | hb1
 ·
  refine C1 18 2 [(0, Ptr nb1 0), (1, U64 e)] BV rfl (by decide +kernel) ?_
  refine CR ⟨[], [0, 1], [], [0, 1], [2]⟩ 2 _ rfl rfl (by decide +kernel) rfl ⟨⟨_, rfl, AC rfl (AB 0 22 1 CT rfl AU rfl rfl)⟩, ⟨_, rfl, AC rfl (AK rfl (AV AX (AS 0 rfl (A4 (A4 (Seg.head))))))⟩, trivial⟩ rfl (AZ rfl (A3 133 [U64 0, U64 e] (.bool (RightB (0:UInt64) e)) (AY _ Tryd.call133 rfl) (fun w1 hw1 => right_c (0:UInt64) e w1 ))) ?_
  rintro v1 L1 ⟨rfl, rfl⟩
  obtain ⟨x1, hx1⟩ : ∃ x, ls[0]? = some x := ⟨_, List.getElem?_eq_getElem (by rw [hls]; omega)⟩
  obtain ⟨bz1, oz1, hz1, hm1⟩ := rows_at FR (by decide) hs hx1
  refine ⟨[(3, .bool (!(RightB (0:UInt64) e))), (4, .bool (!(RightB (0:UInt64) e))), (5, Ptr nb1 0), (6, U64 e), (7, Ptr ob 2), (8, .slice sa ns sc), (9, Ptr bz1 oz1), (10, Ptr bz1 oz1), (11, U64 x1.e), (12, .bool (decide (e ≠ x1.e))), (13, .bool (decide (e ≠ x1.e))), (14, .bool (decide (e ≠ x1.e)))], ?_⟩
  show DP _ _ _ _ _ _ _ _ [_]
  refine C4 ⟨[2], [0, 1, 3, 4, 5, 6, 7, 8, 9, 10, 11, 12, 13, 14], [0, 1], [3, 4, 5, 6, 7, 8, 9, 10, 11, 12, 13, 14], []⟩ rfl rfl (by decide +kernel) rfl ⟨⟨_, rfl, AC rfl (FH rfl)⟩, A2 rfl rfl rfl, ⟨_, rfl, DK 4 8 false _ rfl rfl rfl (by rw [show (RightB (0:UInt64) e) = true from hb1] <;> rfl) (AB 0 22 1 CT rfl AU rfl rfl)⟩, ⟨_, rfl, DK 4 8 false _ rfl rfl rfl (by rw [show (RightB (0:UInt64) e) = true from hb1] <;> rfl) (AK rfl (AV AX (AS 0 rfl (A4 (A4 (Seg.head))))))⟩, ⟨_, rfl, DK 4 8 false _ rfl rfl rfl (by rw [show (RightB (0:UInt64) e) = true from hb1] <;> rfl) (AB 2 24 1 AF rfl BL rfl rfl)⟩, ⟨_, rfl, DK 4 8 false _ rfl rfl rfl (by rw [show (RightB (0:UInt64) e) = true from hb1] <;> rfl) (AK rfl (AV BW (C8 (hO.mem (by simp)) (AJ (AJ (Seg.head))) (by omega))))⟩, ⟨_, rfl, DK 4 8 false _ rfl rfl rfl (by rw [show (RightB (0:UInt64) e) = true from hb1] <;> rfl) (D9 161 49 oz1 CC CE rfl hz1 rfl (by omega) (by omega) (by omega))⟩, ⟨_, rfl, DK 4 8 false _ rfl rfl rfl (by rw [show (RightB (0:UInt64) e) = true from hb1] <;> rfl) (AB 0 22 1 CT rfl AU rfl rfl)⟩, ⟨_, rfl, DK 4 8 false _ rfl rfl rfl (by rw [show (RightB (0:UInt64) e) = true from hb1] <;> rfl) (AK rfl (AV AX (C8 (hm1.mem (by simp)) (A4 (A4 (Seg.head))) (by omega))))⟩, ⟨_, rfl, DK 4 8 false _ rfl rfl rfl (by rw [show (RightB (0:UInt64) e) = true from hb1] <;> rfl) (AR rfl rfl fun _ => bin_neq_u64 e x1.e)⟩, ⟨_, rfl, AC rfl (BU _ rfl (by rw [show (RightB (0:UInt64) e) = true from hb1] <;> rfl) rfl)⟩, ⟨_, rfl, AC rfl (AG rfl)⟩, trivial⟩ ?_
  refine CI (F' := [(3, .bool (decide (e ≠ x1.e)))]) (by kernel_rfl) ?_
  refine AE (BP (BQ (.bool (decide (e ≠ x1.e))) (res1 Tryd.results132 (B2 rfl)) fun w1 hw1 => ?_))
  refine ⟨_, [], rfl, ⟨congrArg Value.bool ?_, rfl⟩, hw1.sub (by simp) (by simp)⟩
  first | (simp [oddB, *]; done) | (rw [headE_of hx1]; simp [oddB, *]; done)
 ·
  refine C1 18 2 [(0, Ptr nb1 0), (1, U64 e)] BV rfl (by decide +kernel) ?_
  refine CR ⟨[], [0, 1], [], [0, 1], [2]⟩ 2 _ rfl rfl (by decide +kernel) rfl ⟨⟨_, rfl, AC rfl (AB 0 22 1 CT rfl AU rfl rfl)⟩, ⟨_, rfl, AC rfl (AK rfl (AV AX (AS 0 rfl (A4 (A4 (Seg.head))))))⟩, trivial⟩ rfl (AZ rfl (A3 133 [U64 0, U64 e] (.bool (RightB (0:UInt64) e)) (AY _ Tryd.call133 rfl) (fun w1 hw1 => right_c (0:UInt64) e w1 ))) ?_
  rintro v1 L1 ⟨rfl, rfl⟩
  refine ⟨[(3, .bool (!(RightB (0:UInt64) e))), (4, .bool (!(RightB (0:UInt64) e))), (5, undef), (6, undef), (7, undef), (8, undef), (9, undef), (10, undef), (11, undef), (12, undef), (13, .bool true), (14, .bool true)], ?_⟩
  show DP _ _ _ _ _ _ _ _ [_]
  refine C4 ⟨[2], [0, 1, 3, 4, 5, 6, 7, 8, 9, 10, 11, 12, 13, 14], [0, 1], [3, 4, 5, 6, 7, 8, 9, 10, 11, 12, 13, 14], []⟩ rfl rfl (by decide +kernel) rfl ⟨⟨_, rfl, AC rfl (FH rfl)⟩, A2 rfl rfl rfl, ⟨_, rfl, DM 4 8 false _ rfl rfl rfl (by rw [show (RightB (0:UInt64) e) = false from hb1] <;> rfl)⟩, ⟨_, rfl, DM 4 8 false _ rfl rfl rfl (by rw [show (RightB (0:UInt64) e) = false from hb1] <;> rfl)⟩, ⟨_, rfl, DM 4 8 false _ rfl rfl rfl (by rw [show (RightB (0:UInt64) e) = false from hb1] <;> rfl)⟩, ⟨_, rfl, DM 4 8 false _ rfl rfl rfl (by rw [show (RightB (0:UInt64) e) = false from hb1] <;> rfl)⟩, ⟨_, rfl, DM 4 8 false _ rfl rfl rfl (by rw [show (RightB (0:UInt64) e) = false from hb1] <;> rfl)⟩, ⟨_, rfl, DM 4 8 false _ rfl rfl rfl (by rw [show (RightB (0:UInt64) e) = false from hb1] <;> rfl)⟩, ⟨_, rfl, DM 4 8 false _ rfl rfl rfl (by rw [show (RightB (0:UInt64) e) = false from hb1] <;> rfl)⟩, ⟨_, rfl, DM 4 8 false _ rfl rfl rfl (by rw [show (RightB (0:UInt64) e) = false from hb1] <;> rfl)⟩, ⟨_, rfl, AC rfl (CN _ rfl (by rw [show (RightB (0:UInt64) e) = false from hb1] <;> rfl) rfl)⟩, ⟨_, rfl, AC rfl (AG rfl)⟩, trivial⟩ ?_
  refine CI (F' := [(3, .bool true)]) (by kernel_rfl) ?_
  refine AE (BP (BQ (.bool true) (res1 Tryd.results132 (B2 rfl)) fun w1 hw1 => ?_))
  refine ⟨_, [], rfl, ⟨congrArg Value.bool ?_, rfl⟩, hw1.sub (by simp) (by simp)⟩
  first | (simp [oddB, *]; done) | (rw [headE_of hx1]; simp [oddB, *]; done)
theorem ixOdd_c (ob : Nat) (kd : Int) (ai : Option Addr) (ni ci : Nat) (l : List UInt64) (sa : Option Addr) (ns sc : Nat) (ls : List SealR) (bl : UInt64)  (w : World) (hls : ls.length = ns) (hnn : ns ≤ 2000000) (hnd : ns ≤ sc) (hcn : sc ≤ maxLen) (hs : RdV w sa (ls.flatMap sealC)) (hO : RdA w ob 0 [I64 (kd), .slice ai ni ci, .slice sa ns sc, U64 bl])  : Calls Tryd.prog 158 #[.slice sa ns sc, .func (.func 132) #[] #[Ptr ob 0]] w (Post w [] (fun v L => v = I64 (findIx (fun x => oddB (headE ls) (SealR.e x)) ls) ∧ L = [])) := by
 have hmx : maxLen = 9223372036854775807 := rfl
 refine enter w [] 19 [] [.slice sa ns sc, .func (.func 132) #[] #[Ptr ob 0]] Tryd.func158 rfl rfl (by simp) (BZ (by simp) (by simp) (by simp)) ?_
 show JC _ _ _ [(0, .slice sa ns sc), (1, .func (.func 132) #[] #[Ptr ob 0])] _
 refine AI (AD (AA _ (AG rfl) rfl ?_))
 refine AN (AE (AI (AI (AD (AA _ (AH rfl) rfl ?_)))))
 refine AA (I64 ns) (EL CC rfl) rfl ?_
 refine AA _ (AH rfl) rfl ?_
 refine AN (AE (BY (EE (ι := Nat) (fun i => [(0, .slice sa ns sc), (1, .func (.func 132) #[] #[Ptr ob 0]), (7, I64 ns), (8, I64 i)]) (fun i => []) (fun i => i ≤ ns ∧ ∀ k, k < i → ∀ y, ls[k]? = some y → (fun x => oddB (headE ls) (SealR.e x)) y = false) (fun i => ns - i) 0 ⟨by omega, fun k hk => absurd hk (by omega)⟩ (Sub.all rfl) rfl ?_)))
 rintro i ⟨hi1, hi2⟩
 show JC _ _ _ [(0, .slice sa ns sc), (1, .func (.func 132) #[] #[Ptr ob 0]), (7, I64 ns), (8, I64 i)] []
 refine AI (AD (AA (.bool (decide (((i:Int)) < ((ns:Int))))) (AR rfl rfl fun _ => CS _ _) rfl ?_))
 refine AN (AE (AI (CY (decide (((i:Int)) < ((ns:Int)))) rfl (fun hb1 => ?_) (fun hb1 => ?_))))
 ·
  have hp1 : ((i:Int)) < ((ns:Int)) := of_decide_eq_true hb1
  refine BT (AE (AI (BY (AI (AD (AA _ (AH rfl) rfl ?_))))))
  refine AA _ (AG rfl) rfl ?_
  refine AN (AE (AI (AD (AA _ (AH rfl) rfl ?_))))
  refine AA _ (AH rfl) rfl ?_
  refine AA _ (AH rfl) rfl ?_
  obtain ⟨x1, hx1⟩ : ∃ x, ls[i]? = some x := ⟨_, List.getElem?_eq_getElem (by rw [hls]; omega)⟩
  obtain ⟨bz1, oz1, hz1, hm1⟩ := rows_at FR (by decide) hs hx1
  refine AA (Ptr bz1 (49*i + oz1)) (D9 161 49 (49*i + oz1) CC CE rfl hz1 rfl (by omega) (by omega) (by omega)) rfl ?_
  refine AA (.agg ([U64 x1.e] ++ cu8 x1.d ++ cu8 x1.t).toArray) (AK rfl (BH ED CE (by simp [x1.hd, x1.ht]) (C8 (hm1.mem (by simp)) (AL _) (by omega)))) rfl ?_
  refine A7 (A3 132 [.agg ([U64 x1.e] ++ cu8 x1.d ++ cu8 x1.t).toArray, Ptr ob 0] (.bool (oddB (headE ls) x1.e)) (Cl_clo [.agg ([U64 x1.e] ++ cu8 x1.d ++ cu8 x1.t).toArray] [Ptr ob 0] Tryd.call132 rfl rfl) (fun w1 hw1 => odd_c ob kd ai ni ci l sa ns sc ls bl x1.e x1.d x1.t w1 x1.hd x1.ht (by omega) hls hnn hnd hcn (EG hw1 rfl hs) (RdA_at hw1 hO (by simp) (by simp)))) rfl ?_
  show JL _ _ _ _ ((16, .bool (oddB (headE ls) x1.e)) :: _) []
  refine AN (AE (CY (oddB (headE ls) x1.e) rfl (fun hb2 => ?_) (fun hb2 => ?_)))
  ·
   refine AI (AD (AA _ (AH rfl) rfl ?_))
   refine AA _ (AG rfl) rfl ?_
   refine AN (AE (BP (DV (BN (BN (DV (BN (BQ (I64 i) (res1 Tryd.results158 (B2 rfl)) fun w1 hw1 => ?_))))))))
   have e1 : findIx (fun x => oddB (headE ls) (SealR.e x)) ls = i := findIx_at hx1 (by assumption) hi2
   exact ⟨_, [], rfl, ⟨by rw [e1], rfl⟩, hw1.sub (by simp) (by simp)⟩
  ·
   refine BT (BO (AE (AD (AA (I64 ((i:Int) + 1)) (AR rfl rfl fun _ => DF _ _ ((i:Int) + 1) (by omega) (by omega)) rfl ?_))))
   refine AA _ (AH rfl) rfl ?_
   refine AN (DH (EP (i + 1) ⟨by omega, find_step hx1 (by assumption) hi2⟩ (by first | (simp; omega) | simp | (dsimp only; omega) | omega) (Sub.all rfl) rfl))
 ·
  have hp1 : ¬ (((i:Int)) < ((ns:Int))) := of_decide_eq_false hb1
  refine D8 (BB (BB (CV (AE (AI (AD (AA _ (AG rfl) rfl ?_)))))))
  refine AN (AE (BP (BQ (I64 (-1:Int)) (res1 Tryd.results158 (B2 rfl)) fun w1 hw1 => ?_)))
  have e1 : findIx (fun x => oddB (headE ls) (SealR.e x)) ls = -1 := findIx_no (by rw [hls]; intro k hk; exact hi2 k (by omega))
  exact ⟨_, [], rfl, ⟨by rw [e1], rfl⟩, hw1.sub (by simp) (by simp)⟩
theorem cfOdd_c (ob : Nat) (kd : Int) (ai : Option Addr) (ni ci : Nat) (l : List UInt64) (sa : Option Addr) (ns sc : Nat) (ls : List SealR) (bl : UInt64)  (w : World) (hls : ls.length = ns) (hnn : ns ≤ 2000000) (hnd : ns ≤ sc) (hcn : sc ≤ maxLen) (hs : RdV w sa (ls.flatMap sealC)) (hO : RdA w ob 0 [I64 (kd), .slice ai ni ci, .slice sa ns sc, U64 bl])  : Calls Tryd.prog 134 #[.slice sa ns sc, .func (.func 132) #[] #[Ptr ob 0]] w (Post w [] (fun v L => v = .bool (ls.any (fun x => oddB (headE ls) (SealR.e x))) ∧ L = [])) := by
 refine enter w [] 9 [] [.slice sa ns sc, .func (.func 132) #[] #[Ptr ob 0]] Tryd.func134 rfl rfl (by simp) (BZ (by simp) (by simp) (by simp)) ?_
 show JC _ _ _ [(0, .slice sa ns sc), (1, .func (.func 132) #[] #[Ptr ob 0])] _
 refine AI (AD (AA _ (AG rfl) rfl ?_))
 refine AN (AE (AI (AD (AA _ (AH rfl) rfl ?_))))
 refine AA _ (AH rfl) rfl ?_
 refine A7 (A3 158 [.slice sa ns sc, .func (.func 132) #[] #[Ptr ob 0]] (I64 ((findIx (fun x => oddB (headE ls) (SealR.e x)) ls))) (AY _ Tryd.call158 rfl) (fun w1 hw1 => ixOdd_c ob kd ai ni ci l sa ns sc ls bl w1 hls hnn hnd hcn (EG hw1 rfl hs) (RdA_at hw1 hO (by simp) (by simp)))) rfl ?_
 show JL _ _ _ _ ((7, I64 ((findIx (fun x => oddB (headE ls) (SealR.e x)) ls))) :: _) []
 refine AA (.bool (decide ((0:Int) ≤ ((findIx (fun x => oddB (headE ls) (SealR.e x)) ls))))) (AR rfl rfl fun _ => FV _ _) rfl ?_
 refine AA _ (AG rfl) rfl ?_
 refine AN (AE (BP (BQ (.bool (decide ((0:Int) ≤ ((findIx (fun x => oddB (headE ls) (SealR.e x)) ls))))) (res1 Tryd.results134 (B2 rfl)) fun w1 hw1 => ?_)))
 exact ⟨_, [], rfl, ⟨congrArg Value.bool (findIx_ge _ _), rfl⟩, hw1.sub (by simp) (by simp)⟩
attribute [local irreducible] oddB
theorem right13_c (kd : Int) (ai : Option Addr) (ni ci : Nat) (l : List UInt64) (sa : Option Addr) (ns sc : Nat) (ls : List SealR) (bl : UInt64)  (w : World) (hl : l.length = ni) (hnm : ni ≤ 2000000) (hnc : ni ≤ ci) (hcm : ci ≤ maxLen) (hv : RdV w ai (cu64 l)) (hls : ls.length = ns) (hnn : ns ≤ 2000000) (hnd : ns ≤ sc) (hcn : sc ≤ maxLen) (hs : RdV w sa (ls.flatMap sealC))  : Calls Tryd.prog 69 #[.agg #[I64 (kd), .slice ai ni ci, .slice sa ns sc, U64 bl]] w (Post w [] (fun v L => v = .bool (RightO kd l ls bl) ∧ L = [])) := by
 have hmx : maxLen = 9223372036854775807 := rfl
 refine enter (P := Tryd.prog) (f := 69) (fn := Tryd.f69) w [] 69 [] [.agg #[I64 (kd), .slice ai ni ci, .slice sa ns sc, U64 bl]] Tryd.func69 rfl rfl (by simp) (BZ (by simp) (by simp) (by simp)) ?_
 show JC _ _ _ [(0, .agg #[I64 (kd), .slice ai ni ci, .slice sa ns sc, U64 bl])] _
 refine AI (AD (A1 (CW (.agg #[I64 (kd), .slice ai ni ci, .slice sa ns sc, U64 bl]) ([I64 (kd), .slice ai ni ci, .slice sa ns sc, U64 bl]) rfl (by first | rfl | simp)) rfl ?_))
 rintro v1 L1 ⟨nb1, hnb1, rfl, rfl⟩
 show JL _ _ _ _ ((1, Ptr nb1 0) :: _) [⟨nb1, [I64 (kd), .slice ai ni ci, .slice sa ns sc, U64 bl], 26, (0, 0)⟩]
 refine AA _ (AG rfl) rfl ?_
 refine AN (AE (AI (AD (AA (.func (.func 132) #[] #[Ptr nb1 0]) (Ev_makeFunc (vs := [Ptr nb1 0]) rfl (fun _ _ => rfl)) rfl ?_))))
 refine AA _ (AG rfl) rfl ?_
 refine AN (AE (AI (AI (AD (AA (Ptr nb1 0) (AB 0 3 1 AF rfl BA rfl rfl) rfl ?_)))))
 refine AA (I64 (kd)) (AK rfl (AV BF (AS 0 rfl (Seg.head)))) rfl ?_
 refine AN (AE (BY (AI (AD (AA (.bool (decide ((kd) = (1:Int)))) (AR rfl rfl fun _ => C9 _ _) rfl ?_)))))
 refine AA _ (AG rfl) rfl ?_
 refine AN (AE (CY (decide ((kd) = (1:Int))) rfl (fun hb1 => ?_) (fun hb1 => ?_)))
 ·
  have hp1 : (kd) = (1:Int) := of_decide_eq_true hb1
  refine AI (AD (AA (Ptr nb1 3) (AB 3 22 1 AF rfl AU rfl rfl) rfl ?_))
  refine AA (U64 bl) (AK rfl (AV AX (AS 0 rfl (AJ (AJ (AJ (Seg.head))))))) rfl ?_
  refine AA (.bool (decide (bl = (0:UInt64)))) (AR rfl rfl fun _ => FW bl (0:UInt64)) rfl ?_
  refine AA _ (AH rfl) rfl ?_
  rcases Bool.eq_false_or_eq_true (decide (bl = (0:UInt64))) with hb2 | hb2
  ·
   have hp2 : bl = (0:UInt64) := of_decide_eq_true hb2
   refine A0 3 12 true _ (Ptr nb1 1) rfl rfl hb2 (AB 1 23 1 AF rfl CB rfl rfl) rfl ?_
   refine A0 3 12 true _ (.slice ai ni ci) rfl rfl hb2 (AK rfl (AV CP (AS 0 rfl (AJ (Seg.head))))) rfl ?_
   refine EK 3 12 true _ rfl rfl hb2 (A3 85 [I64 32, .slice ai ni ci] (.bool (decide (RightI l))) (AY _ Tryd.call85 rfl) (fun w1 hw1 => pright_c ai ni ci l w1 hl (by omega) (by omega) (by omega) (EG hw1 rfl hv))) rfl ?_
   rintro v1 L1 ⟨rfl, rfl⟩
   show JL _ _ _ _ ((15, .bool (decide (RightI l))) :: _) [_]
   refine AA _ (CN _ rfl hb2 rfl) rfl ?_
   refine AA _ (AH rfl) rfl ?_
   rcases Bool.eq_false_or_eq_true (decide (RightI l)) with hb3 | hb3
   ·
    have hp3 : RightI l := of_decide_eq_true hb3
    refine A0 8 17 true _ (Ptr nb1 2) rfl rfl hb3 (AB 2 24 1 AF rfl BL rfl rfl) rfl ?_
    refine A0 8 17 true _ (.slice sa ns sc) rfl rfl hb3 (AK rfl (AV BW (AS 0 rfl (AJ (AJ (Seg.head)))))) rfl ?_
    refine A0 8 17 true _ (I64 ns) rfl rfl hb3 (EL CC rfl) rfl ?_
    refine A0 8 17 true _ (Ptr nb1 1) rfl rfl hb3 (AB 1 23 1 AF rfl CB rfl rfl) rfl ?_
    refine A0 8 17 true _ (.slice ai ni ci) rfl rfl hb3 (AK rfl (AV CP (AS 0 rfl (AJ (Seg.head))))) rfl ?_
    refine A0 8 17 true _ (I64 ni) rfl rfl hb3 (EL CA rfl) rfl ?_
    refine A0 8 17 true _ (.bool (decide (((ns:Int)) = ((ni:Int))))) rfl rfl hb3 (AR rfl rfl fun _ => C9 _ _) rfl ?_
    refine AA _ (CN _ rfl hb3 rfl) rfl ?_
    refine AA _ (AH rfl) rfl ?_
    rcases Bool.eq_false_or_eq_true (decide (((ns:Int)) = ((ni:Int)))) with hb4 | hb4
    ·
     have hp4 : ((ns:Int)) = ((ni:Int)) := of_decide_eq_true hb4
     refine A0 17 26 true _ (Ptr nb1 2) rfl rfl hb4 (AB 2 24 1 AF rfl BL rfl rfl) rfl ?_
     refine A0 17 26 true _ (.slice sa ns sc) rfl rfl hb4 (AK rfl (AV BW (AS 0 rfl (AJ (AJ (Seg.head)))))) rfl ?_
     refine A0 17 26 true _ _ rfl rfl hb4 (AH rfl) rfl ?_
     refine EK 17 26 true _ rfl rfl hb4 (A3 134 [.slice sa ns sc, .func (.func 132) #[] #[Ptr nb1 0]] (.bool (ls.any (fun x => oddB (headE ls) (SealR.e x)))) (AY _ Tryd.call134 rfl) (fun w1 hw1 => cfOdd_c nb1 (kd) ai ni ci l sa ns sc ls bl w1 hls (by omega) (by omega) (by omega) (EG hw1 rfl hs) (RdA.of hw1 (AS 0 rfl (AL _)) (by simp)))) rfl ?_
     rintro v1 L1 ⟨rfl, rfl⟩
     show JL _ _ _ _ ((30, .bool (ls.any (fun x => oddB (headE ls) (SealR.e x)))) :: _) [_]
     refine A0 17 26 true _ (.bool (!(ls.any (fun x => oddB (headE ls) (SealR.e x))))) rfl rfl hb4 (FH rfl) rfl ?_
     refine AA _ (CN _ rfl hb4 rfl) rfl ?_
     refine AA _ (AG rfl) rfl ?_
     refine AN (AE (BP (DV (BN (CH [false] ?_)))))
     show JQ _ _ _ _ []
     refine BQ (.bool (!(ls.any (fun x => oddB (headE ls) (SealR.e x))))) (res1 EZ (B2 rfl)) fun w1 hw1 => ?_
     refine ⟨_, [], rfl, ⟨congrArg Value.bool ?_, rfl⟩, hw1.sub (by simp) (by simp)⟩
     unfold RightO
     rw [hl, hls]
     first | (simp [*]; done) | (simp [*]; omega)
    ·
     have hp4 : ¬ (((ns:Int)) = ((ni:Int))) := of_decide_eq_false hb4
     refine AQ 17 26 true _ rfl rfl hb4 rfl ?_
     refine AQ 17 26 true _ rfl rfl hb4 rfl ?_
     refine AQ 17 26 true _ rfl rfl hb4 rfl ?_
     refine AQ 17 26 true _ rfl rfl hb4 rfl ?_
     refine AQ 17 26 true _ rfl rfl hb4 rfl ?_
     refine AA _ (BU _ rfl hb4 rfl) rfl ?_
     refine AA _ (AG rfl) rfl ?_
     refine AN (AE (BP (DV (BN (CH [false] ?_)))))
     show JQ _ _ _ _ []
     refine BQ (.bool false) (res1 EZ (B2 rfl)) fun w1 hw1 => ?_
     refine ⟨_, [], rfl, ⟨congrArg Value.bool ?_, rfl⟩, hw1.sub (by simp) (by simp)⟩
     unfold RightO
     rw [hl, hls]
     first | (simp [*]; done) | (simp [*]; omega)
   ·
    have hp3 : ¬ (RightI l) := of_decide_eq_false hb3
    refine AQ 8 17 true _ rfl rfl hb3 rfl ?_
    refine AQ 8 17 true _ rfl rfl hb3 rfl ?_
    refine AQ 8 17 true _ rfl rfl hb3 rfl ?_
    refine AQ 8 17 true _ rfl rfl hb3 rfl ?_
    refine AQ 8 17 true _ rfl rfl hb3 rfl ?_
    refine AQ 8 17 true _ rfl rfl hb3 rfl ?_
    refine AQ 8 17 true _ rfl rfl hb3 rfl ?_
    refine AA _ (BU _ rfl hb3 rfl) rfl ?_
    refine AA _ (AH rfl) rfl ?_
    refine AQ 17 26 true _ rfl rfl rfl rfl ?_
    refine AQ 17 26 true _ rfl rfl rfl rfl ?_
    refine AQ 17 26 true _ rfl rfl rfl rfl ?_
    refine AQ 17 26 true _ rfl rfl rfl rfl ?_
    refine AQ 17 26 true _ rfl rfl rfl rfl ?_
    refine AA _ (BU _ rfl rfl rfl) rfl ?_
    refine AA _ (AG rfl) rfl ?_
    refine AN (AE (BP (DV (BN (CH [false] ?_)))))
    show JQ _ _ _ _ []
    refine BQ (.bool false) (res1 EZ (B2 rfl)) fun w1 hw1 => ?_
    refine ⟨_, [], rfl, ⟨congrArg Value.bool ?_, rfl⟩, hw1.sub (by simp) (by simp)⟩
    unfold RightO
    rw [hl, hls]
    first | (simp [*]; done) | (simp [*]; omega)
  ·
   have hp2 : ¬ (bl = (0:UInt64)) := of_decide_eq_false hb2
   refine AQ 3 12 true _ rfl rfl hb2 rfl ?_
   refine AQ 3 12 true _ rfl rfl hb2 rfl ?_
   refine AQ 3 12 true _ rfl rfl hb2 rfl ?_
   refine AA _ (BU _ rfl hb2 rfl) rfl ?_
   refine AA _ (AH rfl) rfl ?_
   refine AQ 8 17 true _ rfl rfl rfl rfl ?_
   refine AQ 8 17 true _ rfl rfl rfl rfl ?_
   refine AQ 8 17 true _ rfl rfl rfl rfl ?_
   refine AQ 8 17 true _ rfl rfl rfl rfl ?_
   refine AQ 8 17 true _ rfl rfl rfl rfl ?_
   refine AQ 8 17 true _ rfl rfl rfl rfl ?_
   refine AQ 8 17 true _ rfl rfl rfl rfl ?_
   refine AA _ (BU _ rfl rfl rfl) rfl ?_
   refine AA _ (AH rfl) rfl ?_
   refine AQ 17 26 true _ rfl rfl rfl rfl ?_
   refine AQ 17 26 true _ rfl rfl rfl rfl ?_
   refine AQ 17 26 true _ rfl rfl rfl rfl ?_
   refine AQ 17 26 true _ rfl rfl rfl rfl ?_
   refine AQ 17 26 true _ rfl rfl rfl rfl ?_
   refine AA _ (BU _ rfl rfl rfl) rfl ?_
   refine AA _ (AG rfl) rfl ?_
   refine AN (AE (BP (DV (BN (CH [false] ?_)))))
   show JQ _ _ _ _ []
   refine BQ (.bool false) (res1 EZ (B2 rfl)) fun w1 hw1 => ?_
   refine ⟨_, [], rfl, ⟨congrArg Value.bool ?_, rfl⟩, hw1.sub (by simp) (by simp)⟩
   unfold RightO
   rw [hl, hls]
   first | (simp [*]; done) | (simp [*]; omega)
 ·
  have hp1 : ¬ ((kd) = (1:Int)) := of_decide_eq_false hb1
  refine AI (AD (AA (.bool (decide ((kd) = (2:Int)))) (AR rfl rfl fun _ => C9 _ _) rfl ?_))
  refine AA _ (AG rfl) rfl ?_
  refine AN (AE (CY (decide ((kd) = (2:Int))) rfl (fun hb5 => ?_) (fun hb5 => ?_)))
  ·
   have hp5 : (kd) = (2:Int) := of_decide_eq_true hb5
   refine AI (AD (AA (Ptr nb1 3) (AB 3 22 1 AF rfl AU rfl rfl) rfl ?_))
   refine AA (U64 bl) (AK rfl (AV AX (AS 0 rfl (AJ (AJ (AJ (Seg.head))))))) rfl ?_
   refine AA (.bool (decide (bl = (0:UInt64)))) (AR rfl rfl fun _ => FW bl (0:UInt64)) rfl ?_
   refine AA _ (AH rfl) rfl ?_
   rcases Bool.eq_false_or_eq_true (decide (bl = (0:UInt64))) with hb6 | hb6
   ·
    have hp6 : bl = (0:UInt64) := of_decide_eq_true hb6
    refine A0 3 38 true _ (Ptr nb1 1) rfl rfl hb6 (AB 1 23 1 AF rfl CB rfl rfl) rfl ?_
    refine A0 3 38 true _ (.slice ai ni ci) rfl rfl hb6 (AK rfl (AV CP (AS 0 rfl (AJ (Seg.head))))) rfl ?_
    refine EK 3 38 true _ rfl rfl hb6 (A3 85 [I64 32, .slice ai ni ci] (.bool (decide (RightI l))) (AY _ Tryd.call85 rfl) (fun w1 hw1 => pright_c ai ni ci l w1 hl (by omega) (by omega) (by omega) (EG hw1 rfl hv))) rfl ?_
    rintro v1 L1 ⟨rfl, rfl⟩
    show JL _ _ _ _ ((41, .bool (decide (RightI l))) :: _) [_]
    refine AA _ (CN _ rfl hb6 rfl) rfl ?_
    refine AA _ (AH rfl) rfl ?_
    rcases Bool.eq_false_or_eq_true (decide (RightI l)) with hb7 | hb7
    ·
     have hp7 : RightI l := of_decide_eq_true hb7
     refine A0 8 43 true _ (Ptr nb1 2) rfl rfl hb7 (AB 2 24 1 AF rfl BL rfl rfl) rfl ?_
     refine A0 8 43 true _ (.slice sa ns sc) rfl rfl hb7 (AK rfl (AV BW (AS 0 rfl (AJ (AJ (Seg.head)))))) rfl ?_
     refine A0 8 43 true _ (I64 ns) rfl rfl hb7 (EL CC rfl) rfl ?_
     refine A0 8 43 true _ (.bool (decide (((ns:Int)) = (0:Int)))) rfl rfl hb7 (AR rfl rfl fun _ => C9 _ _) rfl ?_
     refine AA _ (CN _ rfl hb7 rfl) rfl ?_
     refine AA _ (AG rfl) rfl ?_
     refine AN (AE (BP (DV (BN (CH [false] ?_)))))
     show JQ _ _ _ _ []
     refine BQ (.bool (decide (((ns:Int)) = (0:Int)))) (res1 EZ (B2 rfl)) fun w1 hw1 => ?_
     refine ⟨_, [], rfl, ⟨congrArg Value.bool ?_, rfl⟩, hw1.sub (by simp) (by simp)⟩
     unfold RightO
     rw [hl, hls]
     first | (simp [*]; done) | (simp [*]; omega)
    ·
     have hp7 : ¬ (RightI l) := of_decide_eq_false hb7
     refine AQ 8 43 true _ rfl rfl hb7 rfl ?_
     refine AQ 8 43 true _ rfl rfl hb7 rfl ?_
     refine AQ 8 43 true _ rfl rfl hb7 rfl ?_
     refine AQ 8 43 true _ rfl rfl hb7 rfl ?_
     refine AA _ (BU _ rfl hb7 rfl) rfl ?_
     refine AA _ (AG rfl) rfl ?_
     refine AN (AE (BP (DV (BN (CH [false] ?_)))))
     show JQ _ _ _ _ []
     refine BQ (.bool false) (res1 EZ (B2 rfl)) fun w1 hw1 => ?_
     refine ⟨_, [], rfl, ⟨congrArg Value.bool ?_, rfl⟩, hw1.sub (by simp) (by simp)⟩
     unfold RightO
     rw [hl, hls]
     first | (simp [*]; done) | (simp [*]; omega)
   ·
    have hp6 : ¬ (bl = (0:UInt64)) := of_decide_eq_false hb6
    refine AQ 3 38 true _ rfl rfl hb6 rfl ?_
    refine AQ 3 38 true _ rfl rfl hb6 rfl ?_
    refine AQ 3 38 true _ rfl rfl hb6 rfl ?_
    refine AA _ (BU _ rfl hb6 rfl) rfl ?_
    refine AA _ (AH rfl) rfl ?_
    refine AQ 8 43 true _ rfl rfl rfl rfl ?_
    refine AQ 8 43 true _ rfl rfl rfl rfl ?_
    refine AQ 8 43 true _ rfl rfl rfl rfl ?_
    refine AQ 8 43 true _ rfl rfl rfl rfl ?_
    refine AA _ (BU _ rfl rfl rfl) rfl ?_
    refine AA _ (AG rfl) rfl ?_
    refine AN (AE (BP (DV (BN (CH [false] ?_)))))
    show JQ _ _ _ _ []
    refine BQ (.bool false) (res1 EZ (B2 rfl)) fun w1 hw1 => ?_
    refine ⟨_, [], rfl, ⟨congrArg Value.bool ?_, rfl⟩, hw1.sub (by simp) (by simp)⟩
    unfold RightO
    rw [hl, hls]
    first | (simp [*]; done) | (simp [*]; omega)
  ·
   have hp5 : ¬ ((kd) = (2:Int)) := of_decide_eq_false hb5
   refine AI (AD (AA (.bool (decide ((kd) = (3:Int)))) (AR rfl rfl fun _ => C9 _ _) rfl ?_))
   refine AA _ (AG rfl) rfl ?_
   refine AN (AE (CY (decide ((kd) = (3:Int))) rfl (fun hb8 => ?_) (fun hb8 => ?_)))
   ·
    have hp8 : (kd) = (3:Int) := of_decide_eq_true hb8
    refine AI (AD (AA (Ptr nb1 1) (AB 1 23 1 AF rfl CB rfl rfl) rfl ?_))
    refine AA (.slice ai ni ci) (AK rfl (AV CP (AS 0 rfl (AJ (Seg.head))))) rfl ?_
    refine AA (I64 ni) (EL CA rfl) rfl ?_
    refine AA (Ptr nb1 2) (AB 2 24 1 AF rfl BL rfl rfl) rfl ?_
    refine AA (.slice sa ns sc) (AK rfl (AV BW (AS 0 rfl (AJ (AJ (Seg.head)))))) rfl ?_
    refine AA (I64 ns) (EL CC rfl) rfl ?_
    refine AA (I64 ((ni:Int) + (ns:Int))) (AR rfl rfl fun _ => DF _ _ ((ni:Int) + (ns:Int)) (by omega) (by omega)) rfl ?_
    refine AA (.bool (decide (((ni:Int) + (ns:Int)) = (0:Int)))) (AR rfl rfl fun _ => C9 _ _) rfl ?_
    refine AA _ (AH rfl) rfl ?_
    rcases Bool.eq_false_or_eq_true (decide (((ni:Int) + (ns:Int)) = (0:Int))) with hb9 | hb9
    ·
     have hp9 : ((ni:Int) + (ns:Int)) = (0:Int) := of_decide_eq_true hb9
     refine A0 8 59 true _ (Ptr nb1 3) rfl rfl hb9 (AB 3 22 1 AF rfl AU rfl rfl) rfl ?_
     refine A0 8 59 true _ (U64 bl) rfl rfl hb9 (AK rfl (AV AX (AS 0 rfl (AJ (AJ (AJ (Seg.head))))))) rfl ?_
     refine A0 8 59 true _ (.bool (decide ((1:UInt64) ≤ bl))) rfl rfl hb9 (AR rfl rfl fun _ => bin_geq_u64 bl (1:UInt64)) rfl ?_
     refine AA _ (CN _ rfl hb9 rfl) rfl ?_
     refine AA _ (AH rfl) rfl ?_
     rcases Bool.eq_false_or_eq_true (decide ((1:UInt64) ≤ bl)) with hb10 | hb10
     ·
      have hp10 : (1:UInt64) ≤ bl := of_decide_eq_true hb10
      refine A0 13 64 true _ (Ptr nb1 3) rfl rfl hb10 (AB 3 22 1 AF rfl AU rfl rfl) rfl ?_
      refine A0 13 64 true _ (U64 bl) rfl rfl hb10 (AK rfl (AV AX (AS 0 rfl (AJ (AJ (AJ (Seg.head))))))) rfl ?_
      refine A0 13 64 true _ (.bool (decide (bl ≤ (4294967296:UInt64)))) rfl rfl hb10 (AR rfl rfl fun _ => bin_leq_u64 bl (4294967296:UInt64)) rfl ?_
      refine AA _ (CN _ rfl hb10 rfl) rfl ?_
      refine AA _ (AG rfl) rfl ?_
      refine AN (AE (BP (DV (BN (CH [false] ?_)))))
      show JQ _ _ _ _ []
      refine BQ (.bool (decide (bl ≤ (4294967296:UInt64)))) (res1 EZ (B2 rfl)) fun w1 hw1 => ?_
      refine ⟨_, [], rfl, ⟨congrArg Value.bool ?_, rfl⟩, hw1.sub (by simp) (by simp)⟩
      unfold RightO
      rw [hl, hls]
      first | (simp [*]; done) | (simp [*]; omega)
     ·
      have hp10 : ¬ ((1:UInt64) ≤ bl) := of_decide_eq_false hb10
      refine AQ 13 64 true _ rfl rfl hb10 rfl ?_
      refine AQ 13 64 true _ rfl rfl hb10 rfl ?_
      refine AQ 13 64 true _ rfl rfl hb10 rfl ?_
      refine AA _ (BU _ rfl hb10 rfl) rfl ?_
      refine AA _ (AG rfl) rfl ?_
      refine AN (AE (BP (DV (BN (CH [false] ?_)))))
      show JQ _ _ _ _ []
      refine BQ (.bool false) (res1 EZ (B2 rfl)) fun w1 hw1 => ?_
      refine ⟨_, [], rfl, ⟨congrArg Value.bool ?_, rfl⟩, hw1.sub (by simp) (by simp)⟩
      unfold RightO
      rw [hl, hls]
      first | (simp [*]; done) | (simp [*]; omega)
    ·
     have hp9 : ¬ (((ni:Int) + (ns:Int)) = (0:Int)) := of_decide_eq_false hb9
     refine AQ 8 59 true _ rfl rfl hb9 rfl ?_
     refine AQ 8 59 true _ rfl rfl hb9 rfl ?_
     refine AQ 8 59 true _ rfl rfl hb9 rfl ?_
     refine AA _ (BU _ rfl hb9 rfl) rfl ?_
     refine AA _ (AH rfl) rfl ?_
     refine AQ 13 64 true _ rfl rfl rfl rfl ?_
     refine AQ 13 64 true _ rfl rfl rfl rfl ?_
     refine AQ 13 64 true _ rfl rfl rfl rfl ?_
     refine AA _ (BU _ rfl rfl rfl) rfl ?_
     refine AA _ (AG rfl) rfl ?_
     refine AN (AE (BP (DV (BN (CH [false] ?_)))))
     show JQ _ _ _ _ []
     refine BQ (.bool false) (res1 EZ (B2 rfl)) fun w1 hw1 => ?_
     refine ⟨_, [], rfl, ⟨congrArg Value.bool ?_, rfl⟩, hw1.sub (by simp) (by simp)⟩
     unfold RightO
     rw [hl, hls]
     first | (simp [*]; done) | (simp [*]; omega)
   ·
    have hp8 : ¬ ((kd) = (3:Int)) := of_decide_eq_false hb8
    refine BT (BO (AE (AI (AD (AA _ (AG rfl) rfl ?_)))))
    refine AN (AE (BP (CH [false] ?_)))
    show JQ _ _ _ _ []
    refine BQ (.bool false) (res1 EZ (B2 rfl)) fun w1 hw1 => ?_
    refine ⟨_, [], rfl, ⟨congrArg Value.bool ?_, rfl⟩, hw1.sub (by simp) (by simp)⟩
    unfold RightO
    rw [hl, hls]
    first | (simp [*]; done) | (simp [*]; omega)
theorem doc7_c (e : UInt64) (d t : List UInt8)  (w : World) (hd : d.length = 32) (ht : t.length = 16)  : Calls Tryd.prog 93 #[.agg ([U64 e] ++ cu8 d ++ cu8 t).toArray] w (Post w [] (fun v L => v = .agg ([U64 e] ++ cu8 d ++ cu8 t).toArray ∧ L = [])) := by
 refine enter (P := Tryd.prog) (f := 93) (fn := Tryd.f93) w [] 4 [] [.agg ([U64 e] ++ cu8 d ++ cu8 t).toArray] Tryd.func93 rfl rfl (by simp) (BZ (by simp) (by simp) (by simp)) ?_
 show JC _ _ _ [(0, .agg ([U64 e] ++ cu8 d ++ cu8 t).toArray)] _
 refine AI (AD (A1 (CW (.agg ([U64 e] ++ cu8 d ++ cu8 t).toArray) ([U64 e] ++ cu8 d ++ cu8 t) rfl (by first | rfl | simp)) rfl ?_))
 rintro v1 L1 ⟨nb1, hnb1, rfl, rfl⟩
 show JL _ _ _ _ ((1, Ptr nb1 0) :: _) [⟨nb1, [U64 e] ++ cu8 d ++ cu8 t, 161, (0, 0)⟩]
 refine A1 (BG _ ([U64 0] ++ cu8 (zr8 32) ++ cu8 (zr8 16)) Tryd.zeroValue164 (by kernel_rfl)) rfl ?_
 rintro v1 L1 ⟨nb2, hnb2, rfl, rfl⟩
 show JL _ _ _ _ ((2, Ptr nb2 0) :: _) [_, ⟨nb2, [U64 0] ++ cu8 (zr8 32) ++ cu8 (zr8 16), 164, (0, 0)⟩]
 refine AN (AE (AI (AD (AA (.agg ([U64 e] ++ cu8 d ++ cu8 t).toArray) (AK rfl (BH ED CE (by simp [hd, ht]) (AS 0 rfl (AL _)))) rfl ?_))))
 refine A7 (A5 1 nb2 49 ([U64 0] ++ cu8 (zr8 32) ++ cu8 (zr8 16)) 164 ([U64 e] ++ cu8 d ++ cu8 t) rfl rfl rfl Tryd.sizeOf164 (by simp [hd, ht]) (CO (CO (by simp [Value.oneCell']) CD) CD) (by simp [(AP 32), (AP 16)]) (BC (by simp [(AP 32), (AP 16), hd, ht]))) rfl ?_
 show JL _ _ _ _ _ [_, ⟨nb2, [U64 e] ++ cu8 d ++ cu8 t, 164, (0, 0)⟩]
 refine AN (AE (BP (BQ (.agg ([U64 e] ++ cu8 d ++ cu8 t).toArray) (res1 Tryd.results93 (DU rfl (BH Tryd.isAgg164 Tryd.sizeOf164 (by simp [hd, ht]) (AS 1 rfl (AL _))))) fun w1 hw1 => ?_)))
 exact ⟨_, [], rfl, ⟨rfl, rfl⟩, hw1.sub (by simp) (by simp)⟩
theorem bld36_013 {w : World} {v0 : Value} {v1 : Value} {v3 : Value} (h0 : v0.cells = [v0].toArray) (h1 : v1.cells = [v1].toArray) (h3 : v3.cells = [v3].toArray) : (Instr.build 36 ([(0, v0), (1, v1), (3, v3)] : List (Nat × Value)).toArray).run Tryd.prog w = .ok (.agg (((([v0] : List Value) ++ ([v1] : List Value)) ++ ([.slice none 0 0] : List Value)) ++ ([v3] : List Value)).toArray) w :=
 E5 (places := #[(0, 1), (1, 1), (2, 1), (3, 1)]) (Z := (([I64 0] : List Value) ++ (([.slice none 0 0] : List Value) ++ (([.slice none 0 0] : List Value) ++ (([U64 0] : List Value) ++ []))))) (fun _ => by kernel_rfl) DB (fun _ => by kernel_rfl) ((F8 ([I64 0] : List Value) (([.slice none 0 0] : List Value) ++ (([.slice none 0 0] : List Value) ++ (([U64 0] : List Value) ++ []))) ([v0] : List Value) h0 (by simp [AP]) rfl).trans ((FO ([v0] : List Value) ([.slice none 0 0] : List Value) (([.slice none 0 0] : List Value) ++ (([U64 0] : List Value) ++ [])) ([v1] : List Value) h1 (by simp [AP]) rfl).trans ((fill_skip (([v0] : List Value) ++ ([v1] : List Value)) ([.slice none 0 0] : List Value) (([U64 0] : List Value) ++ [])).trans ((FO ((([v0] : List Value) ++ ([v1] : List Value)) ++ ([.slice none 0 0] : List Value)) ([U64 0] : List Value) [] ([v3] : List Value) h3 (by simp [AP]) rfl).trans (by simp [Instr.fill])))))
theorem order0_c (kd : Int) (ai : Option Addr) (ni ci : Nat) (l : List UInt64) (sa : Option Addr) (ns sc : Nat) (ls : List SealR) (bl : UInt64)  (w : World) (hl : l.length = ni) (hnm : ni ≤ 2000000) (hnc : ni ≤ ci) (hcm : ci ≤ maxLen) (hv : RdV w ai (cu64 l)) (hls : ls.length = ns) (hnn : ns ≤ 2000000) (hnd : ns ≤ sc) (hcn : sc ≤ maxLen) (hs : RdV w sa (ls.flatMap sealC)) (h0 : ns = 0) : Calls Tryd.prog 66 #[.agg #[I64 (kd), .slice ai ni ci, .slice sa ns sc, U64 bl]] w (Post w [] (fun v L => v = .agg #[I64 kd, .slice ai ni ci, .slice none 0 0, U64 bl] ∧ L = [])) := by
 have hmx : maxLen = 9223372036854775807 := rfl
 refine enter (P := Tryd.prog) (f := 66) (fn := Tryd.f66) w [] 29 [] [.agg #[I64 (kd), .slice ai ni ci, .slice sa ns sc, U64 bl]] Tryd.func66 rfl rfl (by simp) (BZ (by simp) (by simp) (by simp)) ?_
 show JC _ _ _ [(0, .agg #[I64 (kd), .slice ai ni ci, .slice sa ns sc, U64 bl])] _
 refine AI (AD (A1 (CW (.agg #[I64 (kd), .slice ai ni ci, .slice sa ns sc, U64 bl]) ([I64 (kd), .slice ai ni ci, .slice sa ns sc, U64 bl]) rfl (by first | rfl | simp)) rfl ?_))
 rintro v1 L1 ⟨nb1, hnb1, rfl, rfl⟩
 show JL _ _ _ _ ((1, Ptr nb1 0) :: _) [⟨nb1, [I64 (kd), .slice ai ni ci, .slice sa ns sc, U64 bl], 26, (0, 0)⟩]
 refine A1 (BG _ ([I64 0, .slice none 0 0, .slice none 0 0, U64 0]) Tryd.zeroValue36 (by kernel_rfl)) rfl ?_
 rintro v1 L1 ⟨nb2, hnb2, rfl, rfl⟩
 show JL _ _ _ _ ((2, Ptr nb2 0) :: _) [_, ⟨nb2, [I64 0, .slice none 0 0, .slice none 0 0, U64 0], 36, (0, 0)⟩]
 refine AN (AE (AI (AD (AA (Ptr nb1 0) (AB 0 3 1 AF rfl BA rfl rfl) rfl ?_))))
 refine AA (I64 (kd)) (AK rfl (AV BF (AS 0 rfl (Seg.head)))) rfl ?_
 refine AA (Ptr nb1 1) (AB 1 23 1 AF rfl CB rfl rfl) rfl ?_
 refine AA (.slice ai ni ci) (AK rfl (AV CP (AS 0 rfl (AJ (Seg.head))))) rfl ?_
 refine AA (Ptr nb1 3) (AB 3 22 1 AF rfl AU rfl rfl) rfl ?_
 refine AA (U64 bl) (AK rfl (AV AX (AS 0 rfl (AJ (AJ (AJ (Seg.head))))))) rfl ?_
 refine AA (.agg #[I64 (kd), .slice ai ni ci, .slice none 0 0, U64 bl]) (B8 [(0, I64 (kd)), (1, .slice ai ni ci), (3, U64 bl)] _ rfl (fun _ => bld36_013 rfl rfl rfl)) rfl ?_
 refine A1 (BG _ ([I64 0, .slice none 0 0, .slice none 0 0, U64 0]) Tryd.zeroValue36 (by kernel_rfl)) rfl ?_
 rintro v1 L1 ⟨nb3, hnb3, rfl, rfl⟩
 show JL _ _ _ _ ((3, Ptr nb3 0) :: _) [_, _, ⟨nb3, [I64 0, .slice none 0 0, .slice none 0 0, U64 0], 36, (0, 0)⟩]
 refine A7 (A5 2 nb3 4 ([I64 0, .slice none 0 0, .slice none 0 0, U64 0]) 36 ([I64 (kd), .slice ai ni ci, .slice none 0 0, U64 bl]) rfl rfl rfl EC rfl (by simp [Value.oneCell']) (Nat.le_of_ble_eq_true rfl) (BC (by simp []))) rfl ?_
 show JL _ _ _ _ _ [_, _, ⟨nb3, [I64 (kd), .slice ai ni ci, .slice none 0 0, U64 bl], 36, (0, 0)⟩]
 refine AN (AE (AI (AI (AD (AA (Ptr nb1 2) (AB 2 24 1 AF rfl BL rfl rfl) rfl ?_)))))
 refine AA (.slice sa ns sc) (AK rfl (AV BW (AS 0 rfl (AJ (AJ (Seg.head)))))) rfl ?_
 refine AA (I64 ns) (EL CC rfl) rfl ?_
 refine AA _ (AH rfl) rfl ?_
 refine AN (AE (BY (CH [false, true, true] ?_)))
 show JC _ _ _ _ [_, _]
 refine EE (ι := Unit) (fun _ => [(2, Ptr nb2 0), (3, Ptr nb3 0), (14, .slice sa ns sc), (15, I64 ns), (16, I64 0)]) (fun _ => [⟨nb2, [I64 0, .slice none 0 0, .slice none 0 0, U64 0], 36, (0, 0)⟩, ⟨nb3, [I64 (kd), .slice ai ni ci, .slice none 0 0, U64 bl], 36, (0, 0)⟩]) (fun _ => True) (fun _ => 1) () trivial (Sub.all rfl) rfl ?_
 rintro _ _
 show JC _ _ _ [(2, Ptr nb2 0), (3, Ptr nb3 0), (14, .slice sa ns sc), (15, I64 ns), (16, I64 0)] [⟨nb2, [I64 0, .slice none 0 0, .slice none 0 0, U64 0], 36, (0, 0)⟩, ⟨nb3, [I64 (kd), .slice ai ni ci, .slice none 0 0, U64 bl], 36, (0, 0)⟩]
 refine AI (AD (AA (.bool (decide ((0:Int) < ((ns:Int))))) (AR rfl rfl fun _ => CS _ _) rfl ?_))
 refine AN (AE (AI (CK _ rfl (decide_eq_false (by omega)) ?_)))
 refine D8 (BB (BB (CV (AE (AI (AD (AA (.agg #[I64 (kd), .slice ai ni ci, .slice none 0 0, U64 bl]) (AK rfl (BH Tryd.isAgg36 EC rfl (AS 1 rfl (AL _)))) rfl ?_)))))))
 refine A7 (A5 0 nb2 4 ([I64 0, .slice none 0 0, .slice none 0 0, U64 0]) 36 ([I64 (kd), .slice ai ni ci, .slice none 0 0, U64 bl]) rfl rfl rfl EC rfl (by simp [Value.oneCell']) (Nat.le_of_ble_eq_true rfl) (BC (by simp []))) rfl ?_
 show JL _ _ _ _ _ [⟨nb2, [I64 (kd), .slice ai ni ci, .slice none 0 0, U64 bl], 36, (0, 0)⟩, _]
 refine AN (AE (BP (BQ (.agg #[I64 (kd), .slice ai ni ci, .slice none 0 0, U64 bl]) (res1 Tryd.results66 (DU rfl (BH Tryd.isAgg36 EC rfl (AS 0 rfl (AL _))))) fun w1 hw1 => ?_)))
 exact ⟨_, [], rfl, ⟨rfl, rfl⟩, hw1.sub (by simp) (by simp)⟩
theorem orderP_c (kd : Int) (ai : Option Addr) (ni ci : Nat) (l : List UInt64) (sa : Option Addr) (ns sc : Nat) (ls : List SealR) (bl : UInt64)  (w : World) (hl : l.length = ni) (hnm : ni ≤ 2000000) (hnc : ni ≤ ci) (hcm : ci ≤ maxLen) (hv : RdV w ai (cu64 l)) (hls : ls.length = ns) (hnn : ns ≤ 2000000) (hnd : ns ≤ sc) (hcn : sc ≤ maxLen) (hs : RdV w sa (ls.flatMap sealC)) (h0 : 0 < ns) : Calls Tryd.prog 66 #[.agg #[I64 (kd), .slice ai ni ci, .slice sa ns sc, U64 bl]] w (Post w [] (fun v L => ∃ g sp cap, v = .agg #[I64 kd, .slice ai ni ci, Slc g 0 ns cap, U64 bl] ∧ L = [⟨g, ls.flatMap sealC ++ sp, 164, (0, 0)⟩] ∧ sp.length = cap * 49 - ns * 49 ∧ ns ≤ cap ∧ cap ≤ maxLen)) := by
 have hmx : maxLen = 9223372036854775807 := rfl
 refine enter (P := Tryd.prog) (f := 66) (fn := Tryd.f66) w [] 29 [] [.agg #[I64 (kd), .slice ai ni ci, .slice sa ns sc, U64 bl]] Tryd.func66 rfl rfl (by simp) (BZ (by simp) (by simp) (by simp)) ?_
 show JC _ _ _ [(0, .agg #[I64 (kd), .slice ai ni ci, .slice sa ns sc, U64 bl])] _
 refine AI (AD (A1 (CW (.agg #[I64 (kd), .slice ai ni ci, .slice sa ns sc, U64 bl]) ([I64 (kd), .slice ai ni ci, .slice sa ns sc, U64 bl]) rfl (by first | rfl | simp)) rfl ?_))
 rintro v1 L1 ⟨nb1, hnb1, rfl, rfl⟩
 show JL _ _ _ _ ((1, Ptr nb1 0) :: _) [⟨nb1, [I64 (kd), .slice ai ni ci, .slice sa ns sc, U64 bl], 26, (0, 0)⟩]
 refine A1 (BG _ ([I64 0, .slice none 0 0, .slice none 0 0, U64 0]) Tryd.zeroValue36 (by kernel_rfl)) rfl ?_
 rintro v1 L1 ⟨nb2, hnb2, rfl, rfl⟩
 show JL _ _ _ _ ((2, Ptr nb2 0) :: _) [_, ⟨nb2, [I64 0, .slice none 0 0, .slice none 0 0, U64 0], 36, (0, 0)⟩]
 refine AN (AE (AI (AD (AA (Ptr nb1 0) (AB 0 3 1 AF rfl BA rfl rfl) rfl ?_))))
 refine AA (I64 (kd)) (AK rfl (AV BF (AS 0 rfl (Seg.head)))) rfl ?_
 refine AA (Ptr nb1 1) (AB 1 23 1 AF rfl CB rfl rfl) rfl ?_
 refine AA (.slice ai ni ci) (AK rfl (AV CP (AS 0 rfl (AJ (Seg.head))))) rfl ?_
 refine AA (Ptr nb1 3) (AB 3 22 1 AF rfl AU rfl rfl) rfl ?_
 refine AA (U64 bl) (AK rfl (AV AX (AS 0 rfl (AJ (AJ (AJ (Seg.head))))))) rfl ?_
 refine AA (.agg #[I64 (kd), .slice ai ni ci, .slice none 0 0, U64 bl]) (B8 [(0, I64 (kd)), (1, .slice ai ni ci), (3, U64 bl)] _ rfl (fun _ => bld36_013 rfl rfl rfl)) rfl ?_
 refine A1 (BG _ ([I64 0, .slice none 0 0, .slice none 0 0, U64 0]) Tryd.zeroValue36 (by kernel_rfl)) rfl ?_
 rintro v1 L1 ⟨nb3, hnb3, rfl, rfl⟩
 show JL _ _ _ _ ((3, Ptr nb3 0) :: _) [_, _, ⟨nb3, [I64 0, .slice none 0 0, .slice none 0 0, U64 0], 36, (0, 0)⟩]
 refine A7 (A5 2 nb3 4 ([I64 0, .slice none 0 0, .slice none 0 0, U64 0]) 36 ([I64 (kd), .slice ai ni ci, .slice none 0 0, U64 bl]) rfl rfl rfl EC rfl (by simp [Value.oneCell']) (Nat.le_of_ble_eq_true rfl) (BC (by simp []))) rfl ?_
 show JL _ _ _ _ _ [_, _, ⟨nb3, [I64 (kd), .slice ai ni ci, .slice none 0 0, U64 bl], 36, (0, 0)⟩]
 refine AN (AE (AI (AI (AD (AA (Ptr nb1 2) (AB 2 24 1 AF rfl BL rfl rfl) rfl ?_)))))
 refine AA (.slice sa ns sc) (AK rfl (AV BW (AS 0 rfl (AJ (AJ (Seg.head)))))) rfl ?_
 refine AA (I64 ns) (EL CC rfl) rfl ?_
 refine AA _ (AH rfl) rfl ?_
 refine AN (AE (BY (CH [false, true, true] ?_)))
 show JC _ _ _ _ [_, _]
 refine EE (ι := (Unit) ⊕ (Nat × List SealR × Nat × List Value × Nat)) (fun x => match x with | .inl _ => [(2, Ptr nb2 0), (3, Ptr nb3 0), (14, .slice sa ns sc), (15, I64 ns), (16, I64 0)] | .inr ⟨i, rr, gb, sp, cp⟩ => [(2, Ptr nb2 0), (3, Ptr nb3 0), (14, .slice sa ns sc), (15, I64 ns), (16, I64 i)]) (fun x => match x with | .inl _ => [⟨nb2, [I64 0, .slice none 0 0, .slice none 0 0, U64 0], 36, (0, 0)⟩, ⟨nb3, [I64 (kd), .slice ai ni ci, .slice none 0 0, U64 bl], 36, (0, 0)⟩] | .inr ⟨i, rr, gb, sp, cp⟩ => [⟨nb2, [I64 0, .slice none 0 0, .slice none 0 0, U64 0], 36, (0, 0)⟩, ⟨nb3, [I64 (kd), .slice ai ni ci, Slc gb 0 i cp, U64 bl], 36, (0, 0)⟩, ⟨gb, (rr).flatMap sealC ++ sp, 164, (0, 0)⟩]) (fun x => match x with | .inl _ => True | .inr ⟨i, rr, gb, sp, cp⟩ => 0 < i ∧ i ≤ ns ∧ rr = ls.take i ∧ rr.length = i ∧ sp.length = cp * 49 - i * 49 ∧ i ≤ cp ∧ cp ≤ maxLen) (fun x => match x with | .inl _ => ns + 2 | .inr ⟨i, rr, gb, sp, cp⟩ => ns + 1 - i) (.inl ()) trivial (Sub.all rfl) rfl ?_
 rintro (_ | ⟨i, rr, gb, sp, cp⟩) hx
 ·
  obtain _ := hx
  show JC _ _ _ [(2, Ptr nb2 0), (3, Ptr nb3 0), (14, .slice sa ns sc), (15, I64 ns), (16, I64 0)] [⟨nb2, [I64 0, .slice none 0 0, .slice none 0 0, U64 0], 36, (0, 0)⟩, ⟨nb3, [I64 (kd), .slice ai ni ci, .slice none 0 0, U64 bl], 36, (0, 0)⟩]
  refine AI (AD (AA (.bool (decide ((0:Int) < ((ns:Int))))) (AR rfl rfl fun _ => CS _ _) rfl ?_))
  refine AN (AE (AI (DJ _ rfl (decide_eq_true (by omega)) ?_)))
  refine BT (AE (AI (BY (AI (AD ?_)))))
  obtain ⟨x1, hx1⟩ : ∃ x, ls[0]? = some x := ⟨_, List.getElem?_eq_getElem (by rw [hls]; omega)⟩
  obtain ⟨bz1, oz1, hz1, hm1⟩ := rows_at FR (by decide) hs hx1
  refine AA (Ptr bz1 oz1) (D9 161 49 oz1 CC CE rfl hz1 rfl (by omega) (by omega) (by omega)) rfl ?_
  refine AA (.agg ([U64 x1.e] ++ cu8 x1.d ++ cu8 x1.t).toArray) (AK rfl (BH ED CE (by simp [x1.hd, x1.ht]) (C8 (hm1.mem (by simp)) (AL _) (by omega)))) rfl ?_
  refine A1 (BG _ ([U64 0] ++ cu8 (zr8 32) ++ cu8 (zr8 16)) Tryd.zeroValue161 (by kernel_rfl)) rfl ?_
  rintro v1 L1 ⟨nb4, hnb4, rfl, rfl⟩
  show JL _ _ _ _ ((5, Ptr nb4 0) :: _) [_, _, ⟨nb4, [U64 0] ++ cu8 (zr8 32) ++ cu8 (zr8 16), 161, (0, 0)⟩]
  refine A7 (A5 2 nb4 49 ([U64 0] ++ cu8 (zr8 32) ++ cu8 (zr8 16)) 161 ([U64 x1.e] ++ cu8 x1.d ++ cu8 x1.t) rfl rfl rfl CE (by simp [x1.hd, x1.ht]) (CO (CO (by simp [Value.oneCell']) CD) CD) (by simp [(AP 32), (AP 16)]) (BC (by simp [(AP 32), (AP 16), x1.hd, x1.ht]))) rfl ?_
  show JL _ _ _ _ _ [_, _, ⟨nb4, [U64 x1.e] ++ cu8 x1.d ++ cu8 x1.t, 161, (0, 0)⟩]
  refine AN (AE (C1 29 5 [(0, Ptr nb3 2), (1, .slice none 0 0), (2, .agg ([U64 x1.e] ++ cu8 x1.d ++ cu8 x1.t).toArray)] BV rfl (by decide +kernel) ?_))
  refine CQ ⟨[], [0, 1, 2], [], [0, 1, 2], [3]⟩ 3 rfl rfl (by decide +kernel) rfl ⟨⟨_, rfl, AC rfl (AB 2 34 1 DB rfl E2 rfl rfl)⟩, ⟨_, rfl, AC rfl (AK rfl (AV Tryd.isAgg34 (AS 1 rfl (AJ (AJ (Seg.head))))))⟩, ⟨_, rfl, AC rfl (AK rfl (BH ED CE (by simp [x1.hd, x1.ht]) (AS 2 rfl (AL _))))⟩, trivial⟩ rfl (AZ rfl (A3 93 [.agg ([U64 x1.e] ++ cu8 x1.d ++ cu8 x1.t).toArray] (.agg ([U64 x1.e] ++ cu8 x1.d ++ cu8 x1.t).toArray) (AY _ Tryd.call93 rfl) (fun w1 hw1 => doc7_c x1.e x1.d x1.t w1 x1.hd x1.ht))) ?_
  show DP _ _ _ _ _ _ _ _ [_, _, _]
  refine CR ⟨[3], [0, 1, 2], [2], [0, 1], [4]⟩ 4 _ rfl rfl (by decide +kernel) rfl ⟨⟨_, rfl, AC rfl (AB 2 34 1 DB rfl E2 rfl rfl)⟩, ⟨_, rfl, AC rfl (AK rfl (AV Tryd.isAgg34 (AS 1 rfl (AJ (AJ (Seg.head))))))⟩, trivial⟩ rfl (AZ rfl (B0 164 49 _ [(0, .agg ([U64 x1.e] ++ cu8 x1.d ++ cu8 x1.t).toArray)] ([U64 x1.e] ++ cu8 x1.d ++ cu8 x1.t) Tryd.underlying34 Tryd.sizeOf164 Tryd.zeroValue164 rfl rfl rfl (fill_one (Z := [U64 0] ++ cu8 (zr8 32) ++ cu8 (zr8 16)) (by simp [x1.hd, x1.ht]) (by kernel_rfl) (by simp [zr8])))) ?_
  rintro v1 L1 ⟨nb5, hnb5, rfl, rfl⟩
  refine ⟨[], ?_⟩
  show DP _ _ _ _ _ _ _ _ [_, _, _, ⟨nb5, [U64 x1.e] ++ cu8 x1.d ++ cu8 x1.t, 164, (0, 0)⟩]
  refine CR ⟨[3, 4], [0, 1, 2], [2], [0, 1], [5]⟩ 5 _ rfl rfl (by decide +kernel) rfl ⟨⟨_, rfl, AC rfl (AB 2 34 1 DB rfl E2 rfl rfl)⟩, ⟨_, rfl, AC rfl (AK rfl (AV Tryd.isAgg34 (AS 1 rfl (AJ (AJ (Seg.head))))))⟩, trivial⟩ rfl (AZ rfl (Step_appS 34 164 56 (.agg ([U64 0] ++ cu8 (zr8 32) ++ cu8 (zr8 16)).toArray) [false, false, false, false] (.slice none 0 0) 0 ([] : List SealR) x1 (some ⟨nb5, 0, none⟩) 1 1 Tryd.underlying34 (by kernel_rfl) (by kernel_rfl) rfl (.inl ⟨rfl, rfl, rfl, rfl⟩) rfl (SrcAt.mem (AS 3 rfl (AL _))) (by omega) (by unfold maxLen; omega) (by omega))) ?_
  rintro v1 L1 ⟨nb6, sp1, cp1, hg1, rfl, rfl, ha1, ha2, ha3, ha4⟩
  refine ⟨[(6, Ptr nb3 2)], ?_⟩
  show DP _ _ _ _ _ _ _ _ [_, _, _, _, ⟨nb6, (([] : List SealR) ++ [x1]).flatMap sealC ++ sp1, 164, (0, 0)⟩]
  refine CQ ⟨[3, 4, 5], [0, 1, 2, 6], [0, 1, 2], [6], [7]⟩ 7 rfl rfl (by decide +kernel) rfl ⟨⟨_, rfl, AC rfl (AB 2 34 1 DB rfl E2 rfl rfl)⟩, trivial⟩ rfl (AZ rfl (DT 1 nb3 2 1 ([I64 (kd), .slice ai ni ci, .slice none 0 0, U64 bl]) 36 (Slc nb6 0 1 cp1) ([Slc nb6 0 1 cp1]) ([I64 (kd), .slice ai ni ci, Slc nb6 0 1 cp1, U64 bl]) rfl rfl rfl rfl E2 rfl (by simp [Value.oneCell']) (Nat.le_of_ble_eq_true rfl) (rfl))) ?_
  show DP _ _ _ _ _ _ _ _ [_, ⟨nb3, [I64 (kd), .slice ai ni ci, Slc nb6 0 1 cp1, U64 bl], 36, (0, 0)⟩, _, _, _]
  refine C4 ⟨[3, 4, 5, 7], [0, 1, 2, 6], [0, 1, 2, 6], [], []⟩ rfl rfl (by decide +kernel) rfl trivial ?_
  refine CI (F' := [(20, Ptr nb3 2), (21, .slice none 0 0), (22, .agg ([U64 x1.e] ++ cu8 x1.d ++ cu8 x1.t).toArray), (23, .agg ([U64 x1.e] ++ cu8 x1.d ++ cu8 x1.t).toArray), (24, Slc nb5 0 1 1), (25, Slc nb6 0 1 cp1), (26, Ptr nb3 2), (2, Ptr nb2 0), (3, Ptr nb3 0), (14, .slice sa ns sc), (15, I64 ns), (16, I64 0), (17, .bool (decide ((0:Int) < ((ns:Int))))), (18, Ptr bz1 oz1), (19, .agg ([U64 x1.e] ++ cu8 x1.d ++ cu8 x1.t).toArray), (5, Ptr nb4 0)]) (by kernel_rfl) ?_
  refine BO (AE (AD (AA (I64 1) (AR rfl rfl fun _ => DF _ _ (1:Int) (by omega) (by omega)) rfl ?_)))
  refine AA _ (AH rfl) rfl ?_
  refine AN (DH (CH [true, true, false, false, true] ?_))
  show K _ _ [_, _, _] _
  refine EP (.inr (1, ([] : List SealR) ++ [x1], nb6, sp1, cp1)) ⟨by omega, by omega, take_step (i := 0) hx1, (ha1).trans (by first | rfl | simp +arith), (ha2).trans (by first | rfl | simp +arith), by omega, by omega⟩ (by first | (simp; omega) | simp | (dsimp only; omega) | omega) (Sub.all rfl) rfl
 ·
  obtain ⟨hi1, hi2, hi3, hi4, hi5, hi6, hi7⟩ := hx
  show JC _ _ _ [(2, Ptr nb2 0), (3, Ptr nb3 0), (14, .slice sa ns sc), (15, I64 ns), (16, I64 i)] [⟨nb2, [I64 0, .slice none 0 0, .slice none 0 0, U64 0], 36, (0, 0)⟩, ⟨nb3, [I64 (kd), .slice ai ni ci, Slc gb 0 i cp, U64 bl], 36, (0, 0)⟩, ⟨gb, (rr).flatMap sealC ++ sp, 164, (0, 0)⟩]
  refine AI (AD (AA (.bool (decide (((i:Int)) < ((ns:Int))))) (AR rfl rfl fun _ => CS _ _) rfl ?_))
  refine AN (AE (AI (CY (decide (((i:Int)) < ((ns:Int)))) rfl (fun hb1 => ?_) (fun hb1 => ?_))))
  ·
   have hp1 : ((i:Int)) < ((ns:Int)) := of_decide_eq_true hb1
   refine BT (AE (AI (BY (AI (AD ?_)))))
   obtain ⟨x2, hx2⟩ : ∃ x, ls[i]? = some x := ⟨_, List.getElem?_eq_getElem (by rw [hls]; omega)⟩
   obtain ⟨bz2, oz2, hz2, hm2⟩ := rows_at FR (by decide) hs hx2
   refine AA (Ptr bz2 (49*i + oz2)) (D9 161 49 (49*i + oz2) CC CE rfl hz2 rfl (by omega) (by omega) (by omega)) rfl ?_
   refine AA (.agg ([U64 x2.e] ++ cu8 x2.d ++ cu8 x2.t).toArray) (AK rfl (BH ED CE (by simp [x2.hd, x2.ht]) (C8 (hm2.mem (by simp)) (AL _) (by omega)))) rfl ?_
   refine A1 (BG _ ([U64 0] ++ cu8 (zr8 32) ++ cu8 (zr8 16)) Tryd.zeroValue161 (by kernel_rfl)) rfl ?_
   rintro v1 L1 ⟨nb7, hnb7, rfl, rfl⟩
   show JL _ _ _ _ ((5, Ptr nb7 0) :: _) [_, _, _, ⟨nb7, [U64 0] ++ cu8 (zr8 32) ++ cu8 (zr8 16), 161, (0, 0)⟩]
   refine A7 (A5 3 nb7 49 ([U64 0] ++ cu8 (zr8 32) ++ cu8 (zr8 16)) 161 ([U64 x2.e] ++ cu8 x2.d ++ cu8 x2.t) rfl rfl rfl CE (by simp [x2.hd, x2.ht]) (CO (CO (by simp [Value.oneCell']) CD) CD) (by simp [(AP 32), (AP 16)]) (BC (by simp [(AP 32), (AP 16), x2.hd, x2.ht]))) rfl ?_
   show JL _ _ _ _ _ [_, _, _, ⟨nb7, [U64 x2.e] ++ cu8 x2.d ++ cu8 x2.t, 161, (0, 0)⟩]
   refine AN (AE (C1 29 5 [(0, Ptr nb3 2), (1, Slc gb 0 i cp), (2, .agg ([U64 x2.e] ++ cu8 x2.d ++ cu8 x2.t).toArray)] BV rfl (by decide +kernel) ?_))
   refine CQ ⟨[], [0, 1, 2], [], [0, 1, 2], [3]⟩ 3 rfl rfl (by decide +kernel) rfl ⟨⟨_, rfl, AC rfl (AB 2 34 1 DB rfl E2 rfl rfl)⟩, ⟨_, rfl, AC rfl (AK rfl (AV Tryd.isAgg34 (AS 1 rfl (AJ (AJ (Seg.head))))))⟩, ⟨_, rfl, AC rfl (AK rfl (BH ED CE (by simp [x2.hd, x2.ht]) (AS 3 rfl (AL _))))⟩, trivial⟩ rfl (AZ rfl (A3 93 [.agg ([U64 x2.e] ++ cu8 x2.d ++ cu8 x2.t).toArray] (.agg ([U64 x2.e] ++ cu8 x2.d ++ cu8 x2.t).toArray) (AY _ Tryd.call93 rfl) (fun w1 hw1 => doc7_c x2.e x2.d x2.t w1 x2.hd x2.ht))) ?_
   show DP _ _ _ _ _ _ _ _ [_, _, _, _]
   refine CR ⟨[3], [0, 1, 2], [2], [0, 1], [4]⟩ 4 _ rfl rfl (by decide +kernel) rfl ⟨⟨_, rfl, AC rfl (AB 2 34 1 DB rfl E2 rfl rfl)⟩, ⟨_, rfl, AC rfl (AK rfl (AV Tryd.isAgg34 (AS 1 rfl (AJ (AJ (Seg.head))))))⟩, trivial⟩ rfl (AZ rfl (B0 164 49 _ [(0, .agg ([U64 x2.e] ++ cu8 x2.d ++ cu8 x2.t).toArray)] ([U64 x2.e] ++ cu8 x2.d ++ cu8 x2.t) Tryd.underlying34 Tryd.sizeOf164 Tryd.zeroValue164 rfl rfl rfl (fill_one (Z := [U64 0] ++ cu8 (zr8 32) ++ cu8 (zr8 16)) (by simp [x2.hd, x2.ht]) (by kernel_rfl) (by simp [zr8])))) ?_
   rintro v1 L1 ⟨nb8, hnb8, rfl, rfl⟩
   refine ⟨[], ?_⟩
   show DP _ _ _ _ _ _ _ _ [_, _, _, _, ⟨nb8, [U64 x2.e] ++ cu8 x2.d ++ cu8 x2.t, 164, (0, 0)⟩]
   refine CR ⟨[3, 4], [0, 1, 2], [2], [0, 1], [5]⟩ 5 _ rfl rfl (by decide +kernel) rfl ⟨⟨_, rfl, AC rfl (AB 2 34 1 DB rfl E2 rfl rfl)⟩, ⟨_, rfl, AC rfl (AK rfl (AV Tryd.isAgg34 (AS 1 rfl (AJ (AJ (Seg.head))))))⟩, trivial⟩ rfl (AZ rfl (Step_appS 34 164 56 (.agg ([U64 0] ++ cu8 (zr8 32) ++ cu8 (zr8 16)).toArray) [false, false, true, false, false] (Slc gb 0 i cp) i rr x2 (some ⟨nb8, 0, none⟩) 1 (i + 1) Tryd.underlying34 (by kernel_rfl) (by kernel_rfl) rfl (.inr ⟨gb, sp, cp, rfl, rfl, (by have h : (rr).length = i := hi4; omega), (by first | exact hi5 | omega), (by omega), (by omega)⟩) rfl (SrcAt.mem (AS 4 rfl (AL _))) (by omega) (by unfold maxLen; omega) (by omega))) ?_
   rintro v1 L1 ⟨nb9, sp2, cp2, hg2, rfl, rfl, ha5, ha6, ha7, ha8⟩
   refine ⟨[(6, Ptr nb3 2)], ?_⟩
   show DP _ _ _ _ _ _ _ _ [_, _, _, _, ⟨nb9, (rr ++ [x2]).flatMap sealC ++ sp2, 164, (0, 0)⟩]
   refine CQ ⟨[3, 4, 5], [0, 1, 2, 6], [0, 1, 2], [6], [7]⟩ 7 rfl rfl (by decide +kernel) rfl ⟨⟨_, rfl, AC rfl (AB 2 34 1 DB rfl E2 rfl rfl)⟩, trivial⟩ rfl (AZ rfl (DT 1 nb3 2 1 ([I64 (kd), .slice ai ni ci, Slc gb 0 i cp, U64 bl]) 36 (Slc nb9 0 (i + 1) cp2) ([Slc nb9 0 (i + 1) cp2]) ([I64 (kd), .slice ai ni ci, Slc nb9 0 (i + 1) cp2, U64 bl]) rfl rfl rfl rfl E2 rfl (by simp [Value.oneCell']) (Nat.le_of_ble_eq_true rfl) (rfl))) ?_
   show DP _ _ _ _ _ _ _ _ [_, ⟨nb3, [I64 (kd), .slice ai ni ci, Slc nb9 0 (i + 1) cp2, U64 bl], 36, (0, 0)⟩, _, _, _]
   refine C4 ⟨[3, 4, 5, 7], [0, 1, 2, 6], [0, 1, 2, 6], [], []⟩ rfl rfl (by decide +kernel) rfl trivial ?_
   refine CI (F' := [(20, Ptr nb3 2), (21, Slc gb 0 i cp), (22, .agg ([U64 x2.e] ++ cu8 x2.d ++ cu8 x2.t).toArray), (23, .agg ([U64 x2.e] ++ cu8 x2.d ++ cu8 x2.t).toArray), (24, Slc nb8 0 1 1), (25, Slc nb9 0 (i + 1) cp2), (26, Ptr nb3 2), (2, Ptr nb2 0), (3, Ptr nb3 0), (14, .slice sa ns sc), (15, I64 ns), (16, I64 i), (17, .bool (decide (((i:Int)) < ((ns:Int))))), (18, Ptr bz2 (49*i + oz2)), (19, .agg ([U64 x2.e] ++ cu8 x2.d ++ cu8 x2.t).toArray), (5, Ptr nb7 0)]) (by kernel_rfl) ?_
   refine BO (AE (AD (AA (I64 ((i:Int) + 1)) (AR rfl rfl fun _ => DF _ _ ((i:Int) + 1) (by omega) (by omega)) rfl ?_)))
   refine AA _ (AH rfl) rfl ?_
   refine AN (DH (CH [true, true, false, false, true] ?_))
   show K _ _ [_, _, _] _
   refine EP (.inr (i + 1, rr ++ [x2], nb9, sp2, cp2)) ⟨by omega, by omega, (by rw [hi3]; exact take_step hx2), (ha5).trans (by first | rfl | simp +arith), (ha6).trans (by first | rfl | simp +arith), by omega, by omega⟩ (by first | (simp; omega) | simp | (dsimp only; omega) | omega) (Sub.all rfl) rfl
  ·
   have hp1 : ¬ (((i:Int)) < ((ns:Int))) := of_decide_eq_false hb1
   refine D8 (BB (BB (CV (AE (AI (AD (AA (.agg #[I64 (kd), .slice ai ni ci, Slc gb 0 i cp, U64 bl]) (AK rfl (BH Tryd.isAgg36 EC rfl (AS 1 rfl (AL _)))) rfl ?_)))))))
   refine A7 (A5 0 nb2 4 ([I64 0, .slice none 0 0, .slice none 0 0, U64 0]) 36 ([I64 (kd), .slice ai ni ci, Slc gb 0 i cp, U64 bl]) rfl rfl rfl EC rfl (by simp [Value.oneCell']) (Nat.le_of_ble_eq_true rfl) (BC (by simp []))) rfl ?_
   show JL _ _ _ _ _ [⟨nb2, [I64 (kd), .slice ai ni ci, Slc gb 0 i cp, U64 bl], 36, (0, 0)⟩, _, _]
   refine AN (AE (BP (CH [true, false, true] ?_)))
   show JQ _ _ _ _ [_, _]
   refine BQ (.agg #[I64 (kd), .slice ai ni ci, Slc gb 0 i cp, U64 bl]) (res1 Tryd.results66 (DU rfl (BH Tryd.isAgg36 EC rfl (AS 0 rfl (AL _))))) fun w1 hw1 => ?_
   obtain rfl : i = ns := by omega
   have hr : rr = ls := by rw [hi3]; exact List.take_of_length_le (by omega)
   rw [hr] at hw1
   exact ⟨_, _, rfl, ⟨gb, sp, cp, rfl, rfl, by omega, by omega, hi7⟩, hw1.sub (by simp) (by simp)⟩
end Go.Proofs.YtkdpdgpphpngeaaDoor
namespace Go.Proofs.YtkdpdgpphpngeaaDoor
open Go Go.Sx
attribute [local irreducible] mid zr8 zr32 numK rnK valK rotr wordL spreadL comprL cpN adN spN wrdN constL initL padL stN outN routN sumG putL RightB
theorem large_c (kd : Int) (ai : Option Addr) (ni ci : Nat) (l : List UInt64) (sa : Option Addr) (ns sc : Nat) (ls : List SealR) (bl : UInt64)  (w : World) : Calls Tryd.prog 18 #[.agg #[I64 (kd), .slice ai ni ci, .slice sa ns sc, U64 bl]] w (Post w [] (fun v L => v = .bool (decide (LargeP ni ns)) ∧ L = [])) := by
 refine enter (P := Tryd.prog) (f := 18) (fn := Tryd.f18) w [] 25 [] [.agg #[I64 (kd), .slice ai ni ci, .slice sa ns sc, U64 bl]] Tryd.func18 rfl rfl (by simp) (BZ (by simp) (by simp) (by simp)) ?_
 show JC _ _ _ [(0, .agg #[I64 (kd), .slice ai ni ci, .slice sa ns sc, U64 bl])] _
 refine AI (AD (A1 (CW (.agg #[I64 (kd), .slice ai ni ci, .slice sa ns sc, U64 bl]) ([I64 (kd), .slice ai ni ci, .slice sa ns sc, U64 bl]) rfl (by first | rfl | simp)) rfl ?_))
 rintro v1 L1 ⟨nb1, hnb1, rfl, rfl⟩
 show JL _ _ _ _ ((1, Ptr nb1 0) :: _) [⟨nb1, [I64 (kd), .slice ai ni ci, .slice sa ns sc, U64 bl], 26, (0, 0)⟩]
 refine AA _ (AG rfl) rfl ?_
 refine AN (AE (AI (AD (AA (Ptr nb1 1) (AB 1 23 1 AF rfl CB rfl rfl) rfl ?_))))
 refine AA (.slice ai ni ci) (AK rfl (AV CP (AS 0 rfl (AJ (Seg.head))))) rfl ?_
 refine AA (I64 ni) (EL CA rfl) rfl ?_
 refine AA (.bool (decide ((300:Int) < ((ni:Int))))) (AR rfl rfl fun _ => FL _ _) rfl ?_
 refine AA _ (AH rfl) rfl ?_
 rcases Bool.eq_false_or_eq_true (decide ((300:Int) < ((ni:Int)))) with hb1 | hb1
 ·
  have hp1 : (300:Int) < ((ni:Int)) := of_decide_eq_true hb1
  refine AQ 4 7 false _ rfl rfl hb1 rfl ?_
  refine AQ 4 7 false _ rfl rfl hb1 rfl ?_
  refine AQ 4 7 false _ rfl rfl hb1 rfl ?_
  refine AQ 4 7 false _ rfl rfl hb1 rfl ?_
  refine AA _ (CN _ rfl hb1 rfl) rfl ?_
  refine AA _ (AH rfl) rfl ?_
  refine AQ 10 13 false _ rfl rfl rfl rfl ?_
  refine AQ 10 13 false _ rfl rfl rfl rfl ?_
  refine AQ 10 13 false _ rfl rfl rfl rfl ?_
  refine AQ 10 13 false _ rfl rfl rfl rfl ?_
  refine AQ 10 13 false _ rfl rfl rfl rfl ?_
  refine FG 15 18 true rfl rfl rfl ?_
  refine FG 15 18 true rfl rfl rfl ?_
  refine FG 15 18 true rfl rfl rfl ?_
  refine FG 15 18 true rfl rfl rfl ?_
  refine AQ 10 13 false _ rfl rfl rfl rfl ?_
  refine AA _ (CN _ rfl rfl rfl) rfl ?_
  refine AA _ (AG rfl) rfl ?_
  refine AN (AE (BP (BQ (.bool true) (res1 Tryd.results18 (B2 rfl)) fun w1 hw1 => ?_)))
  refine ⟨_, [], rfl, ⟨congrArg Value.bool ?_, rfl⟩, hw1.sub (by simp) (by simp)⟩
  first | exact (decide_eq_true (by unfold LargeP; omega)).symm | exact (decide_eq_false (by unfold LargeP; omega)).symm | exact decide_eq_decide.2 (by unfold LargeP; omega)
 ·
  have hp1 : ¬ ((300:Int) < ((ni:Int))) := of_decide_eq_false hb1
  refine A0 4 7 false _ (Ptr nb1 2) rfl rfl hb1 (AB 2 24 1 AF rfl BL rfl rfl) rfl ?_
  refine A0 4 7 false _ (.slice sa ns sc) rfl rfl hb1 (AK rfl (AV BW (AS 0 rfl (AJ (AJ (Seg.head)))))) rfl ?_
  refine A0 4 7 false _ (I64 ns) rfl rfl hb1 (EL CC rfl) rfl ?_
  refine A0 4 7 false _ (.bool (decide ((300:Int) < ((ns:Int))))) rfl rfl hb1 (AR rfl rfl fun _ => FL _ _) rfl ?_
  refine AA _ (BU _ rfl hb1 rfl) rfl ?_
  refine AA _ (AH rfl) rfl ?_
  rcases Bool.eq_false_or_eq_true (decide ((300:Int) < ((ns:Int)))) with hb2 | hb2
  ·
   have hp2 : (300:Int) < ((ns:Int)) := of_decide_eq_true hb2
   refine AQ 10 13 false _ rfl rfl hb2 rfl ?_
   refine AQ 10 13 false _ rfl rfl hb2 rfl ?_
   refine AQ 10 13 false _ rfl rfl hb2 rfl ?_
   refine AQ 10 13 false _ rfl rfl hb2 rfl ?_
   refine AQ 10 13 false _ rfl rfl hb2 rfl ?_
   refine FG 15 18 true rfl rfl rfl ?_
   refine FG 15 18 true rfl rfl rfl ?_
   refine FG 15 18 true rfl rfl rfl ?_
   refine FG 15 18 true rfl rfl rfl ?_
   refine AQ 10 13 false _ rfl rfl hb2 rfl ?_
   refine AA _ (CN _ rfl hb2 rfl) rfl ?_
   refine AA _ (AG rfl) rfl ?_
   refine AN (AE (BP (BQ (.bool true) (res1 Tryd.results18 (B2 rfl)) fun w1 hw1 => ?_)))
   refine ⟨_, [], rfl, ⟨congrArg Value.bool ?_, rfl⟩, hw1.sub (by simp) (by simp)⟩
   first | exact (decide_eq_true (by unfold LargeP; omega)).symm | exact (decide_eq_false (by unfold LargeP; omega)).symm | exact decide_eq_decide.2 (by unfold LargeP; omega)
  ·
   have hp2 : ¬ ((300:Int) < ((ns:Int))) := of_decide_eq_false hb2
   refine A0 10 13 false _ (Ptr nb1 2) rfl rfl hb2 (AB 2 24 1 AF rfl BL rfl rfl) rfl ?_
   refine A0 10 13 false _ (.slice sa ns sc) rfl rfl hb2 (AK rfl (AV BW (AS 0 rfl (AJ (AJ (Seg.head)))))) rfl ?_
   refine A0 10 13 false _ (I64 ns) rfl rfl hb2 (EL CC rfl) rfl ?_
   refine A0 10 13 false _ (.bool (decide ((20:Int) < ((ns:Int))))) rfl rfl hb2 (AR rfl rfl fun _ => FL _ _) rfl ?_
   refine A0 10 13 false _ _ rfl rfl hb2 (AH rfl) rfl ?_
   rcases Bool.eq_false_or_eq_true (decide ((20:Int) < ((ns:Int)))) with hb3 | hb3
   ·
    have hp3 : (20:Int) < ((ns:Int)) := of_decide_eq_true hb3
    refine A0 15 18 true _ (Ptr nb1 2) rfl rfl hb3 (AB 2 24 1 AF rfl BL rfl rfl) rfl ?_
    refine A0 15 18 true _ (.slice sa ns sc) rfl rfl hb3 (AK rfl (AV BW (AS 0 rfl (AJ (AJ (Seg.head)))))) rfl ?_
    refine A0 15 18 true _ (I64 ns) rfl rfl hb3 (EL CC rfl) rfl ?_
    refine A0 15 18 true _ (.bool (decide (((ns:Int)) ≤ (256:Int)))) rfl rfl hb3 (AR rfl rfl fun _ => bin_leq_i _ _) rfl ?_
    refine A0 10 13 false _ _ rfl rfl hb2 (CN _ rfl hb3 rfl) rfl ?_
    refine AA _ (BU _ rfl hb2 rfl) rfl ?_
    refine AA _ (AG rfl) rfl ?_
    refine AN (AE (BP (BQ (.bool (decide (((ns:Int)) ≤ (256:Int)))) (res1 Tryd.results18 (B2 rfl)) fun w1 hw1 => ?_)))
    refine ⟨_, [], rfl, ⟨congrArg Value.bool ?_, rfl⟩, hw1.sub (by simp) (by simp)⟩
    first | exact (decide_eq_true (by unfold LargeP; omega)).symm | exact (decide_eq_false (by unfold LargeP; omega)).symm | exact decide_eq_decide.2 (by unfold LargeP; omega)
   ·
    have hp3 : ¬ ((20:Int) < ((ns:Int))) := of_decide_eq_false hb3
    refine AQ 15 18 true _ rfl rfl hb3 rfl ?_
    refine AQ 15 18 true _ rfl rfl hb3 rfl ?_
    refine AQ 15 18 true _ rfl rfl hb3 rfl ?_
    refine AQ 15 18 true _ rfl rfl hb3 rfl ?_
    refine A0 10 13 false _ _ rfl rfl hb2 (BU _ rfl hb3 rfl) rfl ?_
    refine AA _ (BU _ rfl hb2 rfl) rfl ?_
    refine AA _ (AG rfl) rfl ?_
    refine AN (AE (BP (BQ (.bool false) (res1 Tryd.results18 (B2 rfl)) fun w1 hw1 => ?_)))
    refine ⟨_, [], rfl, ⟨congrArg Value.bool ?_, rfl⟩, hw1.sub (by simp) (by simp)⟩
    first | exact (decide_eq_true (by unfold LargeP; omega)).symm | exact (decide_eq_false (by unfold LargeP; omega)).symm | exact decide_eq_decide.2 (by unfold LargeP; omega)
theorem eq64_c (ai : Option Addr) (ni ci : Nat) (l : List UInt64) (ai2 : Option Addr) (ni2 ci2 : Nat) (l2 : List UInt64)  (w : World) (hl : l.length = ni) (hnm : ni ≤ 2000000) (hnc : ni ≤ ci) (hcm : ci ≤ maxLen) (hv : RdV w ai (cu64 l)) (hl2 : l2.length = ni2) (hnm2 : ni2 ≤ 2000000) (hnc2 : ni2 ≤ ci2) (hcm2 : ci2 ≤ maxLen) (hv2 : RdV w ai2 (cu64 l2))  : Calls Tryd.prog 115 #[.slice ai ni ci, .slice ai2 ni2 ci2] w (Post w [] (fun v L => v = .bool (decide (l = l2)) ∧ L = [])) := by
 have hmx : maxLen = 9223372036854775807 := rfl
 refine enter w [] 26 [] [.slice ai ni ci, .slice ai2 ni2 ci2] Tryd.func115 rfl rfl (by simp) (BZ (by simp) (by simp) (by simp)) ?_
 show JC _ _ _ [(0, .slice ai ni ci), (1, .slice ai2 ni2 ci2)] _
 refine AI (AD (AA _ (AG rfl) rfl ?_))
 refine AN (AE (AI (AI (AD (AA _ (AH rfl) rfl ?_)))))
 refine AA (I64 ni) (EL CA rfl) rfl ?_
 refine AA _ (AH rfl) rfl ?_
 refine AA (I64 ni2) (EL CA rfl) rfl ?_
 refine AA (.bool (decide (((ni:Int)) ≠ ((ni2:Int))))) (AR rfl rfl fun _ => bin_neq_i _ _) rfl ?_
 refine AN (AE (CY (decide (((ni:Int)) ≠ ((ni2:Int)))) rfl (fun hb1 => ?_) (fun hb1 => ?_)))
 ·
  have hp1 : ((ni:Int)) ≠ ((ni2:Int)) := of_decide_eq_true hb1
  refine AI (AD (AA _ (AG rfl) rfl ?_))
  refine AN (AE (BP (BN (BQ (.bool false) (res1 Tryd.results115 (B2 rfl)) fun w1 hw1 => ?_))))
  refine ⟨_, [], rfl, ⟨congrArg Value.bool ?_, rfl⟩, hw1.sub (by simp) (by simp)⟩
  refine (decide_eq_false (fun h => ?_)).symm
  first | (have := congrArg List.length h; omega) | exact list_ne (g64_at (i := i) (by omega)) (g64_at (i := i) (by omega)) (by assumption) h
 ·
  have hp1 : ¬ (((ni:Int)) ≠ ((ni2:Int))) := of_decide_eq_false hb1
  refine BT (AE (AI (AI (AD (AA _ (AH rfl) rfl ?_)))))
  refine AA (I64 ni) (EL CA rfl) rfl ?_
  refine AA _ (AH rfl) rfl ?_
  refine AN (AE (BY (EE (ι := Nat) (fun i => [(0, .slice ai ni ci), (1, .slice ai2 ni2 ci2), (12, I64 ni), (13, I64 i)]) (fun i => []) (fun i => i ≤ ni ∧ ∀ k, k < i → ∀ x y, l[k]? = some x → l2[k]? = some y → x = y) (fun i => ni - i) 0 ⟨by omega, fun k hk => absurd hk (by omega)⟩ (Sub.all rfl) rfl ?_)))
  rintro i ⟨hi1, hi2⟩
  show JC _ _ _ [(0, .slice ai ni ci), (1, .slice ai2 ni2 ci2), (12, I64 ni), (13, I64 i)] []
  refine AI (AD (AA (.bool (decide (((i:Int)) < ((ni:Int))))) (AR rfl rfl fun _ => CS _ _) rfl ?_))
  refine AN (AE (AI (CY (decide (((i:Int)) < ((ni:Int)))) rfl (fun hb2 => ?_) (fun hb2 => ?_))))
  ·
   have hp2 : ((i:Int)) < ((ni:Int)) := of_decide_eq_true hb2
   refine BT (AE (AI (BY (AI (AD (AA _ (AH rfl) rfl ?_))))))
   refine AA _ (AG rfl) rfl ?_
   refine AN (AE (AI ?_))
   obtain ⟨bz1, oz1, hz1, hm1⟩ := RdV.pos hv (by rw [F4, hl]; omega)
   obtain ⟨bz2, oz2, hz2, hm2⟩ := RdV.pos hv2 (by rw [F4, hl2]; omega)
   refine C1 26 1 [(0, .slice ai ni ci), (1, I64 i), (2, Ptr bz1 (i + oz1)), (3, U64 (g64 l i)), (4, .slice ai2 ni2 ci2), (5, I64 i), (6, Ptr bz2 (i + oz2)), (7, U64 (g64 l2 i)), (8, .bool (decide ((g64 l i) ≠ (g64 l2 i))))] BV rfl (by decide +kernel) ?_
   refine C4 ⟨[], [0, 1, 2, 3, 4, 5, 6, 7, 8], [], [0, 1, 2, 3, 4, 5, 6, 7, 8], []⟩ rfl rfl (by decide +kernel) rfl ⟨A2 rfl rfl rfl, A2 rfl rfl rfl, ⟨_, rfl, AC rfl (D9 22 1 (i + oz1) CA AU rfl hz1 rfl (by omega) (by omega) (by omega))⟩, ⟨_, rfl, AC rfl (AK rfl (AV AX (C8 (hm1.mem (by simp)) (Seg.get (g64_get (i := i) (by rw [hl]; omega))) (by omega))))⟩, A2 rfl rfl rfl, A2 rfl rfl rfl, ⟨_, rfl, AC rfl (D9 22 1 (i + oz2) CA AU rfl hz2 rfl (by omega) (by omega) (by omega))⟩, ⟨_, rfl, AC rfl (AK rfl (AV AX (C8 (hm2.mem (by simp)) (Seg.get (g64_get (i := i) (by rw [hl2]; omega))) (by omega))))⟩, ⟨_, rfl, AC rfl (AR rfl rfl fun _ => bin_neq_u64 (g64 l i) (g64 l2 i))⟩, trivial⟩ ?_
   refine CI (F' := [(16, .slice ai ni ci), (17, I64 i), (18, Ptr bz1 (i + oz1)), (19, U64 (g64 l i)), (20, .slice ai2 ni2 ci2), (21, I64 i), (22, Ptr bz2 (i + oz2)), (23, U64 (g64 l2 i)), (24, .bool (decide ((g64 l i) ≠ (g64 l2 i)))), (0, .slice ai ni ci), (1, .slice ai2 ni2 ci2), (12, I64 ni), (13, I64 i), (14, .bool (decide (((i:Int)) < ((ni:Int))))), (15, I64 i), (5, I64 i)]) (by kernel_rfl) ?_
   refine AE (CY (decide ((g64 l i) ≠ (g64 l2 i))) rfl (fun hb3 => ?_) (fun hb3 => ?_))
   ·
    have hp3 : (g64 l i) ≠ (g64 l2 i) := of_decide_eq_true hb3
    refine AI (AD (AA _ (AG rfl) rfl ?_))
    refine AN (AE (BP (DV (BN (BN (DV (BN (BQ (.bool false) (res1 Tryd.results115 (B2 rfl)) fun w1 hw1 => ?_))))))))
    refine ⟨_, [], rfl, ⟨congrArg Value.bool ?_, rfl⟩, hw1.sub (by simp) (by simp)⟩
    refine (decide_eq_false (fun h => ?_)).symm
    first | (have := congrArg List.length h; omega) | exact list_ne (g64_at (i := i) (by omega)) (g64_at (i := i) (by omega)) (by assumption) h
   ·
    have hp3 : ¬ ((g64 l i) ≠ (g64 l2 i)) := of_decide_eq_false hb3
    refine BT (BO (AE (AD (AA (I64 ((i:Int) + 1)) (AR rfl rfl fun _ => DF _ _ ((i:Int) + 1) (by omega) (by omega)) rfl ?_))))
    refine AA _ (AH rfl) rfl ?_
    refine AN (DH (EP (i + 1) ⟨by omega, eq_step (g64_at (i := i) (by omega)) (g64_at (i := i) (by omega)) (Classical.not_not.1 (by assumption)) hi2⟩ (by first | (simp; omega) | simp | (dsimp only; omega) | omega) (Sub.all rfl) rfl))
  ·
   have hp2 : ¬ (((i:Int)) < ((ni:Int))) := of_decide_eq_false hb2
   refine D8 (BB (BB (CV (AE (AI (AD (AA _ (AG rfl) rfl ?_)))))))
   refine AN (AE (BP (BQ (.bool true) (res1 Tryd.results115 (B2 rfl)) fun w1 hw1 => ?_)))
   refine ⟨_, [], rfl, ⟨congrArg Value.bool ?_, rfl⟩, hw1.sub (by simp) (by simp)⟩
   exact (decide_eq_true (list_eq (by omega) (by rw [hl]; intro k hk; exact hi2 k (by omega)))).symm
theorem eqS_c (sa : Option Addr) (ns sc : Nat) (ls : List SealR) (sa2 : Option Addr) (ns2 sc2 : Nat) (ls2 : List SealR)  (w : World) (hls : ls.length = ns) (hnn : ns ≤ 2000000) (hnd : ns ≤ sc) (hcn : sc ≤ maxLen) (hs : RdV w sa (ls.flatMap sealC)) (hls2 : ls2.length = ns2) (hnn2 : ns2 ≤ 2000000) (hnd2 : ns2 ≤ sc2) (hcn2 : sc2 ≤ maxLen) (hs2 : RdV w sa2 (ls2.flatMap sealC))  : Calls Tryd.prog 116 #[.slice sa ns sc, .slice sa2 ns2 sc2] w (Post w [] (fun v L => v = .bool (decide (ls = ls2)) ∧ L = [])) := by
 have hmx : maxLen = 9223372036854775807 := rfl
 refine enter w [] 26 [] [.slice sa ns sc, .slice sa2 ns2 sc2] Tryd.func116 rfl rfl (by simp) (BZ (by simp) (by simp) (by simp)) ?_
 show JC _ _ _ [(0, .slice sa ns sc), (1, .slice sa2 ns2 sc2)] _
 refine AI (AD (AA _ (AG rfl) rfl ?_))
 refine AN (AE (AI (AI (AD (AA _ (AH rfl) rfl ?_)))))
 refine AA (I64 ns) (EL CC rfl) rfl ?_
 refine AA _ (AH rfl) rfl ?_
 refine AA (I64 ns2) (EL CC rfl) rfl ?_
 refine AA (.bool (decide (((ns:Int)) ≠ ((ns2:Int))))) (AR rfl rfl fun _ => bin_neq_i _ _) rfl ?_
 refine AN (AE (CY (decide (((ns:Int)) ≠ ((ns2:Int)))) rfl (fun hb1 => ?_) (fun hb1 => ?_)))
 ·
  have hp1 : ((ns:Int)) ≠ ((ns2:Int)) := of_decide_eq_true hb1
  refine AI (AD (AA _ (AG rfl) rfl ?_))
  refine AN (AE (BP (BN (BQ (.bool false) (res1 Tryd.results116 (B2 rfl)) fun w1 hw1 => ?_))))
  refine ⟨_, [], rfl, ⟨congrArg Value.bool ?_, rfl⟩, hw1.sub (by simp) (by simp)⟩
  refine (decide_eq_false (fun h => ?_)).symm
  first | (have := congrArg List.length h; omega) | exact absurd h h
 ·
  have hp1 : ¬ (((ns:Int)) ≠ ((ns2:Int))) := of_decide_eq_false hb1
  refine BT (AE (AI (AI (AD (AA _ (AH rfl) rfl ?_)))))
  refine AA (I64 ns) (EL CC rfl) rfl ?_
  refine AA _ (AH rfl) rfl ?_
  refine AN (AE (BY (EE (ι := Nat) (fun i => [(0, .slice sa ns sc), (1, .slice sa2 ns2 sc2), (12, I64 ns), (13, I64 i)]) (fun i => []) (fun i => i ≤ ns ∧ ∀ k, k < i → ∀ x y, ls[k]? = some x → ls2[k]? = some y → x = y) (fun i => ns - i) 0 ⟨by omega, fun k hk => absurd hk (by omega)⟩ (Sub.all rfl) rfl ?_)))
  rintro i ⟨hi1, hi2⟩
  show JC _ _ _ [(0, .slice sa ns sc), (1, .slice sa2 ns2 sc2), (12, I64 ns), (13, I64 i)] []
  refine AI (AD (AA (.bool (decide (((i:Int)) < ((ns:Int))))) (AR rfl rfl fun _ => CS _ _) rfl ?_))
  refine AN (AE (AI (CY (decide (((i:Int)) < ((ns:Int)))) rfl (fun hb2 => ?_) (fun hb2 => ?_))))
  ·
   have hp2 : ((i:Int)) < ((ns:Int)) := of_decide_eq_true hb2
   refine BT (AE (AI (BY (AI (AD (AA _ (AH rfl) rfl ?_))))))
   refine AA _ (AG rfl) rfl ?_
   refine AN (AE (AI ?_))
   obtain ⟨x1, hx1⟩ : ∃ x, ls[i]? = some x := ⟨_, List.getElem?_eq_getElem (by rw [hls]; omega)⟩
   obtain ⟨bz1, oz1, hz1, hm1⟩ := rows_at FR (by decide) hs hx1
   obtain ⟨x2, hx2⟩ : ∃ x, ls2[i]? = some x := ⟨_, List.getElem?_eq_getElem (by rw [hls2]; omega)⟩
   obtain ⟨bz2, oz2, hz2, hm2⟩ := rows_at FR (by decide) hs2 hx2
   refine C1 26 1 [(0, .slice sa ns sc), (1, I64 i), (2, Ptr bz1 (49*i + oz1)), (3, .agg ([U64 x1.e] ++ cu8 x1.d ++ cu8 x1.t).toArray), (4, .slice sa2 ns2 sc2), (5, I64 i), (6, Ptr bz2 (49*i + oz2)), (7, .agg ([U64 x2.e] ++ cu8 x2.d ++ cu8 x2.t).toArray), (8, .bool (!(decide (x1.e = x2.e ∧ x1.d = x2.d ∧ x1.t = x2.t))))] BV rfl (by decide +kernel) ?_
   refine C4 ⟨[], [0, 1, 2, 3, 4, 5, 6, 7, 8], [], [0, 1, 2, 3, 4, 5, 6, 7, 8], []⟩ rfl rfl (by decide +kernel) rfl ⟨A2 rfl rfl rfl, A2 rfl rfl rfl, ⟨_, rfl, AC rfl (D9 161 49 (49*i + oz1) CC CE rfl hz1 rfl (by omega) (by omega) (by omega))⟩, ⟨_, rfl, AC rfl (AK rfl (BH ED CE (by simp [x1.hd, x1.ht]) (C8 (hm1.mem (by simp)) (AL _) (by omega))))⟩, A2 rfl rfl rfl, A2 rfl rfl rfl, ⟨_, rfl, AC rfl (D9 161 49 (49*i + oz2) CC CE rfl hz2 rfl (by omega) (by omega) (by omega))⟩, ⟨_, rfl, AC rfl (AK rfl (BH ED CE (by simp [x2.hd, x2.ht]) (C8 (hm2.mem (by simp)) (AL _) (by omega))))⟩, ⟨_, rfl, AC rfl (C2 _ _ _ rfl rfl (fun _ => eqGuard_agg _ _ _ _ _ _ (by kernel_rfl)) (neq_struct (x1.e = x2.e ∧ x1.d = x2.d ∧ x1.t = x2.t) (EqV.struct (d := 9999) (by kernel_rfl) (by kernel_rfl) (by kernel_rfl) (EqRs.cons 22 0 (U64 x1.e) (U64 x2.e) _ _ _ (PartV.one AX (A4 (A4 (Seg.head)))) (PartV.one AX (A4 (A4 (Seg.head)))) (EqV.u64 (d := 9998) CF x1.e x2.e) (EqRs.cons 159 1 (.agg (cu8 x1.d).toArray) (.agg (cu8 x2.d).toArray) _ _ _ (PartV.agg Tryd.isAgg159 Tryd.sizeOf159 (Seg.cut (A4 (Seg.right 1 0 rfl rfl (AL _))) (CM x1.hd) (by omega))) (PartV.agg Tryd.isAgg159 Tryd.sizeOf159 (Seg.cut (A4 (Seg.right 1 0 rfl rfl (AL _))) (CM x2.hd) (by omega))) (EqV.arr8 (d := 9997) E1 B6 D4 F5 Tryd.has5 (by simp [x1.hd]) (by simp [x2.hd])) (EqRs.last 27 33 (.agg (cu8 x1.t).toArray) (.agg (cu8 x2.t).toArray) _ (PartV.agg DO BE (Seg.cut (Seg.right 33 0 (by simp [x1.hd]) rfl (AL _)) (CM x1.ht) (by omega))) (PartV.agg DO BE (Seg.cut (Seg.right 33 0 (by simp [x2.hd]) rfl (AL _)) (CM x2.ht) (by omega))) (EqV.arr8 (d := 9997) BJ B6 D4 F5 Tryd.has5 (by simp [x1.ht]) (by simp [x2.ht])))))) (by first | rfl | (simp only [Bool.decide_and, Bool.and_assoc]; done) | (simp [Bool.and_assoc]; done))))⟩, trivial⟩ ?_
   refine CI (F' := [(16, .slice sa ns sc), (17, I64 i), (18, Ptr bz1 (49*i + oz1)), (19, .agg ([U64 x1.e] ++ cu8 x1.d ++ cu8 x1.t).toArray), (20, .slice sa2 ns2 sc2), (21, I64 i), (22, Ptr bz2 (49*i + oz2)), (23, .agg ([U64 x2.e] ++ cu8 x2.d ++ cu8 x2.t).toArray), (24, .bool (!(decide (x1.e = x2.e ∧ x1.d = x2.d ∧ x1.t = x2.t)))), (0, .slice sa ns sc), (1, .slice sa2 ns2 sc2), (12, I64 ns), (13, I64 i), (14, .bool (decide (((i:Int)) < ((ns:Int))))), (15, I64 i), (5, I64 i)]) (by kernel_rfl) ?_
   refine AE (CY (!(decide (x1.e = x2.e ∧ x1.d = x2.d ∧ x1.t = x2.t))) rfl (fun hb3 => ?_) (fun hb3 => ?_))
   ·
    have hb4 : (decide (x1.e = x2.e ∧ x1.d = x2.d ∧ x1.t = x2.t)) = false := by first | simpa using hb3 | exact Eq.mp (Bool.not_eq_true' _) hb3
    have hp4 : ¬ (x1.e = x2.e ∧ x1.d = x2.d ∧ x1.t = x2.t) := of_decide_eq_false hb4
    refine AI (AD (AA _ (AG rfl) rfl ?_))
    refine AN (AE (BP (DV (BN (BN (DV (BN (BQ (.bool false) (res1 Tryd.results116 (B2 rfl)) fun w1 hw1 => ?_))))))))
    refine ⟨_, [], rfl, ⟨congrArg Value.bool ?_, rfl⟩, hw1.sub (by simp) (by simp)⟩
    refine (decide_eq_false (fun h => ?_)).symm
    first | (have := congrArg List.length h; omega) | exact list_ne hx1 hx2 (fun e => (by assumption : ¬ _) ((SealR.eq_iff _ _).1 e)) h
   ·
    have hb5 : (decide (x1.e = x2.e ∧ x1.d = x2.d ∧ x1.t = x2.t)) = true := by first | simpa using hb3 | exact Eq.mp (Bool.not_eq_false' _) hb3
    have hp5 : x1.e = x2.e ∧ x1.d = x2.d ∧ x1.t = x2.t := of_decide_eq_true hb5
    refine BT (BO (AE (AD (AA (I64 ((i:Int) + 1)) (AR rfl rfl fun _ => DF _ _ ((i:Int) + 1) (by omega) (by omega)) rfl ?_))))
    refine AA _ (AH rfl) rfl ?_
    refine AN (DH (EP (i + 1) ⟨by omega, eq_step hx1 hx2 ((SealR.eq_iff _ _).2 (by first | assumption | exact Classical.not_not.1 (by assumption))) hi2⟩ (by first | (simp; omega) | simp | (dsimp only; omega) | omega) (Sub.all rfl) rfl))
  ·
   have hp2 : ¬ (((i:Int)) < ((ns:Int))) := of_decide_eq_false hb2
   refine D8 (BB (BB (CV (AE (AI (AD (AA _ (AG rfl) rfl ?_)))))))
   refine AN (AE (BP (BQ (.bool true) (res1 Tryd.results116 (B2 rfl)) fun w1 hw1 => ?_)))
   refine ⟨_, [], rfl, ⟨congrArg Value.bool ?_, rfl⟩, hw1.sub (by simp) (by simp)⟩
   exact (decide_eq_true (list_eq (by omega) (by rw [hls]; intro k hk; exact hi2 k (by omega)))).symm
theorem GC (pv ep : UInt64) (kd : Int) (ai : Option Addr) (ni ci : Nat) (l : List UInt64) (sa : Option Addr) (ns sc : Nat) (ls : List SealR) (bl : UInt64) (tg : List UInt8) (pv2 ep2 : UInt64) (kd2 : Int) (ai2 : Option Addr) (ni2 ci2 : Nat) (l2 : List UInt64) (sa2 : Option Addr) (ns2 sc2 : Nat) (ls2 : List SealR) (bl2 : UInt64) (tg2 : List UInt8)  (w : World) (hl : l.length = ni) (hnm : ni ≤ 2000000) (hnc : ni ≤ ci) (hcm : ci ≤ maxLen) (hv : RdV w ai (cu64 l)) (hls : ls.length = ns) (hnn : ns ≤ 2000000) (hnd : ns ≤ sc) (hcn : sc ≤ maxLen) (hs : RdV w sa (ls.flatMap sealC)) (htg : tg.length = 16) (hl2 : l2.length = ni2) (hnm2 : ni2 ≤ 2000000) (hnc2 : ni2 ≤ ci2) (hcm2 : ci2 ≤ maxLen) (hv2 : RdV w ai2 (cu64 l2)) (hls2 : ls2.length = ns2) (hnn2 : ns2 ≤ 2000000) (hnd2 : ns2 ≤ sc2) (hcn2 : sc2 ≤ maxLen) (hs2 : RdV w sa2 (ls2.flatMap sealC)) (htg2 : tg2.length = 16)  : Calls Tryd.prog 49 #[.agg ([U64 pv, U64 ep, I64 (kd), .slice ai ni ci, .slice sa ns sc, U64 bl] ++ cu8 tg).toArray, .agg ([U64 pv2, U64 ep2, I64 (kd2), .slice ai2 ni2 ci2, .slice sa2 ns2 sc2, U64 bl2] ++ cu8 tg2).toArray] w (Post w [] (fun v L => v = .bool (decide (pv = pv2 ∧ ep = ep2 ∧ tg = tg2 ∧ kd = kd2 ∧ bl = bl2 ∧ l = l2 ∧ ls = ls2)) ∧ L = [])) := by
 have hmx : maxLen = 9223372036854775807 := rfl
 refine enter (P := Tryd.prog) (f := 49) (fn := Tryd.f49) w [] 58 [] [.agg ([U64 pv, U64 ep, I64 (kd), .slice ai ni ci, .slice sa ns sc, U64 bl] ++ cu8 tg).toArray, .agg ([U64 pv2, U64 ep2, I64 (kd2), .slice ai2 ni2 ci2, .slice sa2 ns2 sc2, U64 bl2] ++ cu8 tg2).toArray] Tryd.func49 rfl rfl (by simp) (BZ (by simp) (by simp) (by simp)) ?_
 show JC _ _ _ [(0, .agg ([U64 pv, U64 ep, I64 (kd), .slice ai ni ci, .slice sa ns sc, U64 bl] ++ cu8 tg).toArray), (1, .agg ([U64 pv2, U64 ep2, I64 (kd2), .slice ai2 ni2 ci2, .slice sa2 ns2 sc2, U64 bl2] ++ cu8 tg2).toArray)] _
 refine AI (AD (A1 (CW (.agg ([U64 pv, U64 ep, I64 (kd), .slice ai ni ci, .slice sa ns sc, U64 bl] ++ cu8 tg).toArray) ([U64 pv, U64 ep, I64 (kd), .slice ai ni ci, .slice sa ns sc, U64 bl] ++ cu8 tg) rfl (by first | rfl | simp)) rfl ?_))
 rintro v1 L1 ⟨nb1, hnb1, rfl, rfl⟩
 show JL _ _ _ _ ((2, Ptr nb1 0) :: _) [⟨nb1, [U64 pv, U64 ep, I64 (kd), .slice ai ni ci, .slice sa ns sc, U64 bl] ++ cu8 tg, 29, (0, 0)⟩]
 refine A1 (CW (.agg ([U64 pv2, U64 ep2, I64 (kd2), .slice ai2 ni2 ci2, .slice sa2 ns2 sc2, U64 bl2] ++ cu8 tg2).toArray) ([U64 pv2, U64 ep2, I64 (kd2), .slice ai2 ni2 ci2, .slice sa2 ns2 sc2, U64 bl2] ++ cu8 tg2) rfl (by first | rfl | simp)) rfl ?_
 rintro v1 L1 ⟨nb2, hnb2, rfl, rfl⟩
 show JL _ _ _ _ ((3, Ptr nb2 0) :: _) [_, ⟨nb2, [U64 pv2, U64 ep2, I64 (kd2), .slice ai2 ni2 ci2, .slice sa2 ns2 sc2, U64 bl2] ++ cu8 tg2, 29, (0, 0)⟩]
 refine AA _ (AG rfl) rfl ?_
 refine AN (AE (AI (C1 58 5 [(0, Ptr nb1 2), (1, .agg #[I64 (kd), .slice ai ni ci, .slice sa ns sc, U64 bl]), (2, Ptr nb2 2), (3, .agg #[I64 (kd2), .slice ai2 ni2 ci2, .slice sa2 ns2 sc2, U64 bl2])] BV rfl (by decide +kernel) ?_)))
 refine DP_two ⟨[], [0, 1, 2, 3], [], [0, 1, 2, 3], [4, 5]⟩ 4 5 _ _ rfl rfl (by decide +kernel) rfl ⟨⟨_, rfl, AC rfl (AB 2 26 4 AO rfl A8 rfl rfl)⟩, ⟨_, rfl, AC rfl (AK rfl (BH DG A8 rfl (AS 0 rfl (EI (p := [U64 pv, U64 ep]) (q := cu8 tg) (vs := [I64 (kd), .slice ai ni ci, .slice sa ns sc, U64 bl]) (by first | rfl | (simp only [List.append_assoc, List.nil_append, List.append_nil, List.cons_append]; done)) rfl))))⟩, ⟨_, rfl, AC rfl (AB 2 26 4 AO rfl A8 rfl rfl)⟩, ⟨_, rfl, AC rfl (AK rfl (BH DG A8 rfl (AS 1 rfl (EI (p := [U64 pv2, U64 ep2]) (q := cu8 tg2) (vs := [I64 (kd2), .slice ai2 ni2 ci2, .slice sa2 ns2 sc2, U64 bl2]) (by first | rfl | (simp only [List.append_assoc, List.nil_append, List.append_nil, List.cons_append]; done)) rfl))))⟩, trivial⟩ rfl rfl (AZ rfl (BG _ ([I64 0, .slice none 0 0, .slice none 0 0, U64 0]) Tryd.zeroValue26 (by kernel_rfl))) (AZ rfl (BG _ ([I64 0, .slice none 0 0, .slice none 0 0, U64 0]) Tryd.zeroValue26 (by kernel_rfl))) ?_ ?_
 ·
  rintro v1 L1 ⟨nb3, hnb3, rfl, rfl⟩
  refine ⟨[], ?_⟩
  show DP _ _ _ _ _ _ _ _ [_, _, ⟨nb3, [I64 0, .slice none 0 0, .slice none 0 0, U64 0], 26, (0, 0)⟩]
  refine CR ⟨[4], [0, 1, 2, 3], [], [0, 1, 2, 3], [5]⟩ 5 _ rfl rfl (by decide +kernel) rfl ⟨⟨_, rfl, AC rfl (AB 2 26 4 AO rfl A8 rfl rfl)⟩, ⟨_, rfl, AC rfl (AK rfl (BH DG A8 rfl (AS 0 rfl (EI (p := [U64 pv, U64 ep]) (q := cu8 tg) (vs := [I64 (kd), .slice ai ni ci, .slice sa ns sc, U64 bl]) (by first | rfl | (simp only [List.append_assoc, List.nil_append, List.append_nil, List.cons_append]; done)) rfl))))⟩, ⟨_, rfl, AC rfl (AB 2 26 4 AO rfl A8 rfl rfl)⟩, ⟨_, rfl, AC rfl (AK rfl (BH DG A8 rfl (AS 1 rfl (EI (p := [U64 pv2, U64 ep2]) (q := cu8 tg2) (vs := [I64 (kd2), .slice ai2 ni2 ci2, .slice sa2 ns2 sc2, U64 bl2]) (by first | rfl | (simp only [List.append_assoc, List.nil_append, List.append_nil, List.cons_append]; done)) rfl))))⟩, trivial⟩ rfl (AZ rfl (BG _ ([I64 0, .slice none 0 0, .slice none 0 0, U64 0]) Tryd.zeroValue26 (by kernel_rfl))) ?_
  rintro v1 L1 ⟨nb5, hnb5, rfl, rfl⟩
  refine ⟨[], ?_⟩
  show DP _ _ _ _ _ _ _ _ [_, _, _, ⟨nb5, [I64 0, .slice none 0 0, .slice none 0 0, U64 0], 26, (0, 0)⟩]
  refine CQ ⟨[4, 5], [0, 1, 2, 3], [], [0, 1, 2, 3], [6]⟩ 6 rfl rfl (by decide +kernel) rfl ⟨⟨_, rfl, AC rfl (AB 2 26 4 AO rfl A8 rfl rfl)⟩, ⟨_, rfl, AC rfl (AK rfl (BH DG A8 rfl (AS 0 rfl (EI (p := [U64 pv, U64 ep]) (q := cu8 tg) (vs := [I64 (kd), .slice ai ni ci, .slice sa ns sc, U64 bl]) (by first | rfl | (simp only [List.append_assoc, List.nil_append, List.append_nil, List.cons_append]; done)) rfl))))⟩, ⟨_, rfl, AC rfl (AB 2 26 4 AO rfl A8 rfl rfl)⟩, ⟨_, rfl, AC rfl (AK rfl (BH DG A8 rfl (AS 1 rfl (EI (p := [U64 pv2, U64 ep2]) (q := cu8 tg2) (vs := [I64 (kd2), .slice ai2 ni2 ci2, .slice sa2 ns2 sc2, U64 bl2]) (by first | rfl | (simp only [List.append_assoc, List.nil_append, List.append_nil, List.cons_append]; done)) rfl))))⟩, trivial⟩ rfl (AZ rfl (A5 2 nb3 4 ([I64 0, .slice none 0 0, .slice none 0 0, U64 0]) 26 ([I64 (kd), .slice ai ni ci, .slice sa ns sc, U64 bl]) rfl rfl rfl A8 rfl (by simp [Value.oneCell']) (Nat.le_of_ble_eq_true rfl) (BC (by simp [])))) ?_
  show DP _ _ _ _ _ _ _ _ [_, _, ⟨nb3, [I64 (kd), .slice ai ni ci, .slice sa ns sc, U64 bl], 26, (0, 0)⟩, _]
  refine CQ ⟨[4, 5, 6], [0, 1, 2, 3], [0, 1], [2, 3], [7]⟩ 7 rfl rfl (by decide +kernel) rfl ⟨⟨_, rfl, AC rfl (AB 2 26 4 AO rfl A8 rfl rfl)⟩, ⟨_, rfl, AC rfl (AK rfl (BH DG A8 rfl (AS 1 rfl (EI (p := [U64 pv2, U64 ep2]) (q := cu8 tg2) (vs := [I64 (kd2), .slice ai2 ni2 ci2, .slice sa2 ns2 sc2, U64 bl2]) (by first | rfl | (simp only [List.append_assoc, List.nil_append, List.append_nil, List.cons_append]; done)) rfl))))⟩, trivial⟩ rfl (AZ rfl (A5 3 nb5 4 ([I64 0, .slice none 0 0, .slice none 0 0, U64 0]) 26 ([I64 (kd2), .slice ai2 ni2 ci2, .slice sa2 ns2 sc2, U64 bl2]) rfl rfl rfl A8 rfl (by simp [Value.oneCell']) (Nat.le_of_ble_eq_true rfl) (BC (by simp [])))) ?_
  show DP _ _ _ _ _ _ _ _ [_, _, _, ⟨nb5, [I64 (kd2), .slice ai2 ni2 ci2, .slice sa2 ns2 sc2, U64 bl2], 26, (0, 0)⟩]
  refine C4 ⟨[4, 5, 6, 7], [0, 1, 2, 3], [0, 1, 2, 3], [], []⟩ rfl rfl (by decide +kernel) rfl trivial ?_
  refine CI (F' := [(5, Ptr nb3 0), (6, Ptr nb5 0), (2, Ptr nb1 0), (3, Ptr nb2 0), (4, .bool false)]) (by kernel_rfl) ?_
  refine AE (AI (AD (AA (Ptr nb1 0) (AB 0 22 1 AO rfl AU rfl rfl) rfl ?_)))
  refine AA (U64 pv) (AK rfl (AV AX (AS 0 rfl (A4 (Seg.head))))) rfl ?_
  refine AA (Ptr nb2 0) (AB 0 22 1 AO rfl AU rfl rfl) rfl ?_
  refine AA (U64 pv2) (AK rfl (AV AX (AS 1 rfl (A4 (Seg.head))))) rfl ?_
  refine AA (.bool (decide (pv = pv2))) (AR rfl rfl fun _ => FW pv pv2) rfl ?_
  refine AA _ (AH rfl) rfl ?_
  rcases Bool.eq_false_or_eq_true (decide (pv = pv2)) with hb1 | hb1
  ·
   have hp1 : pv = pv2 := of_decide_eq_true hb1
   refine A0 5 16 true _ (Ptr nb1 1) rfl rfl hb1 (AB 1 22 1 AO rfl AU rfl rfl) rfl ?_
   refine A0 5 16 true _ (U64 ep) rfl rfl hb1 (AK rfl (AV AX (AS 0 rfl (A4 (AJ (Seg.head)))))) rfl ?_
   refine A0 5 16 true _ (Ptr nb2 1) rfl rfl hb1 (AB 1 22 1 AO rfl AU rfl rfl) rfl ?_
   refine A0 5 16 true _ (U64 ep2) rfl rfl hb1 (AK rfl (AV AX (AS 1 rfl (A4 (AJ (Seg.head)))))) rfl ?_
   refine A0 5 16 true _ (.bool (decide (ep = ep2))) rfl rfl hb1 (AR rfl rfl fun _ => FW ep ep2) rfl ?_
   refine AA _ (CN _ rfl hb1 rfl) rfl ?_
   refine AA _ (AH rfl) rfl ?_
   rcases Bool.eq_false_or_eq_true (decide (ep = ep2)) with hb2 | hb2
   ·
    have hp2 : ep = ep2 := of_decide_eq_true hb2
    refine A0 12 23 true _ (Ptr nb1 6) rfl rfl hb2 (AB 6 27 16 AO rfl BE rfl rfl) rfl ?_
    refine A0 12 23 true _ (.agg (cu8 tg).toArray) rfl rfl hb2 (AK rfl (BH DO BE (CM htg) (AS 0 rfl (Seg.right 6 0 rfl rfl (AL _))))) rfl ?_
    refine A0 12 23 true _ (Ptr nb2 6) rfl rfl hb2 (AB 6 27 16 AO rfl BE rfl rfl) rfl ?_
    refine A0 12 23 true _ (.agg (cu8 tg2).toArray) rfl rfl hb2 (AK rfl (BH DO BE (CM htg2) (AS 1 rfl (Seg.right 6 0 rfl rfl (AL _))))) rfl ?_
    refine A0 12 23 true _ (.bool (decide (tg = tg2))) rfl rfl hb2 (C2 _ _ _ rfl rfl (fun _ => eqGuard_agg _ _ _ _ _ _ (by kernel_rfl)) fun _ => eql_arr8 BJ B6 D4 F5 Tryd.has5 (by simp [htg]) (by simp [htg2])) rfl ?_
    refine AA _ (CN _ rfl hb2 rfl) rfl ?_
    refine AA _ (AH rfl) rfl ?_
    rcases Bool.eq_false_or_eq_true (decide (tg = tg2)) with hb3 | hb3
    ·
     have hp3 : tg = tg2 := of_decide_eq_true hb3
     refine A0 19 30 true _ (Ptr nb3 0) rfl rfl hb3 (AB 0 3 1 AF rfl BA rfl rfl) rfl ?_
     refine A0 19 30 true _ (I64 (kd)) rfl rfl hb3 (AK rfl (AV BF (AS 2 rfl (Seg.head)))) rfl ?_
     refine A0 19 30 true _ (Ptr nb5 0) rfl rfl hb3 (AB 0 3 1 AF rfl BA rfl rfl) rfl ?_
     refine A0 19 30 true _ (I64 (kd2)) rfl rfl hb3 (AK rfl (AV BF (AS 3 rfl (Seg.head)))) rfl ?_
     refine A0 19 30 true _ (.bool (decide ((kd) = (kd2)))) rfl rfl hb3 (AR rfl rfl fun _ => C9 _ _) rfl ?_
     refine AA _ (CN _ rfl hb3 rfl) rfl ?_
     refine AA _ (AH rfl) rfl ?_
     rcases Bool.eq_false_or_eq_true (decide ((kd) = (kd2))) with hb4 | hb4
     ·
      have hp4 : (kd) = (kd2) := of_decide_eq_true hb4
      refine A0 26 37 true _ (Ptr nb3 3) rfl rfl hb4 (AB 3 22 1 AF rfl AU rfl rfl) rfl ?_
      refine A0 26 37 true _ (U64 bl) rfl rfl hb4 (AK rfl (AV AX (AS 2 rfl (AJ (AJ (AJ (Seg.head))))))) rfl ?_
      refine A0 26 37 true _ (Ptr nb5 3) rfl rfl hb4 (AB 3 22 1 AF rfl AU rfl rfl) rfl ?_
      refine A0 26 37 true _ (U64 bl2) rfl rfl hb4 (AK rfl (AV AX (AS 3 rfl (AJ (AJ (AJ (Seg.head))))))) rfl ?_
      refine A0 26 37 true _ (.bool (decide (bl = bl2))) rfl rfl hb4 (AR rfl rfl fun _ => FW bl bl2) rfl ?_
      refine AA _ (CN _ rfl hb4 rfl) rfl ?_
      refine AA _ (AH rfl) rfl ?_
      rcases Bool.eq_false_or_eq_true (decide (bl = bl2)) with hb5 | hb5
      ·
       have hp5 : bl = bl2 := of_decide_eq_true hb5
       refine A0 33 44 true _ (Ptr nb3 1) rfl rfl hb5 (AB 1 23 1 AF rfl CB rfl rfl) rfl ?_
       refine A0 33 44 true _ (.slice ai ni ci) rfl rfl hb5 (AK rfl (AV CP (AS 2 rfl (AJ (Seg.head))))) rfl ?_
       refine A0 33 44 true _ (Ptr nb5 1) rfl rfl hb5 (AB 1 23 1 AF rfl CB rfl rfl) rfl ?_
       refine A0 33 44 true _ (.slice ai2 ni2 ci2) rfl rfl hb5 (AK rfl (AV CP (AS 3 rfl (AJ (Seg.head))))) rfl ?_
       refine EK 33 44 true _ rfl rfl hb5 (A3 115 [.slice ai ni ci, .slice ai2 ni2 ci2] (.bool (decide (l = l2))) (AY _ Tryd.call115 rfl) (fun w1 hw1 => eq64_c ai ni ci l ai2 ni2 ci2 l2 w1 hl (by omega) (by omega) (by omega) (EG hw1 rfl hv) hl2 (by omega) (by omega) (by omega) (EG hw1 rfl hv2))) rfl ?_
       rintro v1 L1 ⟨rfl, rfl⟩
       show JL _ _ _ _ ((49, .bool (decide (l = l2))) :: _) [_, _, _, _]
       refine AA _ (CN _ rfl hb5 rfl) rfl ?_
       refine AA _ (AH rfl) rfl ?_
       rcases Bool.eq_false_or_eq_true (decide (l = l2)) with hb6 | hb6
       ·
        have hp6 : l = l2 := of_decide_eq_true hb6
        refine A0 40 51 true _ (Ptr nb3 2) rfl rfl hb6 (AB 2 24 1 AF rfl BL rfl rfl) rfl ?_
        refine A0 40 51 true _ (.slice sa ns sc) rfl rfl hb6 (AK rfl (AV BW (AS 2 rfl (AJ (AJ (Seg.head)))))) rfl ?_
        refine A0 40 51 true _ (Ptr nb5 2) rfl rfl hb6 (AB 2 24 1 AF rfl BL rfl rfl) rfl ?_
        refine A0 40 51 true _ (.slice sa2 ns2 sc2) rfl rfl hb6 (AK rfl (AV BW (AS 3 rfl (AJ (AJ (Seg.head)))))) rfl ?_
        refine EK 40 51 true _ rfl rfl hb6 (A3 116 [.slice sa ns sc, .slice sa2 ns2 sc2] (.bool (decide (ls = ls2))) (AY _ Tryd.call116 rfl) (fun w1 hw1 => eqS_c sa ns sc ls sa2 ns2 sc2 ls2 w1 hls (by omega) (by omega) (by omega) (EG hw1 rfl hs) hls2 (by omega) (by omega) (by omega) (EG hw1 rfl hs2))) rfl ?_
        rintro v1 L1 ⟨rfl, rfl⟩
        show JL _ _ _ _ ((56, .bool (decide (ls = ls2))) :: _) [_, _, _, _]
        refine AA _ (CN _ rfl hb6 rfl) rfl ?_
        refine AA _ (AG rfl) rfl ?_
        refine AN (AE (BP (CH [false, false, false, false] ?_)))
        show JQ _ _ _ _ []
        refine BQ (.bool (decide (ls = ls2))) (res1 EM (B2 rfl)) fun w1 hw1 => ?_
        refine ⟨_, [], rfl, ⟨congrArg Value.bool ?_, rfl⟩, hw1.sub (by simp) (by simp)⟩
        first | (simp [*]; done) | (simp_all; done)
       ·
        have hp6 : ¬ (l = l2) := of_decide_eq_false hb6
        refine AQ 40 51 true _ rfl rfl hb6 rfl ?_
        refine AQ 40 51 true _ rfl rfl hb6 rfl ?_
        refine AQ 40 51 true _ rfl rfl hb6 rfl ?_
        refine AQ 40 51 true _ rfl rfl hb6 rfl ?_
        refine AQ 40 51 true _ rfl rfl hb6 rfl ?_
        refine AA _ (BU _ rfl hb6 rfl) rfl ?_
        refine AA _ (AG rfl) rfl ?_
        refine AN (AE (BP (CH [false, false, false, false] ?_)))
        show JQ _ _ _ _ []
        refine BQ (.bool false) (res1 EM (B2 rfl)) fun w1 hw1 => ?_
        refine ⟨_, [], rfl, ⟨congrArg Value.bool ?_, rfl⟩, hw1.sub (by simp) (by simp)⟩
        first | (simp [*]; done) | (simp_all; done)
      ·
       have hp5 : ¬ (bl = bl2) := of_decide_eq_false hb5
       refine AQ 33 44 true _ rfl rfl hb5 rfl ?_
       refine AQ 33 44 true _ rfl rfl hb5 rfl ?_
       refine AQ 33 44 true _ rfl rfl hb5 rfl ?_
       refine AQ 33 44 true _ rfl rfl hb5 rfl ?_
       refine AQ 33 44 true _ rfl rfl hb5 rfl ?_
       refine AA _ (BU _ rfl hb5 rfl) rfl ?_
       refine AA _ (AH rfl) rfl ?_
       refine AQ 40 51 true _ rfl rfl rfl rfl ?_
       refine AQ 40 51 true _ rfl rfl rfl rfl ?_
       refine AQ 40 51 true _ rfl rfl rfl rfl ?_
       refine AQ 40 51 true _ rfl rfl rfl rfl ?_
       refine AQ 40 51 true _ rfl rfl rfl rfl ?_
       refine AA _ (BU _ rfl rfl rfl) rfl ?_
       refine AA _ (AG rfl) rfl ?_
       refine AN (AE (BP (CH [false, false, false, false] ?_)))
       show JQ _ _ _ _ []
       refine BQ (.bool false) (res1 EM (B2 rfl)) fun w1 hw1 => ?_
       refine ⟨_, [], rfl, ⟨congrArg Value.bool ?_, rfl⟩, hw1.sub (by simp) (by simp)⟩
       first | (simp [*]; done) | (simp_all; done)
     ·
      have hp4 : ¬ ((kd) = (kd2)) := of_decide_eq_false hb4
      refine AQ 26 37 true _ rfl rfl hb4 rfl ?_
      refine AQ 26 37 true _ rfl rfl hb4 rfl ?_
      refine AQ 26 37 true _ rfl rfl hb4 rfl ?_
      refine AQ 26 37 true _ rfl rfl hb4 rfl ?_
      refine AQ 26 37 true _ rfl rfl hb4 rfl ?_
      refine AA _ (BU _ rfl hb4 rfl) rfl ?_
      refine AA _ (AH rfl) rfl ?_
      refine AQ 33 44 true _ rfl rfl rfl rfl ?_
      refine AQ 33 44 true _ rfl rfl rfl rfl ?_
      refine AQ 33 44 true _ rfl rfl rfl rfl ?_
      refine AQ 33 44 true _ rfl rfl rfl rfl ?_
      refine AQ 33 44 true _ rfl rfl rfl rfl ?_
      refine AA _ (BU _ rfl rfl rfl) rfl ?_
      refine AA _ (AH rfl) rfl ?_
      refine AQ 40 51 true _ rfl rfl rfl rfl ?_
      refine AQ 40 51 true _ rfl rfl rfl rfl ?_
      refine AQ 40 51 true _ rfl rfl rfl rfl ?_
      refine AQ 40 51 true _ rfl rfl rfl rfl ?_
      refine AQ 40 51 true _ rfl rfl rfl rfl ?_
      refine AA _ (BU _ rfl rfl rfl) rfl ?_
      refine AA _ (AG rfl) rfl ?_
      refine AN (AE (BP (CH [false, false, false, false] ?_)))
      show JQ _ _ _ _ []
      refine BQ (.bool false) (res1 EM (B2 rfl)) fun w1 hw1 => ?_
      refine ⟨_, [], rfl, ⟨congrArg Value.bool ?_, rfl⟩, hw1.sub (by simp) (by simp)⟩
      first | (simp [*]; done) | (simp_all; done)
    ·
     have hp3 : ¬ (tg = tg2) := of_decide_eq_false hb3
     refine AQ 19 30 true _ rfl rfl hb3 rfl ?_
     refine AQ 19 30 true _ rfl rfl hb3 rfl ?_
     refine AQ 19 30 true _ rfl rfl hb3 rfl ?_
     refine AQ 19 30 true _ rfl rfl hb3 rfl ?_
     refine AQ 19 30 true _ rfl rfl hb3 rfl ?_
     refine AA _ (BU _ rfl hb3 rfl) rfl ?_
     refine AA _ (AH rfl) rfl ?_
     refine AQ 26 37 true _ rfl rfl rfl rfl ?_
     refine AQ 26 37 true _ rfl rfl rfl rfl ?_
     refine AQ 26 37 true _ rfl rfl rfl rfl ?_
     refine AQ 26 37 true _ rfl rfl rfl rfl ?_
     refine AQ 26 37 true _ rfl rfl rfl rfl ?_
     refine AA _ (BU _ rfl rfl rfl) rfl ?_
     refine AA _ (AH rfl) rfl ?_
     refine AQ 33 44 true _ rfl rfl rfl rfl ?_
     refine AQ 33 44 true _ rfl rfl rfl rfl ?_
     refine AQ 33 44 true _ rfl rfl rfl rfl ?_
     refine AQ 33 44 true _ rfl rfl rfl rfl ?_
     refine AQ 33 44 true _ rfl rfl rfl rfl ?_
     refine AA _ (BU _ rfl rfl rfl) rfl ?_
     refine AA _ (AH rfl) rfl ?_
     refine AQ 40 51 true _ rfl rfl rfl rfl ?_
     refine AQ 40 51 true _ rfl rfl rfl rfl ?_
     refine AQ 40 51 true _ rfl rfl rfl rfl ?_
     refine AQ 40 51 true _ rfl rfl rfl rfl ?_
     refine AQ 40 51 true _ rfl rfl rfl rfl ?_
     refine AA _ (BU _ rfl rfl rfl) rfl ?_
     refine AA _ (AG rfl) rfl ?_
     refine AN (AE (BP (CH [false, false, false, false] ?_)))
     show JQ _ _ _ _ []
     refine BQ (.bool false) (res1 EM (B2 rfl)) fun w1 hw1 => ?_
     refine ⟨_, [], rfl, ⟨congrArg Value.bool ?_, rfl⟩, hw1.sub (by simp) (by simp)⟩
     first | (simp [*]; done) | (simp_all; done)
   ·
    have hp2 : ¬ (ep = ep2) := of_decide_eq_false hb2
    refine AQ 12 23 true _ rfl rfl hb2 rfl ?_
    refine AQ 12 23 true _ rfl rfl hb2 rfl ?_
    refine AQ 12 23 true _ rfl rfl hb2 rfl ?_
    refine AQ 12 23 true _ rfl rfl hb2 rfl ?_
    refine AQ 12 23 true _ rfl rfl hb2 rfl ?_
    refine AA _ (BU _ rfl hb2 rfl) rfl ?_
    refine AA _ (AH rfl) rfl ?_
    refine AQ 19 30 true _ rfl rfl rfl rfl ?_
    refine AQ 19 30 true _ rfl rfl rfl rfl ?_
    refine AQ 19 30 true _ rfl rfl rfl rfl ?_
    refine AQ 19 30 true _ rfl rfl rfl rfl ?_
    refine AQ 19 30 true _ rfl rfl rfl rfl ?_
    refine AA _ (BU _ rfl rfl rfl) rfl ?_
    refine AA _ (AH rfl) rfl ?_
    refine AQ 26 37 true _ rfl rfl rfl rfl ?_
    refine AQ 26 37 true _ rfl rfl rfl rfl ?_
    refine AQ 26 37 true _ rfl rfl rfl rfl ?_
    refine AQ 26 37 true _ rfl rfl rfl rfl ?_
    refine AQ 26 37 true _ rfl rfl rfl rfl ?_
    refine AA _ (BU _ rfl rfl rfl) rfl ?_
    refine AA _ (AH rfl) rfl ?_
    refine AQ 33 44 true _ rfl rfl rfl rfl ?_
    refine AQ 33 44 true _ rfl rfl rfl rfl ?_
    refine AQ 33 44 true _ rfl rfl rfl rfl ?_
    refine AQ 33 44 true _ rfl rfl rfl rfl ?_
    refine AQ 33 44 true _ rfl rfl rfl rfl ?_
    refine AA _ (BU _ rfl rfl rfl) rfl ?_
    refine AA _ (AH rfl) rfl ?_
    refine AQ 40 51 true _ rfl rfl rfl rfl ?_
    refine AQ 40 51 true _ rfl rfl rfl rfl ?_
    refine AQ 40 51 true _ rfl rfl rfl rfl ?_
    refine AQ 40 51 true _ rfl rfl rfl rfl ?_
    refine AQ 40 51 true _ rfl rfl rfl rfl ?_
    refine AA _ (BU _ rfl rfl rfl) rfl ?_
    refine AA _ (AG rfl) rfl ?_
    refine AN (AE (BP (CH [false, false, false, false] ?_)))
    show JQ _ _ _ _ []
    refine BQ (.bool false) (res1 EM (B2 rfl)) fun w1 hw1 => ?_
    refine ⟨_, [], rfl, ⟨congrArg Value.bool ?_, rfl⟩, hw1.sub (by simp) (by simp)⟩
    first | (simp [*]; done) | (simp_all; done)
  ·
   have hp1 : ¬ (pv = pv2) := of_decide_eq_false hb1
   refine AQ 5 16 true _ rfl rfl hb1 rfl ?_
   refine AQ 5 16 true _ rfl rfl hb1 rfl ?_
   refine AQ 5 16 true _ rfl rfl hb1 rfl ?_
   refine AQ 5 16 true _ rfl rfl hb1 rfl ?_
   refine AQ 5 16 true _ rfl rfl hb1 rfl ?_
   refine AA _ (BU _ rfl hb1 rfl) rfl ?_
   refine AA _ (AH rfl) rfl ?_
   refine AQ 12 23 true _ rfl rfl rfl rfl ?_
   refine AQ 12 23 true _ rfl rfl rfl rfl ?_
   refine AQ 12 23 true _ rfl rfl rfl rfl ?_
   refine AQ 12 23 true _ rfl rfl rfl rfl ?_
   refine AQ 12 23 true _ rfl rfl rfl rfl ?_
   refine AA _ (BU _ rfl rfl rfl) rfl ?_
   refine AA _ (AH rfl) rfl ?_
   refine AQ 19 30 true _ rfl rfl rfl rfl ?_
   refine AQ 19 30 true _ rfl rfl rfl rfl ?_
   refine AQ 19 30 true _ rfl rfl rfl rfl ?_
   refine AQ 19 30 true _ rfl rfl rfl rfl ?_
   refine AQ 19 30 true _ rfl rfl rfl rfl ?_
   refine AA _ (BU _ rfl rfl rfl) rfl ?_
   refine AA _ (AH rfl) rfl ?_
   refine AQ 26 37 true _ rfl rfl rfl rfl ?_
   refine AQ 26 37 true _ rfl rfl rfl rfl ?_
   refine AQ 26 37 true _ rfl rfl rfl rfl ?_
   refine AQ 26 37 true _ rfl rfl rfl rfl ?_
   refine AQ 26 37 true _ rfl rfl rfl rfl ?_
   refine AA _ (BU _ rfl rfl rfl) rfl ?_
   refine AA _ (AH rfl) rfl ?_
   refine AQ 33 44 true _ rfl rfl rfl rfl ?_
   refine AQ 33 44 true _ rfl rfl rfl rfl ?_
   refine AQ 33 44 true _ rfl rfl rfl rfl ?_
   refine AQ 33 44 true _ rfl rfl rfl rfl ?_
   refine AQ 33 44 true _ rfl rfl rfl rfl ?_
   refine AA _ (BU _ rfl rfl rfl) rfl ?_
   refine AA _ (AH rfl) rfl ?_
   refine AQ 40 51 true _ rfl rfl rfl rfl ?_
   refine AQ 40 51 true _ rfl rfl rfl rfl ?_
   refine AQ 40 51 true _ rfl rfl rfl rfl ?_
   refine AQ 40 51 true _ rfl rfl rfl rfl ?_
   refine AQ 40 51 true _ rfl rfl rfl rfl ?_
   refine AA _ (BU _ rfl rfl rfl) rfl ?_
   refine AA _ (AG rfl) rfl ?_
   refine AN (AE (BP (CH [false, false, false, false] ?_)))
   show JQ _ _ _ _ []
   refine BQ (.bool false) (res1 EM (B2 rfl)) fun w1 hw1 => ?_
   refine ⟨_, [], rfl, ⟨congrArg Value.bool ?_, rfl⟩, hw1.sub (by simp) (by simp)⟩
   first | (simp [*]; done) | (simp_all; done)
 ·
  rintro v1 L1 ⟨nb4, hnb4, rfl, rfl⟩
  refine ⟨[], ?_⟩
  show DP _ _ _ _ _ _ _ _ [_, _, ⟨nb4, [I64 0, .slice none 0 0, .slice none 0 0, U64 0], 26, (0, 0)⟩]
  refine CR ⟨[5], [0, 1, 2, 3], [], [0, 1, 2, 3], [4]⟩ 4 _ rfl rfl (by decide +kernel) rfl ⟨⟨_, rfl, AC rfl (AB 2 26 4 AO rfl A8 rfl rfl)⟩, ⟨_, rfl, AC rfl (AK rfl (BH DG A8 rfl (AS 0 rfl (EI (p := [U64 pv, U64 ep]) (q := cu8 tg) (vs := [I64 (kd), .slice ai ni ci, .slice sa ns sc, U64 bl]) (by first | rfl | (simp only [List.append_assoc, List.nil_append, List.append_nil, List.cons_append]; done)) rfl))))⟩, ⟨_, rfl, AC rfl (AB 2 26 4 AO rfl A8 rfl rfl)⟩, ⟨_, rfl, AC rfl (AK rfl (BH DG A8 rfl (AS 1 rfl (EI (p := [U64 pv2, U64 ep2]) (q := cu8 tg2) (vs := [I64 (kd2), .slice ai2 ni2 ci2, .slice sa2 ns2 sc2, U64 bl2]) (by first | rfl | (simp only [List.append_assoc, List.nil_append, List.append_nil, List.cons_append]; done)) rfl))))⟩, trivial⟩ rfl (AZ rfl (BG _ ([I64 0, .slice none 0 0, .slice none 0 0, U64 0]) Tryd.zeroValue26 (by kernel_rfl))) ?_
  rintro v1 L1 ⟨nb6, hnb6, rfl, rfl⟩
  refine ⟨[], ?_⟩
  show DP _ _ _ _ _ _ _ _ [_, _, _, ⟨nb6, [I64 0, .slice none 0 0, .slice none 0 0, U64 0], 26, (0, 0)⟩]
  refine CQ ⟨[5, 4], [0, 1, 2, 3], [], [0, 1, 2, 3], [6]⟩ 6 rfl rfl (by decide +kernel) rfl ⟨⟨_, rfl, AC rfl (AB 2 26 4 AO rfl A8 rfl rfl)⟩, ⟨_, rfl, AC rfl (AK rfl (BH DG A8 rfl (AS 0 rfl (EI (p := [U64 pv, U64 ep]) (q := cu8 tg) (vs := [I64 (kd), .slice ai ni ci, .slice sa ns sc, U64 bl]) (by first | rfl | (simp only [List.append_assoc, List.nil_append, List.append_nil, List.cons_append]; done)) rfl))))⟩, ⟨_, rfl, AC rfl (AB 2 26 4 AO rfl A8 rfl rfl)⟩, ⟨_, rfl, AC rfl (AK rfl (BH DG A8 rfl (AS 1 rfl (EI (p := [U64 pv2, U64 ep2]) (q := cu8 tg2) (vs := [I64 (kd2), .slice ai2 ni2 ci2, .slice sa2 ns2 sc2, U64 bl2]) (by first | rfl | (simp only [List.append_assoc, List.nil_append, List.append_nil, List.cons_append]; done)) rfl))))⟩, trivial⟩ rfl (AZ rfl (A5 3 nb6 4 ([I64 0, .slice none 0 0, .slice none 0 0, U64 0]) 26 ([I64 (kd), .slice ai ni ci, .slice sa ns sc, U64 bl]) rfl rfl rfl A8 rfl (by simp [Value.oneCell']) (Nat.le_of_ble_eq_true rfl) (BC (by simp [])))) ?_
  show DP _ _ _ _ _ _ _ _ [_, _, _, ⟨nb6, [I64 (kd), .slice ai ni ci, .slice sa ns sc, U64 bl], 26, (0, 0)⟩]
  refine CQ ⟨[5, 4, 6], [0, 1, 2, 3], [0, 1], [2, 3], [7]⟩ 7 rfl rfl (by decide +kernel) rfl ⟨⟨_, rfl, AC rfl (AB 2 26 4 AO rfl A8 rfl rfl)⟩, ⟨_, rfl, AC rfl (AK rfl (BH DG A8 rfl (AS 1 rfl (EI (p := [U64 pv2, U64 ep2]) (q := cu8 tg2) (vs := [I64 (kd2), .slice ai2 ni2 ci2, .slice sa2 ns2 sc2, U64 bl2]) (by first | rfl | (simp only [List.append_assoc, List.nil_append, List.append_nil, List.cons_append]; done)) rfl))))⟩, trivial⟩ rfl (AZ rfl (A5 2 nb4 4 ([I64 0, .slice none 0 0, .slice none 0 0, U64 0]) 26 ([I64 (kd2), .slice ai2 ni2 ci2, .slice sa2 ns2 sc2, U64 bl2]) rfl rfl rfl A8 rfl (by simp [Value.oneCell']) (Nat.le_of_ble_eq_true rfl) (BC (by simp [])))) ?_
  show DP _ _ _ _ _ _ _ _ [_, _, ⟨nb4, [I64 (kd2), .slice ai2 ni2 ci2, .slice sa2 ns2 sc2, U64 bl2], 26, (0, 0)⟩, _]
  refine C4 ⟨[5, 4, 6, 7], [0, 1, 2, 3], [0, 1, 2, 3], [], []⟩ rfl rfl (by decide +kernel) rfl trivial ?_
  refine CI (F' := [(5, Ptr nb6 0), (6, Ptr nb4 0), (2, Ptr nb1 0), (3, Ptr nb2 0), (4, .bool false)]) (by kernel_rfl) ?_
  refine AE (AI (AD (AA (Ptr nb1 0) (AB 0 22 1 AO rfl AU rfl rfl) rfl ?_)))
  refine AA (U64 pv) (AK rfl (AV AX (AS 0 rfl (A4 (Seg.head))))) rfl ?_
  refine AA (Ptr nb2 0) (AB 0 22 1 AO rfl AU rfl rfl) rfl ?_
  refine AA (U64 pv2) (AK rfl (AV AX (AS 1 rfl (A4 (Seg.head))))) rfl ?_
  refine AA (.bool (decide (pv = pv2))) (AR rfl rfl fun _ => FW pv pv2) rfl ?_
  refine AA _ (AH rfl) rfl ?_
  rcases Bool.eq_false_or_eq_true (decide (pv = pv2)) with hb7 | hb7
  ·
   have hp7 : pv = pv2 := of_decide_eq_true hb7
   refine A0 5 16 true _ (Ptr nb1 1) rfl rfl hb7 (AB 1 22 1 AO rfl AU rfl rfl) rfl ?_
   refine A0 5 16 true _ (U64 ep) rfl rfl hb7 (AK rfl (AV AX (AS 0 rfl (A4 (AJ (Seg.head)))))) rfl ?_
   refine A0 5 16 true _ (Ptr nb2 1) rfl rfl hb7 (AB 1 22 1 AO rfl AU rfl rfl) rfl ?_
   refine A0 5 16 true _ (U64 ep2) rfl rfl hb7 (AK rfl (AV AX (AS 1 rfl (A4 (AJ (Seg.head)))))) rfl ?_
   refine A0 5 16 true _ (.bool (decide (ep = ep2))) rfl rfl hb7 (AR rfl rfl fun _ => FW ep ep2) rfl ?_
   refine AA _ (CN _ rfl hb7 rfl) rfl ?_
   refine AA _ (AH rfl) rfl ?_
   rcases Bool.eq_false_or_eq_true (decide (ep = ep2)) with hb8 | hb8
   ·
    have hp8 : ep = ep2 := of_decide_eq_true hb8
    refine A0 12 23 true _ (Ptr nb1 6) rfl rfl hb8 (AB 6 27 16 AO rfl BE rfl rfl) rfl ?_
    refine A0 12 23 true _ (.agg (cu8 tg).toArray) rfl rfl hb8 (AK rfl (BH DO BE (CM htg) (AS 0 rfl (Seg.right 6 0 rfl rfl (AL _))))) rfl ?_
    refine A0 12 23 true _ (Ptr nb2 6) rfl rfl hb8 (AB 6 27 16 AO rfl BE rfl rfl) rfl ?_
    refine A0 12 23 true _ (.agg (cu8 tg2).toArray) rfl rfl hb8 (AK rfl (BH DO BE (CM htg2) (AS 1 rfl (Seg.right 6 0 rfl rfl (AL _))))) rfl ?_
    refine A0 12 23 true _ (.bool (decide (tg = tg2))) rfl rfl hb8 (C2 _ _ _ rfl rfl (fun _ => eqGuard_agg _ _ _ _ _ _ (by kernel_rfl)) fun _ => eql_arr8 BJ B6 D4 F5 Tryd.has5 (by simp [htg]) (by simp [htg2])) rfl ?_
    refine AA _ (CN _ rfl hb8 rfl) rfl ?_
    refine AA _ (AH rfl) rfl ?_
    rcases Bool.eq_false_or_eq_true (decide (tg = tg2)) with hb9 | hb9
    ·
     have hp9 : tg = tg2 := of_decide_eq_true hb9
     refine A0 19 30 true _ (Ptr nb6 0) rfl rfl hb9 (AB 0 3 1 AF rfl BA rfl rfl) rfl ?_
     refine A0 19 30 true _ (I64 (kd)) rfl rfl hb9 (AK rfl (AV BF (AS 3 rfl (Seg.head)))) rfl ?_
     refine A0 19 30 true _ (Ptr nb4 0) rfl rfl hb9 (AB 0 3 1 AF rfl BA rfl rfl) rfl ?_
     refine A0 19 30 true _ (I64 (kd2)) rfl rfl hb9 (AK rfl (AV BF (AS 2 rfl (Seg.head)))) rfl ?_
     refine A0 19 30 true _ (.bool (decide ((kd) = (kd2)))) rfl rfl hb9 (AR rfl rfl fun _ => C9 _ _) rfl ?_
     refine AA _ (CN _ rfl hb9 rfl) rfl ?_
     refine AA _ (AH rfl) rfl ?_
     rcases Bool.eq_false_or_eq_true (decide ((kd) = (kd2))) with hb10 | hb10
     ·
      have hp10 : (kd) = (kd2) := of_decide_eq_true hb10
      refine A0 26 37 true _ (Ptr nb6 3) rfl rfl hb10 (AB 3 22 1 AF rfl AU rfl rfl) rfl ?_
      refine A0 26 37 true _ (U64 bl) rfl rfl hb10 (AK rfl (AV AX (AS 3 rfl (AJ (AJ (AJ (Seg.head))))))) rfl ?_
      refine A0 26 37 true _ (Ptr nb4 3) rfl rfl hb10 (AB 3 22 1 AF rfl AU rfl rfl) rfl ?_
      refine A0 26 37 true _ (U64 bl2) rfl rfl hb10 (AK rfl (AV AX (AS 2 rfl (AJ (AJ (AJ (Seg.head))))))) rfl ?_
      refine A0 26 37 true _ (.bool (decide (bl = bl2))) rfl rfl hb10 (AR rfl rfl fun _ => FW bl bl2) rfl ?_
      refine AA _ (CN _ rfl hb10 rfl) rfl ?_
      refine AA _ (AH rfl) rfl ?_
      rcases Bool.eq_false_or_eq_true (decide (bl = bl2)) with hb11 | hb11
      ·
       have hp11 : bl = bl2 := of_decide_eq_true hb11
       refine A0 33 44 true _ (Ptr nb6 1) rfl rfl hb11 (AB 1 23 1 AF rfl CB rfl rfl) rfl ?_
       refine A0 33 44 true _ (.slice ai ni ci) rfl rfl hb11 (AK rfl (AV CP (AS 3 rfl (AJ (Seg.head))))) rfl ?_
       refine A0 33 44 true _ (Ptr nb4 1) rfl rfl hb11 (AB 1 23 1 AF rfl CB rfl rfl) rfl ?_
       refine A0 33 44 true _ (.slice ai2 ni2 ci2) rfl rfl hb11 (AK rfl (AV CP (AS 2 rfl (AJ (Seg.head))))) rfl ?_
       refine EK 33 44 true _ rfl rfl hb11 (A3 115 [.slice ai ni ci, .slice ai2 ni2 ci2] (.bool (decide (l = l2))) (AY _ Tryd.call115 rfl) (fun w1 hw1 => eq64_c ai ni ci l ai2 ni2 ci2 l2 w1 hl (by omega) (by omega) (by omega) (EG hw1 rfl hv) hl2 (by omega) (by omega) (by omega) (EG hw1 rfl hv2))) rfl ?_
       rintro v1 L1 ⟨rfl, rfl⟩
       show JL _ _ _ _ ((49, .bool (decide (l = l2))) :: _) [_, _, _, _]
       refine AA _ (CN _ rfl hb11 rfl) rfl ?_
       refine AA _ (AH rfl) rfl ?_
       rcases Bool.eq_false_or_eq_true (decide (l = l2)) with hb12 | hb12
       ·
        have hp12 : l = l2 := of_decide_eq_true hb12
        refine A0 40 51 true _ (Ptr nb6 2) rfl rfl hb12 (AB 2 24 1 AF rfl BL rfl rfl) rfl ?_
        refine A0 40 51 true _ (.slice sa ns sc) rfl rfl hb12 (AK rfl (AV BW (AS 3 rfl (AJ (AJ (Seg.head)))))) rfl ?_
        refine A0 40 51 true _ (Ptr nb4 2) rfl rfl hb12 (AB 2 24 1 AF rfl BL rfl rfl) rfl ?_
        refine A0 40 51 true _ (.slice sa2 ns2 sc2) rfl rfl hb12 (AK rfl (AV BW (AS 2 rfl (AJ (AJ (Seg.head)))))) rfl ?_
        refine EK 40 51 true _ rfl rfl hb12 (A3 116 [.slice sa ns sc, .slice sa2 ns2 sc2] (.bool (decide (ls = ls2))) (AY _ Tryd.call116 rfl) (fun w1 hw1 => eqS_c sa ns sc ls sa2 ns2 sc2 ls2 w1 hls (by omega) (by omega) (by omega) (EG hw1 rfl hs) hls2 (by omega) (by omega) (by omega) (EG hw1 rfl hs2))) rfl ?_
        rintro v1 L1 ⟨rfl, rfl⟩
        show JL _ _ _ _ ((56, .bool (decide (ls = ls2))) :: _) [_, _, _, _]
        refine AA _ (CN _ rfl hb12 rfl) rfl ?_
        refine AA _ (AG rfl) rfl ?_
        refine AN (AE (BP (CH [false, false, false, false] ?_)))
        show JQ _ _ _ _ []
        refine BQ (.bool (decide (ls = ls2))) (res1 EM (B2 rfl)) fun w1 hw1 => ?_
        refine ⟨_, [], rfl, ⟨congrArg Value.bool ?_, rfl⟩, hw1.sub (by simp) (by simp)⟩
        first | (simp [*]; done) | (simp_all; done)
       ·
        have hp12 : ¬ (l = l2) := of_decide_eq_false hb12
        refine AQ 40 51 true _ rfl rfl hb12 rfl ?_
        refine AQ 40 51 true _ rfl rfl hb12 rfl ?_
        refine AQ 40 51 true _ rfl rfl hb12 rfl ?_
        refine AQ 40 51 true _ rfl rfl hb12 rfl ?_
        refine AQ 40 51 true _ rfl rfl hb12 rfl ?_
        refine AA _ (BU _ rfl hb12 rfl) rfl ?_
        refine AA _ (AG rfl) rfl ?_
        refine AN (AE (BP (CH [false, false, false, false] ?_)))
        show JQ _ _ _ _ []
        refine BQ (.bool false) (res1 EM (B2 rfl)) fun w1 hw1 => ?_
        refine ⟨_, [], rfl, ⟨congrArg Value.bool ?_, rfl⟩, hw1.sub (by simp) (by simp)⟩
        first | (simp [*]; done) | (simp_all; done)
      ·
       have hp11 : ¬ (bl = bl2) := of_decide_eq_false hb11
       refine AQ 33 44 true _ rfl rfl hb11 rfl ?_
       refine AQ 33 44 true _ rfl rfl hb11 rfl ?_
       refine AQ 33 44 true _ rfl rfl hb11 rfl ?_
       refine AQ 33 44 true _ rfl rfl hb11 rfl ?_
       refine AQ 33 44 true _ rfl rfl hb11 rfl ?_
       refine AA _ (BU _ rfl hb11 rfl) rfl ?_
       refine AA _ (AH rfl) rfl ?_
       refine AQ 40 51 true _ rfl rfl rfl rfl ?_
       refine AQ 40 51 true _ rfl rfl rfl rfl ?_
       refine AQ 40 51 true _ rfl rfl rfl rfl ?_
       refine AQ 40 51 true _ rfl rfl rfl rfl ?_
       refine AQ 40 51 true _ rfl rfl rfl rfl ?_
       refine AA _ (BU _ rfl rfl rfl) rfl ?_
       refine AA _ (AG rfl) rfl ?_
       refine AN (AE (BP (CH [false, false, false, false] ?_)))
       show JQ _ _ _ _ []
       refine BQ (.bool false) (res1 EM (B2 rfl)) fun w1 hw1 => ?_
       refine ⟨_, [], rfl, ⟨congrArg Value.bool ?_, rfl⟩, hw1.sub (by simp) (by simp)⟩
       first | (simp [*]; done) | (simp_all; done)
     ·
      have hp10 : ¬ ((kd) = (kd2)) := of_decide_eq_false hb10
      refine AQ 26 37 true _ rfl rfl hb10 rfl ?_
      refine AQ 26 37 true _ rfl rfl hb10 rfl ?_
      refine AQ 26 37 true _ rfl rfl hb10 rfl ?_
      refine AQ 26 37 true _ rfl rfl hb10 rfl ?_
      refine AQ 26 37 true _ rfl rfl hb10 rfl ?_
      refine AA _ (BU _ rfl hb10 rfl) rfl ?_
      refine AA _ (AH rfl) rfl ?_
      refine AQ 33 44 true _ rfl rfl rfl rfl ?_
      refine AQ 33 44 true _ rfl rfl rfl rfl ?_
      refine AQ 33 44 true _ rfl rfl rfl rfl ?_
      refine AQ 33 44 true _ rfl rfl rfl rfl ?_
      refine AQ 33 44 true _ rfl rfl rfl rfl ?_
      refine AA _ (BU _ rfl rfl rfl) rfl ?_
      refine AA _ (AH rfl) rfl ?_
      refine AQ 40 51 true _ rfl rfl rfl rfl ?_
      refine AQ 40 51 true _ rfl rfl rfl rfl ?_
      refine AQ 40 51 true _ rfl rfl rfl rfl ?_
      refine AQ 40 51 true _ rfl rfl rfl rfl ?_
      refine AQ 40 51 true _ rfl rfl rfl rfl ?_
      refine AA _ (BU _ rfl rfl rfl) rfl ?_
      refine AA _ (AG rfl) rfl ?_
      refine AN (AE (BP (CH [false, false, false, false] ?_)))
      show JQ _ _ _ _ []
      refine BQ (.bool false) (res1 EM (B2 rfl)) fun w1 hw1 => ?_
      refine ⟨_, [], rfl, ⟨congrArg Value.bool ?_, rfl⟩, hw1.sub (by simp) (by simp)⟩
      first | (simp [*]; done) | (simp_all; done)
    ·
     have hp9 : ¬ (tg = tg2) := of_decide_eq_false hb9
     refine AQ 19 30 true _ rfl rfl hb9 rfl ?_
     refine AQ 19 30 true _ rfl rfl hb9 rfl ?_
     refine AQ 19 30 true _ rfl rfl hb9 rfl ?_
     refine AQ 19 30 true _ rfl rfl hb9 rfl ?_
     refine AQ 19 30 true _ rfl rfl hb9 rfl ?_
     refine AA _ (BU _ rfl hb9 rfl) rfl ?_
     refine AA _ (AH rfl) rfl ?_
     refine AQ 26 37 true _ rfl rfl rfl rfl ?_
     refine AQ 26 37 true _ rfl rfl rfl rfl ?_
     refine AQ 26 37 true _ rfl rfl rfl rfl ?_
     refine AQ 26 37 true _ rfl rfl rfl rfl ?_
     refine AQ 26 37 true _ rfl rfl rfl rfl ?_
     refine AA _ (BU _ rfl rfl rfl) rfl ?_
     refine AA _ (AH rfl) rfl ?_
     refine AQ 33 44 true _ rfl rfl rfl rfl ?_
     refine AQ 33 44 true _ rfl rfl rfl rfl ?_
     refine AQ 33 44 true _ rfl rfl rfl rfl ?_
     refine AQ 33 44 true _ rfl rfl rfl rfl ?_
     refine AQ 33 44 true _ rfl rfl rfl rfl ?_
     refine AA _ (BU _ rfl rfl rfl) rfl ?_
     refine AA _ (AH rfl) rfl ?_
     refine AQ 40 51 true _ rfl rfl rfl rfl ?_
     refine AQ 40 51 true _ rfl rfl rfl rfl ?_
     refine AQ 40 51 true _ rfl rfl rfl rfl ?_
     refine AQ 40 51 true _ rfl rfl rfl rfl ?_
     refine AQ 40 51 true _ rfl rfl rfl rfl ?_
     refine AA _ (BU _ rfl rfl rfl) rfl ?_
     refine AA _ (AG rfl) rfl ?_
     refine AN (AE (BP (CH [false, false, false, false] ?_)))
     show JQ _ _ _ _ []
     refine BQ (.bool false) (res1 EM (B2 rfl)) fun w1 hw1 => ?_
     refine ⟨_, [], rfl, ⟨congrArg Value.bool ?_, rfl⟩, hw1.sub (by simp) (by simp)⟩
     first | (simp [*]; done) | (simp_all; done)
   ·
    have hp8 : ¬ (ep = ep2) := of_decide_eq_false hb8
    refine AQ 12 23 true _ rfl rfl hb8 rfl ?_
    refine AQ 12 23 true _ rfl rfl hb8 rfl ?_
    refine AQ 12 23 true _ rfl rfl hb8 rfl ?_
    refine AQ 12 23 true _ rfl rfl hb8 rfl ?_
    refine AQ 12 23 true _ rfl rfl hb8 rfl ?_
    refine AA _ (BU _ rfl hb8 rfl) rfl ?_
    refine AA _ (AH rfl) rfl ?_
    refine AQ 19 30 true _ rfl rfl rfl rfl ?_
    refine AQ 19 30 true _ rfl rfl rfl rfl ?_
    refine AQ 19 30 true _ rfl rfl rfl rfl ?_
    refine AQ 19 30 true _ rfl rfl rfl rfl ?_
    refine AQ 19 30 true _ rfl rfl rfl rfl ?_
    refine AA _ (BU _ rfl rfl rfl) rfl ?_
    refine AA _ (AH rfl) rfl ?_
    refine AQ 26 37 true _ rfl rfl rfl rfl ?_
    refine AQ 26 37 true _ rfl rfl rfl rfl ?_
    refine AQ 26 37 true _ rfl rfl rfl rfl ?_
    refine AQ 26 37 true _ rfl rfl rfl rfl ?_
    refine AQ 26 37 true _ rfl rfl rfl rfl ?_
    refine AA _ (BU _ rfl rfl rfl) rfl ?_
    refine AA _ (AH rfl) rfl ?_
    refine AQ 33 44 true _ rfl rfl rfl rfl ?_
    refine AQ 33 44 true _ rfl rfl rfl rfl ?_
    refine AQ 33 44 true _ rfl rfl rfl rfl ?_
    refine AQ 33 44 true _ rfl rfl rfl rfl ?_
    refine AQ 33 44 true _ rfl rfl rfl rfl ?_
    refine AA _ (BU _ rfl rfl rfl) rfl ?_
    refine AA _ (AH rfl) rfl ?_
    refine AQ 40 51 true _ rfl rfl rfl rfl ?_
    refine AQ 40 51 true _ rfl rfl rfl rfl ?_
    refine AQ 40 51 true _ rfl rfl rfl rfl ?_
    refine AQ 40 51 true _ rfl rfl rfl rfl ?_
    refine AQ 40 51 true _ rfl rfl rfl rfl ?_
    refine AA _ (BU _ rfl rfl rfl) rfl ?_
    refine AA _ (AG rfl) rfl ?_
    refine AN (AE (BP (CH [false, false, false, false] ?_)))
    show JQ _ _ _ _ []
    refine BQ (.bool false) (res1 EM (B2 rfl)) fun w1 hw1 => ?_
    refine ⟨_, [], rfl, ⟨congrArg Value.bool ?_, rfl⟩, hw1.sub (by simp) (by simp)⟩
    first | (simp [*]; done) | (simp_all; done)
  ·
   have hp7 : ¬ (pv = pv2) := of_decide_eq_false hb7
   refine AQ 5 16 true _ rfl rfl hb7 rfl ?_
   refine AQ 5 16 true _ rfl rfl hb7 rfl ?_
   refine AQ 5 16 true _ rfl rfl hb7 rfl ?_
   refine AQ 5 16 true _ rfl rfl hb7 rfl ?_
   refine AQ 5 16 true _ rfl rfl hb7 rfl ?_
   refine AA _ (BU _ rfl hb7 rfl) rfl ?_
   refine AA _ (AH rfl) rfl ?_
   refine AQ 12 23 true _ rfl rfl rfl rfl ?_
   refine AQ 12 23 true _ rfl rfl rfl rfl ?_
   refine AQ 12 23 true _ rfl rfl rfl rfl ?_
   refine AQ 12 23 true _ rfl rfl rfl rfl ?_
   refine AQ 12 23 true _ rfl rfl rfl rfl ?_
   refine AA _ (BU _ rfl rfl rfl) rfl ?_
   refine AA _ (AH rfl) rfl ?_
   refine AQ 19 30 true _ rfl rfl rfl rfl ?_
   refine AQ 19 30 true _ rfl rfl rfl rfl ?_
   refine AQ 19 30 true _ rfl rfl rfl rfl ?_
   refine AQ 19 30 true _ rfl rfl rfl rfl ?_
   refine AQ 19 30 true _ rfl rfl rfl rfl ?_
   refine AA _ (BU _ rfl rfl rfl) rfl ?_
   refine AA _ (AH rfl) rfl ?_
   refine AQ 26 37 true _ rfl rfl rfl rfl ?_
   refine AQ 26 37 true _ rfl rfl rfl rfl ?_
   refine AQ 26 37 true _ rfl rfl rfl rfl ?_
   refine AQ 26 37 true _ rfl rfl rfl rfl ?_
   refine AQ 26 37 true _ rfl rfl rfl rfl ?_
   refine AA _ (BU _ rfl rfl rfl) rfl ?_
   refine AA _ (AH rfl) rfl ?_
   refine AQ 33 44 true _ rfl rfl rfl rfl ?_
   refine AQ 33 44 true _ rfl rfl rfl rfl ?_
   refine AQ 33 44 true _ rfl rfl rfl rfl ?_
   refine AQ 33 44 true _ rfl rfl rfl rfl ?_
   refine AQ 33 44 true _ rfl rfl rfl rfl ?_
   refine AA _ (BU _ rfl rfl rfl) rfl ?_
   refine AA _ (AH rfl) rfl ?_
   refine AQ 40 51 true _ rfl rfl rfl rfl ?_
   refine AQ 40 51 true _ rfl rfl rfl rfl ?_
   refine AQ 40 51 true _ rfl rfl rfl rfl ?_
   refine AQ 40 51 true _ rfl rfl rfl rfl ?_
   refine AQ 40 51 true _ rfl rfl rfl rfl ?_
   refine AA _ (BU _ rfl rfl rfl) rfl ?_
   refine AA _ (AG rfl) rfl ?_
   refine AN (AE (BP (CH [false, false, false, false] ?_)))
   show JQ _ _ _ _ []
   refine BQ (.bool false) (res1 EM (B2 rfl)) fun w1 hw1 => ?_
   refine ⟨_, [], rfl, ⟨congrArg Value.bool ?_, rfl⟩, hw1.sub (by simp) (by simp)⟩
   first | (simp [*]; done) | (simp_all; done)
theorem may13_c (pv ep : UInt64) (kd : Int) (ai : Option Addr) (ni ci : Nat) (l : List UInt64) (sa : Option Addr) (ns sc : Nat) (ls : List SealR) (bl : UInt64) (tg : List UInt8)  (w : World) (hl : l.length = ni) (hnm : ni ≤ 2000000) (hnc : ni ≤ ci) (hcm : ci ≤ maxLen) (hv : RdV w ai (cu64 l)) (hls : ls.length = ns) (hnn : ns ≤ 2000000) (hnd : ns ≤ sc) (hcn : sc ≤ maxLen) (hs : RdV w sa (ls.flatMap sealC)) (htg : tg.length = 16)  : Calls Tryd.prog 128 #[.agg ([U64 pv, U64 ep, I64 (kd), .slice ai ni ci, .slice sa ns sc, U64 bl] ++ cu8 tg).toArray] w (Post w [] (fun v L => v = errV 50 (mayN pv ep kd l ls bl) ∧ L = [])) := by
 have hmx : maxLen = 9223372036854775807 := rfl
 refine enter (P := Tryd.prog) (f := 128) (fn := Tryd.f128) w [] 37 [] [.agg ([U64 pv, U64 ep, I64 (kd), .slice ai ni ci, .slice sa ns sc, U64 bl] ++ cu8 tg).toArray] Tryd.func128 rfl rfl (by simp) (BZ (by simp) (by simp) (by simp)) ?_
 show JC _ _ _ [(0, .agg ([U64 pv, U64 ep, I64 (kd), .slice ai ni ci, .slice sa ns sc, U64 bl] ++ cu8 tg).toArray)] _
 refine AI (AD (A1 (CW (.agg ([U64 pv, U64 ep, I64 (kd), .slice ai ni ci, .slice sa ns sc, U64 bl] ++ cu8 tg).toArray) ([U64 pv, U64 ep, I64 (kd), .slice ai ni ci, .slice sa ns sc, U64 bl] ++ cu8 tg) rfl (by first | rfl | simp)) rfl ?_))
 rintro v1 L1 ⟨nb1, hnb1, rfl, rfl⟩
 show JL _ _ _ _ ((1, Ptr nb1 0) :: _) [⟨nb1, [U64 pv, U64 ep, I64 (kd), .slice ai ni ci, .slice sa ns sc, U64 bl] ++ cu8 tg, 29, (0, 0)⟩]
 refine AA _ (AG rfl) rfl ?_
 refine AN (AE (AI (BY (AI (AI (AD (AA (Ptr nb1 2) (AB 2 26 4 AO rfl A8 rfl rfl) rfl ?_)))))))
 refine AA (.agg #[I64 (kd), .slice ai ni ci, .slice sa ns sc, U64 bl]) (AK rfl (BH DG A8 rfl (AS 0 rfl (EI (p := [U64 pv, U64 ep]) (q := cu8 tg) (vs := [I64 (kd), .slice ai ni ci, .slice sa ns sc, U64 bl]) (by first | rfl | (simp only [List.append_assoc, List.nil_append, List.append_nil, List.cons_append]; done)) rfl)))) rfl ?_
 refine A7 (A3 69 [.agg #[I64 (kd), .slice ai ni ci, .slice sa ns sc, U64 bl]] (.bool (RightO (kd) l ls bl)) (AY _ Tryd.call69 rfl) (fun w1 hw1 => right13_c (kd) ai ni ci l sa ns sc ls bl w1 hl (by omega) (by omega) (by omega) (EG hw1 rfl hv) hls (by omega) (by omega) (by omega) (EG hw1 rfl hs))) rfl ?_
 show JL _ _ _ _ ((6, .bool (RightO (kd) l ls bl)) :: _) [_]
 refine AA (.bool (!(RightO (kd) l ls bl))) (FH rfl) rfl ?_
 refine AA _ (AG rfl) rfl ?_
 refine AN (AE (CY (!(RightO (kd) l ls bl)) rfl (fun hb1 => ?_) (fun hb1 => ?_)))
 ·
  have hb2 : (RightO (kd) l ls bl) = false := by simpa using hb1
  refine BT (AE (DJ _ rfl hb1 ?_))
  refine AI (AD (AA (.iface 50 (I64 2)) (FF DA rfl rfl) rfl ?_))
  refine AA _ (AG rfl) rfl ?_
  refine AN (AE (BP (DV (BN (CH [false] ?_)))))
  show JQ _ _ _ _ []
  refine BQ (.iface 50 (I64 2)) (res1 Tryd.results128 (B2 rfl)) fun w1 hw1 => ?_
  have e1 : mayN pv ep kd l ls bl = 2 := by
   unfold mayN
   first | rw [if_pos ‹RightO kd l ls bl = true›] | rw [if_neg (by simp [*])]
   all_goals simp [*]
  rw [e1]
  exact ⟨_, [], rfl, ⟨rfl, rfl⟩, hw1.sub (by simp) (by simp)⟩
 ·
  have hb3 : (RightO (kd) l ls bl) = true := by simpa using hb1
  by_cases hk1 : kd = 1
  ·
   have hpos := RightO_pos hb3 hk1
   rw [hls, hl] at hpos
   obtain ⟨x1, hx1⟩ : ∃ x, ls[0]? = some x := ⟨_, List.getElem?_eq_getElem (by rw [hls]; omega)⟩
   obtain ⟨bz1, oz1, hz1, hm1⟩ := rows_at FR (by decide) hs hx1
   refine C1 37 1 [(0, Ptr nb1 2), (1, Ptr nb1 2), (2, I64 (kd)), (3, .bool (decide ((kd) = (1:Int)))), (4, .bool (decide ((kd) = (1:Int)))), (5, Ptr nb1 2), (6, Ptr nb1 4), (7, .slice sa ns sc), (8, Ptr bz1 oz1), (9, Ptr bz1 oz1), (10, U64 x1.e), (11, Ptr nb1 1), (12, U64 ep), (13, .bool (decide (x1.e ≠ ep))), (14, .bool (decide (x1.e ≠ ep))), (15, .bool (decide (x1.e ≠ ep)))] BV rfl (by decide +kernel) ?_
   refine C4 ⟨[], [0, 1, 2, 3, 4, 5, 6, 7, 8, 9, 10, 11, 12, 13, 14, 15], [], [0, 1, 2, 3, 4, 5, 6, 7, 8, 9, 10, 11, 12, 13, 14, 15], []⟩ rfl rfl (by decide +kernel) rfl ⟨⟨_, rfl, AC rfl (AB 2 26 4 AO rfl A8 rfl rfl)⟩, ⟨_, rfl, AC rfl (AB 0 3 1 AF rfl BA rfl rfl)⟩, ⟨_, rfl, AC rfl (AK rfl (AV BF (AS 0 rfl (A4 (AJ (AJ (Seg.head)))))))⟩, ⟨_, rfl, AC rfl (AR rfl rfl fun _ => C9 _ _)⟩, A2 rfl rfl rfl, ⟨_, rfl, DK 4 12 true _ rfl rfl rfl (decide_eq_true hk1) (AB 2 26 4 AO rfl A8 rfl rfl)⟩, ⟨_, rfl, DK 4 12 true _ rfl rfl rfl (decide_eq_true hk1) (AB 2 24 1 AF rfl BL rfl rfl)⟩, ⟨_, rfl, DK 4 12 true _ rfl rfl rfl (decide_eq_true hk1) (AK rfl (AV BW (AS 0 rfl (A4 (AJ (AJ (AJ (AJ (Seg.head)))))))))⟩, ⟨_, rfl, DK 4 12 true _ rfl rfl rfl (decide_eq_true hk1) (D9 161 49 oz1 CC CE rfl hz1 rfl (by omega) (by omega) (by omega))⟩, ⟨_, rfl, DK 4 12 true _ rfl rfl rfl (decide_eq_true hk1) (AB 0 22 1 CT rfl AU rfl rfl)⟩, ⟨_, rfl, DK 4 12 true _ rfl rfl rfl (decide_eq_true hk1) (AK rfl (AV AX (C8 (hm1.mem (by simp)) (A4 (A4 (Seg.head))) (by omega))))⟩, ⟨_, rfl, DK 4 12 true _ rfl rfl rfl (decide_eq_true hk1) (AB 1 22 1 AO rfl AU rfl rfl)⟩, ⟨_, rfl, DK 4 12 true _ rfl rfl rfl (decide_eq_true hk1) (AK rfl (AV AX (AS 0 rfl (A4 (AJ (Seg.head))))))⟩, ⟨_, rfl, DK 4 12 true _ rfl rfl rfl (decide_eq_true hk1) (AR rfl rfl fun _ => bin_neq_u64 x1.e ep)⟩, ⟨_, rfl, AC rfl (CN _ rfl (decide_eq_true hk1) rfl)⟩, ⟨_, rfl, AC rfl (AG rfl)⟩, trivial⟩ ?_
   refine CI (F' := [(3, .bool (decide (x1.e ≠ ep))), (1, Ptr nb1 0), (2, .nilIface)]) (by kernel_rfl) ?_
   refine AE (CY (decide (x1.e ≠ ep)) rfl (fun hb4 => ?_) (fun hb4 => ?_))
   ·
    have hp4 : x1.e ≠ ep := of_decide_eq_true hb4
    refine AI (AD (AA (.iface 50 (I64 2)) (FF DA rfl rfl) rfl ?_))
    refine AA _ (AG rfl) rfl ?_
    refine AN (AE (BP (DV (BN (CH [false] ?_)))))
    show JQ _ _ _ _ []
    refine BQ (.iface 50 (I64 2)) (res1 Tryd.results128 (B2 rfl)) fun w1 hw1 => ?_
    have e1 : mayN pv ep kd l ls bl = 2 := by
     unfold mayN
     first | rw [if_pos ‹RightO kd l ls bl = true›] | rw [if_neg (by simp [*])]
     rw [headE_of hx1]
     all_goals simp [*]
    rw [e1]
    exact ⟨_, [], rfl, ⟨rfl, rfl⟩, hw1.sub (by simp) (by simp)⟩
   ·
    have hp4 : ¬ (x1.e ≠ ep) := of_decide_eq_false hb4
    refine AI (AD (AA (Ptr nb1 1) (AB 1 22 1 AO rfl AU rfl rfl) rfl ?_))
    refine AA (U64 ep) (AK rfl (AV AX (AS 0 rfl (A4 (AJ (Seg.head)))))) rfl ?_
    refine A7 (A3 133 [U64 0, U64 ep] (.bool (RightB (0:UInt64) ep)) (AY _ Tryd.call133 rfl) (fun w1 hw1 => right_c (0:UInt64) ep w1 )) rfl ?_
    show JL _ _ _ _ ((27, .bool (RightB (0:UInt64) ep)) :: _) [_]
    refine AA (.bool (!(RightB (0:UInt64) ep))) (FH rfl) rfl ?_
    refine AA _ (AH rfl) rfl ?_
    rcases Bool.eq_false_or_eq_true (RightB (0:UInt64) ep) with hb5 | hb5
    ·
     refine A0 4 29 false _ (Ptr nb1 0) rfl rfl (by rw [show (RightB (0:UInt64) ep) = true from hb5] <;> rfl) (AB 0 22 1 AO rfl AU rfl rfl) rfl ?_
     refine A0 4 29 false _ (U64 pv) rfl rfl (by rw [show (RightB (0:UInt64) ep) = true from hb5] <;> rfl) (AK rfl (AV AX (AS 0 rfl (A4 (Seg.head))))) rfl ?_
     refine A0 4 29 false _ (Ptr nb1 1) rfl rfl (by rw [show (RightB (0:UInt64) ep) = true from hb5] <;> rfl) (AB 1 22 1 AO rfl AU rfl rfl) rfl ?_
     refine A0 4 29 false _ (U64 ep) rfl rfl (by rw [show (RightB (0:UInt64) ep) = true from hb5] <;> rfl) (AK rfl (AV AX (AS 0 rfl (A4 (AJ (Seg.head)))))) rfl ?_
     refine A0 4 29 false _ (.bool (decide (ep ≤ pv))) rfl rfl (by rw [show (RightB (0:UInt64) ep) = true from hb5] <;> rfl) (AR rfl rfl fun _ => bin_geq_u64 pv ep) rfl ?_
     refine AA _ (BU _ rfl (by rw [show (RightB (0:UInt64) ep) = true from hb5] <;> rfl) rfl) rfl ?_
     refine AA _ (AG rfl) rfl ?_
     refine AN (AE (CY (decide (ep ≤ pv)) rfl (fun hb6 => ?_) (fun hb6 => ?_)))
     ·
      have hp6 : ep ≤ pv := of_decide_eq_true hb6
      refine AI (AD (AA (.iface 50 (I64 1)) (FF DA rfl rfl) rfl ?_))
      refine AA _ (AG rfl) rfl ?_
      refine AN (AE (BP (DV (BN (CH [false] ?_)))))
      show JQ _ _ _ _ []
      refine BQ (.iface 50 (I64 1)) (res1 Tryd.results128 (B2 rfl)) fun w1 hw1 => ?_
      have e1 : mayN pv ep kd l ls bl = 1 := by
       unfold mayN
       first | rw [if_pos ‹RightO kd l ls bl = true›] | rw [if_neg (by simp [*])]
       rw [headE_of hx1]
       all_goals simp [*]
      rw [e1]
      exact ⟨_, [], rfl, ⟨rfl, rfl⟩, hw1.sub (by simp) (by simp)⟩
     ·
      have hp6 : ¬ (ep ≤ pv) := of_decide_eq_false hb6
      refine BT (BO (AE (AI (AD (AA _ (AG rfl) rfl ?_)))))
      refine AN (AE (BP (CH [false] ?_)))
      show JQ _ _ _ _ []
      refine BQ (.nilIface) (res1 Tryd.results128 (B2 rfl)) fun w1 hw1 => ?_
      have e1 : mayN pv ep kd l ls bl = 0 := by
       unfold mayN
       first | rw [if_pos ‹RightO kd l ls bl = true›] | rw [if_neg (by simp [*])]
       rw [headE_of hx1]
       all_goals simp [*]
      rw [e1]
      exact ⟨_, [], rfl, ⟨rfl, rfl⟩, hw1.sub (by simp) (by simp)⟩
    ·
     refine AQ 4 29 false _ rfl rfl (by rw [show (RightB (0:UInt64) ep) = false from hb5] <;> rfl) rfl ?_
     refine AQ 4 29 false _ rfl rfl (by rw [show (RightB (0:UInt64) ep) = false from hb5] <;> rfl) rfl ?_
     refine AQ 4 29 false _ rfl rfl (by rw [show (RightB (0:UInt64) ep) = false from hb5] <;> rfl) rfl ?_
     refine AQ 4 29 false _ rfl rfl (by rw [show (RightB (0:UInt64) ep) = false from hb5] <;> rfl) rfl ?_
     refine AQ 4 29 false _ rfl rfl (by rw [show (RightB (0:UInt64) ep) = false from hb5] <;> rfl) rfl ?_
     refine AA _ (CN _ rfl (by rw [show (RightB (0:UInt64) ep) = false from hb5] <;> rfl) rfl) rfl ?_
     refine AA _ (AG rfl) rfl ?_
     refine AN (AE (DJ _ rfl rfl ?_))
     refine AI (AD (AA (.iface 50 (I64 1)) (FF DA rfl rfl) rfl ?_))
     refine AA _ (AG rfl) rfl ?_
     refine AN (AE (BP (DV (BN (CH [false] ?_)))))
     show JQ _ _ _ _ []
     refine BQ (.iface 50 (I64 1)) (res1 Tryd.results128 (B2 rfl)) fun w1 hw1 => ?_
     have e1 : mayN pv ep kd l ls bl = 1 := by
      unfold mayN
      first | rw [if_pos ‹RightO kd l ls bl = true›] | rw [if_neg (by simp [*])]
      rw [headE_of hx1]
      all_goals simp [*]
     rw [e1]
     exact ⟨_, [], rfl, ⟨rfl, rfl⟩, hw1.sub (by simp) (by simp)⟩
  ·
   refine C1 37 1 [(0, Ptr nb1 2), (1, Ptr nb1 2), (2, I64 (kd)), (3, .bool (decide ((kd) = (1:Int)))), (4, .bool (decide ((kd) = (1:Int)))), (5, undef), (6, undef), (7, undef), (8, undef), (9, undef), (10, undef), (11, undef), (12, undef), (13, undef), (14, .bool false), (15, .bool false)] BV rfl (by decide +kernel) ?_
   refine C4 ⟨[], [0, 1, 2, 3, 4, 5, 6, 7, 8, 9, 10, 11, 12, 13, 14, 15], [], [0, 1, 2, 3, 4, 5, 6, 7, 8, 9, 10, 11, 12, 13, 14, 15], []⟩ rfl rfl (by decide +kernel) rfl ⟨⟨_, rfl, AC rfl (AB 2 26 4 AO rfl A8 rfl rfl)⟩, ⟨_, rfl, AC rfl (AB 0 3 1 AF rfl BA rfl rfl)⟩, ⟨_, rfl, AC rfl (AK rfl (AV BF (AS 0 rfl (A4 (AJ (AJ (Seg.head)))))))⟩, ⟨_, rfl, AC rfl (AR rfl rfl fun _ => C9 _ _)⟩, A2 rfl rfl rfl, ⟨_, rfl, DM 4 12 true _ rfl rfl rfl (decide_eq_false hk1)⟩, ⟨_, rfl, DM 4 12 true _ rfl rfl rfl (decide_eq_false hk1)⟩, ⟨_, rfl, DM 4 12 true _ rfl rfl rfl (decide_eq_false hk1)⟩, ⟨_, rfl, DM 4 12 true _ rfl rfl rfl (decide_eq_false hk1)⟩, ⟨_, rfl, DM 4 12 true _ rfl rfl rfl (decide_eq_false hk1)⟩, ⟨_, rfl, DM 4 12 true _ rfl rfl rfl (decide_eq_false hk1)⟩, ⟨_, rfl, DM 4 12 true _ rfl rfl rfl (decide_eq_false hk1)⟩, ⟨_, rfl, DM 4 12 true _ rfl rfl rfl (decide_eq_false hk1)⟩, ⟨_, rfl, DM 4 12 true _ rfl rfl rfl (decide_eq_false hk1)⟩, ⟨_, rfl, AC rfl (BU _ rfl (decide_eq_false hk1) rfl)⟩, ⟨_, rfl, AC rfl (AG rfl)⟩, trivial⟩ ?_
   refine CI (F' := [(3, .bool false), (1, Ptr nb1 0), (2, .nilIface)]) (by kernel_rfl) ?_
   refine AE (CK _ rfl rfl ?_)
   refine AI (AD (AA (Ptr nb1 1) (AB 1 22 1 AO rfl AU rfl rfl) rfl ?_))
   refine AA (U64 ep) (AK rfl (AV AX (AS 0 rfl (A4 (AJ (Seg.head)))))) rfl ?_
   refine A7 (A3 133 [U64 0, U64 ep] (.bool (RightB (0:UInt64) ep)) (AY _ Tryd.call133 rfl) (fun w1 hw1 => right_c (0:UInt64) ep w1 )) rfl ?_
   show JL _ _ _ _ ((27, .bool (RightB (0:UInt64) ep)) :: _) [_]
   refine AA (.bool (!(RightB (0:UInt64) ep))) (FH rfl) rfl ?_
   refine AA _ (AH rfl) rfl ?_
   rcases Bool.eq_false_or_eq_true (RightB (0:UInt64) ep) with hb7 | hb7
   ·
    refine A0 4 29 false _ (Ptr nb1 0) rfl rfl (by rw [show (RightB (0:UInt64) ep) = true from hb7] <;> rfl) (AB 0 22 1 AO rfl AU rfl rfl) rfl ?_
    refine A0 4 29 false _ (U64 pv) rfl rfl (by rw [show (RightB (0:UInt64) ep) = true from hb7] <;> rfl) (AK rfl (AV AX (AS 0 rfl (A4 (Seg.head))))) rfl ?_
    refine A0 4 29 false _ (Ptr nb1 1) rfl rfl (by rw [show (RightB (0:UInt64) ep) = true from hb7] <;> rfl) (AB 1 22 1 AO rfl AU rfl rfl) rfl ?_
    refine A0 4 29 false _ (U64 ep) rfl rfl (by rw [show (RightB (0:UInt64) ep) = true from hb7] <;> rfl) (AK rfl (AV AX (AS 0 rfl (A4 (AJ (Seg.head)))))) rfl ?_
    refine A0 4 29 false _ (.bool (decide (ep ≤ pv))) rfl rfl (by rw [show (RightB (0:UInt64) ep) = true from hb7] <;> rfl) (AR rfl rfl fun _ => bin_geq_u64 pv ep) rfl ?_
    refine AA _ (BU _ rfl (by rw [show (RightB (0:UInt64) ep) = true from hb7] <;> rfl) rfl) rfl ?_
    refine AA _ (AG rfl) rfl ?_
    refine AN (AE (CY (decide (ep ≤ pv)) rfl (fun hb8 => ?_) (fun hb8 => ?_)))
    ·
     have hp8 : ep ≤ pv := of_decide_eq_true hb8
     refine AI (AD (AA (.iface 50 (I64 1)) (FF DA rfl rfl) rfl ?_))
     refine AA _ (AG rfl) rfl ?_
     refine AN (AE (BP (DV (BN (CH [false] ?_)))))
     show JQ _ _ _ _ []
     refine BQ (.iface 50 (I64 1)) (res1 Tryd.results128 (B2 rfl)) fun w1 hw1 => ?_
     have e1 : mayN pv ep kd l ls bl = 1 := by
      unfold mayN
      first | rw [if_pos ‹RightO kd l ls bl = true›] | rw [if_neg (by simp [*])]
      all_goals simp [*]
     rw [e1]
     exact ⟨_, [], rfl, ⟨rfl, rfl⟩, hw1.sub (by simp) (by simp)⟩
    ·
     have hp8 : ¬ (ep ≤ pv) := of_decide_eq_false hb8
     refine BT (BO (AE (AI (AD (AA _ (AG rfl) rfl ?_)))))
     refine AN (AE (BP (CH [false] ?_)))
     show JQ _ _ _ _ []
     refine BQ (.nilIface) (res1 Tryd.results128 (B2 rfl)) fun w1 hw1 => ?_
     have e1 : mayN pv ep kd l ls bl = 0 := by
      unfold mayN
      first | rw [if_pos ‹RightO kd l ls bl = true›] | rw [if_neg (by simp [*])]
      all_goals simp [*]
     rw [e1]
     exact ⟨_, [], rfl, ⟨rfl, rfl⟩, hw1.sub (by simp) (by simp)⟩
   ·
    refine AQ 4 29 false _ rfl rfl (by rw [show (RightB (0:UInt64) ep) = false from hb7] <;> rfl) rfl ?_
    refine AQ 4 29 false _ rfl rfl (by rw [show (RightB (0:UInt64) ep) = false from hb7] <;> rfl) rfl ?_
    refine AQ 4 29 false _ rfl rfl (by rw [show (RightB (0:UInt64) ep) = false from hb7] <;> rfl) rfl ?_
    refine AQ 4 29 false _ rfl rfl (by rw [show (RightB (0:UInt64) ep) = false from hb7] <;> rfl) rfl ?_
    refine AQ 4 29 false _ rfl rfl (by rw [show (RightB (0:UInt64) ep) = false from hb7] <;> rfl) rfl ?_
    refine AA _ (CN _ rfl (by rw [show (RightB (0:UInt64) ep) = false from hb7] <;> rfl) rfl) rfl ?_
    refine AA _ (AG rfl) rfl ?_
    refine AN (AE (DJ _ rfl rfl ?_))
    refine AI (AD (AA (.iface 50 (I64 1)) (FF DA rfl rfl) rfl ?_))
    refine AA _ (AG rfl) rfl ?_
    refine AN (AE (BP (DV (BN (CH [false] ?_)))))
    show JQ _ _ _ _ []
    refine BQ (.iface 50 (I64 1)) (res1 Tryd.results128 (B2 rfl)) fun w1 hw1 => ?_
    have e1 : mayN pv ep kd l ls bl = 1 := by
     unfold mayN
     first | rw [if_pos ‹RightO kd l ls bl = true›] | rw [if_neg (by simp [*])]
     all_goals simp [*]
    rw [e1]
    exact ⟨_, [], rfl, ⟨rfl, rfl⟩, hw1.sub (by simp) (by simp)⟩
theorem clone64N_c  (w : World) : Calls Tryd.prog 112 #[.slice none 0 0] w (Post w [] (fun v L => v = .slice none 0 0 ∧ L = [])) := by
 refine enter w [] 8 [] [.slice none 0 0] Tryd.func112 rfl rfl (by simp) (BZ (by simp) (by simp) (by simp)) ?_
 show JC _ _ _ [(0, .slice none 0 0)] _
 refine AI (AD (AA _ (AG rfl) rfl ?_))
 refine AN (AE (AI (AI (AD (AA _ (AH rfl) rfl ?_)))))
 refine AA (.bool true) (C2 _ _ _ rfl rfl (fun _ => eqGuard_sl ..) fun _ => eql_sl_nil_nil CA) rfl ?_
 refine AN (AE (DJ _ rfl rfl ?_))
 refine AI (AD (AA _ (AG rfl) rfl ?_))
 refine AN (AE (BP (BN (BQ (.slice none 0 0) (res1 Tryd.results112 (B2 rfl)) fun w1 hw1 => ?_))))
 exact ⟨_, [], rfl, ⟨rfl, rfl⟩, hw1.sub (by simp) (by simp)⟩
theorem clone64_c (ai : Option Addr) (ni ci : Nat) (l : List UInt64)  (w : World) (hl : l.length = ni) (hnm : ni ≤ 2000000) (hnc : ni ≤ ci) (hcm : ci ≤ maxLen) (hv : RdV w ai (cu64 l)) (ha : ai.isNone = false)  : Calls Tryd.prog 112 #[.slice ai ni ci] w (Post w [] (fun v L => ∃ g sp cap, v = Slc g 0 ni cap ∧ L = [⟨g, cu64 l ++ sp, 22, (0, 0)⟩] ∧ sp.length = cap - ni ∧ ni ≤ cap ∧ cap ≤ maxLen)) := by
 have hmx : maxLen = 9223372036854775807 := rfl
 refine enter w [] 8 [] [.slice ai ni ci] Tryd.func112 rfl rfl (by simp) (BZ (by simp) (by simp) (by simp)) ?_
 show JC _ _ _ [(0, .slice ai ni ci)] _
 refine AI (AD (AA _ (AG rfl) rfl ?_))
 refine AN (AE (AI (AI (AD (AA _ (AH rfl) rfl ?_)))))
 refine AA (.bool ai.isNone) (C2 _ _ _ rfl rfl (fun _ => eqGuard_sl ..) fun _ => eql_sl_any CA) rfl ?_
 refine AN (AE (CK _ rfl ha ?_))
 refine BT (AE (AI (AD (A1 (FE 22 1 CA AU) rfl ?_))))
 rintro v1 L1 ⟨nb1, hnb1, rfl, rfl⟩
 show JL _ _ _ _ ((5, Slc nb1 0 0 0) :: _) [⟨nb1, [], 22, (0, 0)⟩]
 refine AA _ (AH rfl) rfl ?_
 refine A1 (Step_appM64 23 22 [true] (Slc nb1 0 0 0) 0 ([] : List UInt64) l ai ni ci ni CA Tryd.info22 rfl (.inr ⟨nb1, [], 0, rfl, (by simp [take?, cu8, cu32, cu64]), rfl, (by simp), (by omega), (by unfold maxLen; omega)⟩) rfl (by first | exact hl | simp [hl]; try omega) (RdV.src hv rfl) (by omega) (by unfold maxLen; omega) (by omega)) rfl ?_
 rintro v1 L1 ⟨nb2, sp1, cp1, hg1, rfl, rfl, ha1, ha2, ha3, ha4⟩
 show JL _ _ _ _ ((7, Slc nb2 0 ni cp1) :: _) [⟨nb2, cu64 (([] : List UInt64) ++ l) ++ sp1, 22, (0, 0)⟩]
 refine AA _ (AG rfl) rfl ?_
 refine AN (AE (BP (BQ (Slc nb2 0 ni cp1) (res1 Tryd.results112 (B2 rfl)) fun w1 hw1 => ?_)))
 exact ⟨_, _, rfl, ⟨nb2, sp1, cp1, rfl, rfl, ha2, ha3, ha4⟩, hw1.sub (by simp) (by simp)⟩
theorem rnumber_c (nv : UInt64) (k : Nat) (w : World) (hk : k ≤ 8) : Calls Tryd.prog 88 #[U64 nv, I64 k] w (Post w [] (fun v L => ∃ g, v = Slc g 0 k k ∧ L = [⟨g, cu8 (numK k nv k), 5, (0, 0)⟩])) := by
 have hmx : maxLen = 9223372036854775807 := rfl
 refine enter w [] 24 [] [U64 nv, I64 k] Tryd.func88 rfl rfl (by simp) (BZ (by simp) (by simp) (by simp)) ?_
 show JC _ _ _ [(0, U64 nv), (1, I64 k)] _
 refine AI (AD (AA _ (AG rfl) rfl ?_))
 refine AN (AE (AI (AD (AA _ (AH rfl) rfl ?_))))
 refine A1 (Step_make8 5 1 k k AM C0 rfl rfl (by omega) (by omega) (by unfold maxLen; omega)) rfl ?_
 rintro v1 L1 ⟨nb1, hnb1, rfl, rfl⟩
 show JL _ _ _ _ ((8, Slc nb1 0 k k) :: _) [⟨nb1, cu8 (zr8 k), 5, (0, 0)⟩]
 refine AA _ (AG rfl) rfl ?_
 refine AN (AE (AI (AI (AD (AA _ (AH rfl) rfl ?_)))))
 refine AA (I64 ((k:Int) - 1)) (AR rfl rfl fun _ => DD _ _ ((k:Int) - 1) (by omega) (by omega)) rfl ?_
 refine AA _ (AG rfl) rfl ?_
 refine AN (AE (BY (EE (ι := Nat × List UInt8 × UInt64) (fun ⟨j, o, y⟩ => [(4, .slice none 0 0), (5, Slc nb1 0 k k), (6, I64 (-(j:Int) + (k:Int) - 1)), (0, U64 y)]) (fun ⟨j, o, y⟩ => [⟨nb1, cu8 o, 5, (0, 0)⟩]) (fun ⟨j, o, y⟩ => j ≤ k ∧ o = (rnK k nv j).1 ∧ y = (rnK k nv j).2 ∧ o.length = k) (fun ⟨j, o, y⟩ => k - j) (0, zr8 k, nv) ⟨by omega, by rw [rnK], by rw [rnK], AP k⟩ (Sub.cons rfl (Sub.cons rfl (Sub.cons (EQ (by omega)) (Sub.all rfl)))) rfl ?_)))
 rintro ⟨j, o, y⟩ ⟨hx1, hx2, hx3, ho⟩
 show JC _ _ _ [(4, .slice none 0 0), (5, Slc nb1 0 k k), (6, I64 (-(j:Int) + (k:Int) - 1)), (0, U64 y)] [⟨nb1, cu8 o, 5, (0, 0)⟩]
 refine AI (AI (AD (AA _ (AH rfl) rfl ?_)))
 refine AA (.bool (decide ((0:Int) ≤ (-(j:Int) + (k:Int) - 1)))) (AR rfl rfl fun _ => FV _ _) rfl ?_
 refine AN (AE (CY (decide ((0:Int) ≤ (-(j:Int) + (k:Int) - 1))) rfl (fun hb1 => ?_) (fun hb1 => ?_)))
 ·
  have hp1 : (0:Int) ≤ (-(j:Int) + (k:Int) - 1) := of_decide_eq_true hb1
  refine BT (AE (AI (BY (AI (AD (AA _ (AH rfl) rfl ?_))))))
  refine AA _ (AH rfl) rfl ?_
  refine AA _ (AH rfl) rfl ?_
  refine AA (U64 (y % (256:UInt64))) (AR rfl rfl fun _ => bin_rem_u64 y (256:UInt64) (by decide)) rfl ?_
  refine AA (U8 ((y % (256:UInt64)).toUInt8)) (DW _ _ rfl fun _ => FN (by rw [CF]; rfl) B6 _) rfl ?_
  refine AA (Ptr nb1 (k - j - 1)) (FC 5 1 (k - j - 1) AM AW rfl rfl (by omega) (by omega) (by omega)) rfl ?_
  have hl1 : (o.set (k - j - 1) ((y % (256:UInt64)).toUInt8)).length = k := by first | (rw [List.length_set]; exact ho) | simp [ho]
  refine A7 (DT 0 nb1 (k - j - 1) 1 (cu8 o) 5 (U8 ((y % (256:UInt64)).toUInt8)) ([U8 ((y % (256:UInt64)).toUInt8)]) (cu8 (o.set (k - j - 1) ((y % (256:UInt64)).toUInt8))) rfl rfl rfl rfl AW rfl (by simp [Value.oneCell']) (by simp [ho]; try omega) (lay8 _ _ _ (by rw [ho]; omega))) rfl ?_
  show JL _ _ _ _ _ [⟨nb1, cu8 (o.set (k - j - 1) ((y % (256:UInt64)).toUInt8)), 5, (0, 0)⟩]
  refine AN (AE (AD (AA _ (AH rfl) rfl ?_)))
  refine AA (U64 (y / (256:UInt64))) (AR rfl rfl fun _ => bin_quo_u64 y (256:UInt64) (by decide)) rfl ?_
  refine AA _ (AG rfl) rfl ?_
  refine AN (BO (AE (AD (AA _ (AH rfl) rfl ?_))))
  refine AA (I64 (-(j:Int) + (k:Int) - 2)) (AR rfl rfl fun _ => DD _ _ (-(j:Int) + (k:Int) - 2) (by omega) (by omega)) rfl ?_
  refine AA _ (AG rfl) rfl ?_
  refine AN (DH (EP (j + 1, o.set (k - j - 1) ((y % (256:UInt64)).toUInt8), y / (256:UInt64)) ⟨by omega, by rw [rnK, ← hx2, ← hx3], by rw [rnK, ← hx3], hl1⟩ (by first | (simp; omega) | simp | (dsimp only; omega) | omega) (Sub.cons rfl (Sub.cons rfl (Sub.cons (EQ (by omega)) (Sub.all rfl)))) rfl))
 ·
  have hp1 : ¬ ((0:Int) ≤ (-(j:Int) + (k:Int) - 1)) := of_decide_eq_false hb1
  refine D8 (BB (BB (CV (AE (AI (AD (AA _ (AH rfl) rfl ?_)))))))
  refine AA _ (AG rfl) rfl ?_
  refine AN (AE (BP (BQ (Slc nb1 0 k k) (res1 Tryd.results88 (B2 rfl)) fun w1 hw1 => ?_)))
  have e1 : j = k := by omega
  rw [hx2, e1, rnK_num k nv hk] at hw1
  exact ⟨_, _, rfl, ⟨_, rfl, rfl⟩, hw1.sub (by simp) (by simp)⟩
theorem put7_c (e : UInt64) (d t : List UInt8) (w : World) (hd : d.length = 32) (ht : t.length = 16) : Calls Tryd.prog 97 #[.agg ([U64 e] ++ cu8 d ++ cu8 t).toArray] w (Post w [] (fun v L => ∃ g sp cap, v = Slc g 0 56 cap ∧ L = [⟨g, cu8 (putL e d t) ++ sp, 5, (0, 0)⟩] ∧ sp.length = cap - 56 ∧ 56 ≤ cap ∧ cap ≤ maxLen)) := by
 have hmx : maxLen = 9223372036854775807 := rfl
 refine enter (P := Tryd.prog) (f := 97) (fn := Tryd.f97) w [] 25 [] [.agg ([U64 e] ++ cu8 d ++ cu8 t).toArray] Tryd.func97 rfl rfl (by simp) (BZ (by simp) (by simp) (by simp)) ?_
 show JC _ _ _ [(0, .agg ([U64 e] ++ cu8 d ++ cu8 t).toArray)] _
 refine AI (AD (A1 (CW (.agg ([U64 e] ++ cu8 d ++ cu8 t).toArray) ([U64 e] ++ cu8 d ++ cu8 t) rfl (by first | rfl | simp)) rfl ?_))
 rintro v1 L1 ⟨nb1, hnb1, rfl, rfl⟩
 show JL _ _ _ _ ((1, Ptr nb1 0) :: _) [⟨nb1, [U64 e] ++ cu8 d ++ cu8 t, 161, (0, 0)⟩]
 refine AA _ (AG rfl) rfl ?_
 refine AN (AE (AI (AD (AA (.agg #[.nilIface, .slice none 0 0]) (B8 [] _ rfl (fun _ => by kernel_rfl)) rfl ?_))))
 refine A1 (CW (.agg #[.nilIface, .slice none 0 0]) ([.nilIface, .slice none 0 0]) rfl (by first | rfl | simp)) rfl ?_
 rintro v1 L1 ⟨nb2, hnb2, rfl, rfl⟩
 show JL _ _ _ _ ((7, Ptr nb2 0) :: _) [_, ⟨nb2, [.nilIface, .slice none 0 0], 149, (0, 0)⟩]
 refine AA _ (AG rfl) rfl ?_
 refine AN (AE (AI (C1 25 5 [(0, Ptr nb2 0), (1, Ptr nb1 0), (2, U64 e), (4, Ptr nb1 1), (5, Slc nb1 1 32 32), (7, Ptr nb1 33), (8, Slc nb1 33 16 16)] BV rfl (by decide +kernel) ?_)))
 refine CR ⟨[], [0, 1, 2, 4, 5, 7, 8], [], [0, 1, 2, 4, 5, 7, 8], [3]⟩ 3 _ rfl rfl (by decide +kernel) rfl ⟨A2 rfl rfl rfl, ⟨_, rfl, AC rfl (AB 0 22 1 CT rfl AU rfl rfl)⟩, ⟨_, rfl, AC rfl (AK rfl (AV AX (AS 0 rfl (A4 (A4 (Seg.head))))))⟩, ⟨_, rfl, AC rfl (AB 1 159 32 CT rfl Tryd.sizeOf159 rfl rfl)⟩, ⟨_, rfl, AC rfl (B3 32 5 1 0 32 1 32 E1 AW rfl rfl rfl (by omega) (by omega) (by omega) (by omega) (by omega) 32 (by omega))⟩, ⟨_, rfl, AC rfl (AB 33 27 16 CT rfl BE rfl rfl)⟩, ⟨_, rfl, AC rfl (B3 16 5 1 0 16 33 16 BJ AW rfl rfl rfl (by omega) (by omega) (by omega) (by omega) (by omega) 16 (by omega))⟩, trivial⟩ rfl (AZ rfl (DN 81 _ [false, true] [nb2] _ (AY [Ptr nb2 0, U64 e, I64 8] Tryd.call81 rfl) rfl (fun w1 hw1 => numN_c nb2 8 .nilIface e 8 w1 (hw1.ent _ (List.mem_of_getElem? (i := 1) rfl)) (by unfold Szd; omega) (fun h => absurd h (by omega)) (by omega)))) ?_
 rintro v1 L1 ⟨_, ⟨rfl, nb3, sp1, cp1, rfl, hc1, hc2, hc3⟩, rfl⟩
 refine ⟨[], ?_⟩
 show DP _ _ _ _ _ _ _ _ [_, ⟨nb2, [.nilIface, Slc nb3 0 8 cp1], 149, (0, 0)⟩, ⟨nb3, cu8 (numK 8 e 8) ++ sp1, 5, (0, 0)⟩]
 refine CR ⟨[3], [0, 1, 2, 4, 5, 7, 8], [0, 1, 2], [4, 5, 7, 8], [6]⟩ 6 _ rfl rfl (by decide +kernel) rfl ⟨⟨_, rfl, AC rfl (AB 1 159 32 CT rfl Tryd.sizeOf159 rfl rfl)⟩, ⟨_, rfl, AC rfl (B3 32 5 1 0 32 1 32 E1 AW rfl rfl rfl (by omega) (by omega) (by omega) (by omega) (by omega) 32 (by omega))⟩, ⟨_, rfl, AC rfl (AB 33 27 16 CT rfl BE rfl rfl)⟩, ⟨_, rfl, AC rfl (B3 16 5 1 0 16 33 16 BJ AW rfl rfl rfl (by omega) (by omega) (by omega) (by omega) (by omega) 16 (by omega))⟩, trivial⟩ rfl (AZ rfl (DN 82 _ [false, true, true] [nb2, nb3] _ (AY [Ptr nb2 0, Slc nb1 1 32 32] Tryd.call82 rfl) rfl (fun w1 hw1 => rawO_c nb2 nb3 8 cp1 40 .nilIface (numK 8 e 8) sp1 (some ⟨nb1, 1, none⟩) 32 32 d w1 (hw1.ent _ (List.mem_of_getElem? (i := 1) rfl)) (hw1.ent _ (List.mem_of_getElem? (i := 2) rfl)) (hw1.ne (i := 1) (j := 2) rfl rfl (by decide)) (show (numK 8 e 8).length = 8 from (C3 _ _ _)) hc1 hc2 hc3 (by omega) hd (by omega) (RdB.of hw1 (AS 0 rfl (A4 (Seg.right 1 0 rfl rfl (AL _)))) (by intro _; simp only [List.mem_cons, List.not_mem_nil, or_false, not_or]; exact ⟨hw1.ne (i := 0) (j := 1) rfl rfl (by decide), hw1.ne (i := 0) (j := 2) rfl rfl (by decide)⟩)) (by omega)))) ?_
 rintro v1 L1 ⟨_, ⟨rfl, nb4, sp2, cp2, rfl, hc4, hc5, hc6⟩, rfl⟩
 refine ⟨[], ?_⟩
 show DP _ _ _ _ _ _ _ _ [_, ⟨nb2, [.nilIface, Slc nb4 0 40 cp2], 149, (0, 0)⟩, ⟨nb4, cu8 ((numK 8 e 8) ++ d) ++ sp2, 5, (0, 0)⟩]
 refine CR ⟨[3, 6], [0, 1, 2, 4, 5, 7, 8], [0, 1, 2, 4, 5], [7, 8], [9]⟩ 9 _ rfl rfl (by decide +kernel) rfl ⟨⟨_, rfl, AC rfl (AB 33 27 16 CT rfl BE rfl rfl)⟩, ⟨_, rfl, AC rfl (B3 16 5 1 0 16 33 16 BJ AW rfl rfl rfl (by omega) (by omega) (by omega) (by omega) (by omega) 16 (by omega))⟩, trivial⟩ rfl (AZ rfl (DN 82 _ [false, true, true] [nb2, nb4] _ (AY [Ptr nb2 0, Slc nb1 33 16 16] Tryd.call82 rfl) rfl (fun w1 hw1 => rawO_c nb2 nb4 40 cp2 56 .nilIface ((numK 8 e 8) ++ d) sp2 (some ⟨nb1, 33, none⟩) 16 16 t w1 (hw1.ent _ (List.mem_of_getElem? (i := 1) rfl)) (hw1.ent _ (List.mem_of_getElem? (i := 2) rfl)) (hw1.ne (i := 1) (j := 2) rfl rfl (by decide)) (show ((numK 8 e 8) ++ d).length = 40 from (by rw [List.length_append, (show (numK 8 e 8).length = 8 from (C3 _ _ _)), hd] <;> omega)) hc4 hc5 hc6 (by omega) ht (by omega) (RdB.of hw1 (AS 0 rfl (Seg.right 33 0 (by simp [hd]) rfl (AL _))) (by intro _; simp only [List.mem_cons, List.not_mem_nil, or_false, not_or]; exact ⟨hw1.ne (i := 0) (j := 1) rfl rfl (by decide), hw1.ne (i := 0) (j := 2) rfl rfl (by decide)⟩)) (by omega)))) ?_
 rintro v1 L1 ⟨_, ⟨rfl, nb5, sp3, cp3, rfl, hc7, hc8, hc9⟩, rfl⟩
 refine ⟨[], ?_⟩
 show DP _ _ _ _ _ _ _ _ [_, ⟨nb2, [.nilIface, Slc nb5 0 56 cp3], 149, (0, 0)⟩, ⟨nb5, cu8 (((numK 8 e 8) ++ d) ++ t) ++ sp3, 5, (0, 0)⟩]
 refine CR ⟨[3, 6, 9], [0, 1, 2, 4, 5, 7, 8], [0, 1, 2, 4, 5, 7, 8], [], [10]⟩ 10 _ rfl rfl (by decide +kernel) rfl trivial rfl (AZ rfl (BI 83 [Ptr nb2 0] _ (AY _ Tryd.call83 rfl) (fun w1 hw1 => doneO_c nb2 0 nb5 56 cp3 (((numK 8 e 8) ++ d) ++ t) w1 (RdA.of hw1 (AS 1 rfl (AL _)) (by simp)) rfl (show (((numK 8 e 8) ++ d) ++ t).length = 56 from (by rw [List.length_append, (show ((numK 8 e 8) ++ d).length = 40 from (by rw [List.length_append, (show (numK 8 e 8).length = 8 from (C3 _ _ _)), hd] <;> omega)), ht] <;> omega)) (by omega) (RdB.of hw1 (AS 2 rfl (A4 (AL _))) (by simp))))) ?_
 rintro v1 L1 ⟨_, ⟨nb6, sp4, cp4, rfl, rfl, hc10, hc11, hc12⟩, rfl⟩
 refine ⟨[(11, .tuple #[Slc nb6 0 56 cp4, .nilIface]), (12, Slc nb6 0 56 cp4), (13, .nilIface), (14, Slc nb6 0 56 cp4), (15, .nilIface)], ?_⟩
 show DP _ _ _ _ _ _ _ _ [_, _, _, ⟨nb6, cu8 (((numK 8 e 8) ++ d) ++ t) ++ sp4, 5, (0, 0)⟩]
 refine C4 ⟨[3, 6, 9, 10], [0, 1, 2, 4, 5, 7, 8, 11, 12, 13, 14, 15], [0, 1, 2, 4, 5, 7, 8], [11, 12, 13, 14, 15], []⟩ rfl rfl (by decide +kernel) rfl ⟨A2 rfl rfl rfl, ⟨_, rfl, AC rfl (B4 rfl rfl)⟩, ⟨_, rfl, AC rfl (B4 rfl rfl)⟩, ⟨_, rfl, AC rfl (AG rfl)⟩, ⟨_, rfl, AC rfl (AG rfl)⟩, trivial⟩ ?_
 refine CI (F' := [(4, Slc nb6 0 56 cp4), (5, .nilIface), (2, .slice none 0 0)]) (by kernel_rfl) ?_
 refine AE (AI (AI (AD (AA _ (AH rfl) rfl ?_))))
 refine AA (.bool false) (C2 _ _ _ rfl rfl (fun _ => EA ..) fun _ => DC A6) rfl ?_
 refine AN (AE (CK _ rfl rfl ?_))
 refine BT (AE (AI (AD (AA _ (AH rfl) rfl ?_))))
 refine AA _ (AG rfl) rfl ?_
 refine AN (AE (BP (CH [false, false, false, true] ?_)))
 show JQ _ _ _ _ [_]
 refine BQ (Slc nb6 0 56 cp4) (res1 Tryd.results97 (B2 rfl)) fun w1 hw1 => ?_
 have hq : ((numK 8 e 8) ++ d) ++ t = putL e d t := by rw [putL]
 rw [hq] at hw1
 exact ⟨_, _, rfl, ⟨nb6, sp4, cp4, rfl, rfl, hc10, hc11, hc12⟩, hw1.sub (by simp) (by simp)⟩
theorem rput7_c (e : UInt64) (d t : List UInt8) (w : World) (hd : d.length = 32) (ht : t.length = 16) : Calls Tryd.prog 105 #[.agg ([U64 e] ++ cu8 d ++ cu8 t).toArray] w (Post w [] (fun v L => ∃ g sp cap, v = Slc g 0 56 cap ∧ L = [⟨g, cu8 (putL e d t) ++ sp, 5, (0, 0)⟩] ∧ sp.length = cap - 56 ∧ 56 ≤ cap ∧ cap ≤ maxLen)) := by
 have hmx : maxLen = 9223372036854775807 := rfl
 refine enter (P := Tryd.prog) (f := 105) (fn := Tryd.f105) w [] 15 [] [.agg ([U64 e] ++ cu8 d ++ cu8 t).toArray] Tryd.func105 rfl rfl (by simp) (BZ (by simp) (by simp) (by simp)) ?_
 show JC _ _ _ [(0, .agg ([U64 e] ++ cu8 d ++ cu8 t).toArray)] _
 refine AI (AD (A1 (CW (.agg ([U64 e] ++ cu8 d ++ cu8 t).toArray) ([U64 e] ++ cu8 d ++ cu8 t) rfl (by first | rfl | simp)) rfl ?_))
 rintro v1 L1 ⟨nb1, hnb1, rfl, rfl⟩
 show JL _ _ _ _ ((1, Ptr nb1 0) :: _) [⟨nb1, [U64 e] ++ cu8 d ++ cu8 t, 164, (0, 0)⟩]
 refine AA _ (AG rfl) rfl ?_
 refine AN (AE (AI (AD (AA (Ptr nb1 0) (AB 0 22 1 Tryd.underlying164 rfl AU rfl rfl) rfl ?_))))
 refine AA (U64 e) (AK rfl (AV AX (AS 0 rfl (A4 (A4 (Seg.head)))))) rfl ?_
 refine A1 (BI 88 [U64 e, I64 8] _ (AY _ Tryd.call88 rfl) (fun w1 hw1 => rnumber_c e 8 w1 (by omega))) rfl ?_
 rintro v1 L1 ⟨_, ⟨nb2, rfl, rfl⟩, rfl⟩
 show JL _ _ _ _ ((6, Slc nb2 0 8 8) :: _) [_, ⟨nb2, cu8 (numK 8 e 8), 5, (0, 0)⟩]
 refine AA _ (AG rfl) rfl ?_
 refine AN (AE (AI (AD (AA _ (AH rfl) rfl ?_))))
 refine AA (Ptr nb1 1) (AB 1 159 32 Tryd.underlying164 rfl Tryd.sizeOf159 rfl rfl) rfl ?_
 refine AA (Slc nb1 1 32 32) (B3 32 5 1 0 32 1 32 E1 AW rfl rfl rfl (by omega) (by omega) (by omega) (by omega) (by omega) 32 (by omega)) rfl ?_
 refine A1 (C5 43 5 [false, true] (Slc nb2 0 8 8) 8 (numK 8 e 8) d (some ⟨nb1, 1, none⟩) 32 32 40 AM C0 rfl (.inr ⟨nb2, [], 8, rfl, (by simp [take?, cu8, cu32, cu64]), (by first | exact (show (numK 8 e 8).length = 8 from C3 _ _ _) | simp [(show (numK 8 e 8).length = 8 from C3 _ _ _)]), (by simp), (by omega), (by unfold maxLen; omega)⟩) rfl (by first | exact hd | simp [hd]; try omega) (SrcAt.mem (AS 0 rfl (A4 (Seg.right 1 0 rfl rfl (AL _))))) (by omega) (by unfold maxLen; omega) (by omega)) rfl ?_
 rintro v1 L1 ⟨nb3, sp1, cp1, hg1, rfl, rfl, ha1, ha2, ha3, ha4⟩
 show JL _ _ _ _ ((10, Slc nb3 0 40 cp1) :: _) [_, ⟨nb3, cu8 ((numK 8 e 8) ++ d) ++ sp1, 5, (0, 0)⟩]
 refine AA _ (AG rfl) rfl ?_
 refine AN (AE (AI (AD (AA _ (AH rfl) rfl ?_))))
 refine AA (Ptr nb1 33) (AB 33 27 16 Tryd.underlying164 rfl BE rfl rfl) rfl ?_
 refine AA (Slc nb1 33 16 16) (B3 16 5 1 0 16 33 16 BJ AW rfl rfl rfl (by omega) (by omega) (by omega) (by omega) (by omega) 16 (by omega)) rfl ?_
 refine A1 (C5 43 5 [false, true] (Slc nb3 0 40 cp1) 40 ((numK 8 e 8) ++ d) t (some ⟨nb1, 33, none⟩) 16 16 56 AM C0 rfl (.inr ⟨nb3, sp1, cp1, rfl, rfl, (by first | exact ha1 | simp [ha1]), ha2, (by omega), (by omega)⟩) rfl (by first | exact ht | simp [ht]; try omega) (SrcAt.mem (AS 0 rfl (Seg.right 33 0 (by simp [hd]) rfl (AL _)))) (by omega) (by unfold maxLen; omega) (by omega)) rfl ?_
 rintro v1 L1 ⟨nb4, sp2, cp2, hg2, rfl, rfl, ha5, ha6, ha7, ha8⟩
 show JL _ _ _ _ ((14, Slc nb4 0 56 cp2) :: _) [_, ⟨nb4, cu8 (((numK 8 e 8) ++ d) ++ t) ++ sp2, 5, (0, 0)⟩]
 refine AA _ (AG rfl) rfl ?_
 refine AN (AE (BP (CH [false, true] ?_)))
 show JQ _ _ _ _ [_]
 refine BQ (Slc nb4 0 56 cp2) (res1 Tryd.results105 (B2 rfl)) fun w1 hw1 => ?_
 have hq : ((numK 8 e 8) ++ d) ++ t = putL e d t := by rw [putL]
 rw [hq] at hw1
 exact ⟨_, _, rfl, ⟨nb4, sp2, cp2, rfl, rfl, ha6, ha7, ha8⟩, hw1.sub (by simp) (by simp)⟩
theorem text3_c (pv ep : UInt64) (k : Nat) (ai : Option Addr) (ni ci : Nat) (l : List UInt64) (sa : Option Addr) (ns sc : Nat) (ls : List SealR) (bl : UInt64) (tg : List UInt8)  (w : World) (hl : l.length = ni) (hnm : ni ≤ 2000000) (hnc : ni ≤ ci) (hcm : ci ≤ maxLen) (hv : RdV w ai (cu64 l)) (hls : ls.length = ns) (hnn : ns ≤ 2000000) (hnd : ns ≤ sc) (hcn : sc ≤ maxLen) (hs : RdV w sa (ls.flatMap sealC)) (htg : tg.length = 16) (hmay : mayN pv ep (k:Int) l ls bl = 0) (hk : k = 3)  : Calls Tryd.prog 114 #[.agg ([U64 pv, U64 ep, I64 k, .slice ai ni ci, .slice sa ns sc, U64 bl] ++ cu8 tg).toArray] w (Post w [] (fun v L => ∃ g sp cap, v = .tuple #[Slc g 0 25 cap, .nilIface] ∧ L = [⟨g, cu8 (tktT pv ep k l ls bl) ++ sp, 5, (0, 0)⟩] ∧ sp.length = cap - 25 ∧ 25 ≤ cap ∧ cap ≤ maxLen)) := by
 have hmx : maxLen = 9223372036854775807 := rfl
 refine enter (P := Tryd.prog) (f := 114) (fn := Tryd.f114) w [] 75 [] [.agg ([U64 pv, U64 ep, I64 k, .slice ai ni ci, .slice sa ns sc, U64 bl] ++ cu8 tg).toArray] Tryd.func114 rfl rfl (by simp) (BZ (by simp) (by simp) (by simp)) ?_
 show JC _ _ _ [(0, .agg ([U64 pv, U64 ep, I64 k, .slice ai ni ci, .slice sa ns sc, U64 bl] ++ cu8 tg).toArray)] _
 refine AI (AD (A1 (CW (.agg ([U64 pv, U64 ep, I64 k, .slice ai ni ci, .slice sa ns sc, U64 bl] ++ cu8 tg).toArray) ([U64 pv, U64 ep, I64 k, .slice ai ni ci, .slice sa ns sc, U64 bl] ++ cu8 tg) rfl (by first | rfl | simp)) rfl ?_))
 rintro v1 L1 ⟨nb1, hnb1, rfl, rfl⟩
 show JL _ _ _ _ ((1, Ptr nb1 0) :: _) [⟨nb1, [U64 pv, U64 ep, I64 k, .slice ai ni ci, .slice sa ns sc, U64 bl] ++ cu8 tg, 29, (0, 0)⟩]
 refine AA _ (AG rfl) rfl ?_
 refine AA _ (AG rfl) rfl ?_
 refine AN (AE (AI (AI (AD (AA (.agg ([U64 pv, U64 ep, I64 k, .slice ai ni ci, .slice sa ns sc, U64 bl] ++ cu8 tg).toArray) (AK rfl (BH A9 AT (by simp [htg]) (AS 0 rfl (AL _)))) rfl ?_)))))
 refine A7 (A3 128 [.agg ([U64 pv, U64 ep, I64 k, .slice ai ni ci, .slice sa ns sc, U64 bl] ++ cu8 tg).toArray] (errV 50 (mayN pv ep ((k:Int)) l ls bl)) (AY _ Tryd.call128 rfl) (fun w1 hw1 => may13_c pv ep ((k:Int)) ai ni ci l sa ns sc ls bl tg w1 hl (by omega) (by omega) (by omega) (EG hw1 rfl hv) hls (by omega) (by omega) (by omega) (EG hw1 rfl hs) htg)) rfl ?_
 show JL _ _ _ _ ((12, errV 50 (mayN pv ep ((k:Int)) l ls bl)) :: _) [_]
 refine AA _ (AG rfl) rfl ?_
 refine AN (AE (AI (AD (AA _ (AH rfl) rfl ?_))))
 refine AA (.bool (!(decide (mayN pv ep ((k:Int)) l ls bl = 0)))) (C2 _ _ _ rfl rfl (fun _ => CJ ..) fun _ => EF A6 _ _) rfl ?_
 refine AN (AE (CK _ rfl (by rw [show (decide (mayN pv ep ((k:Int)) l ls bl = 0)) = true from (decide_eq_true hmay)] <;> rfl) ?_))
 refine BT (AE (AI (AD (AA (Ptr nb1 2) (AB 2 26 4 AO rfl A8 rfl rfl) rfl ?_))))
 refine AA (.agg #[I64 k, .slice ai ni ci, .slice sa ns sc, U64 bl]) (AK rfl (BH DG A8 rfl (AS 0 rfl (EI (p := [U64 pv, U64 ep]) (q := cu8 tg) (vs := [I64 k, .slice ai ni ci, .slice sa ns sc, U64 bl]) (by first | rfl | (simp only [List.append_assoc, List.nil_append, List.append_nil, List.cons_append]; done)) rfl)))) rfl ?_
 refine A1 (BG _ ([I64 0, .slice none 0 0, .slice none 0 0, U64 0]) Tryd.zeroValue26 (by kernel_rfl)) rfl ?_
 rintro v1 L1 ⟨nb2, hnb2, rfl, rfl⟩
 show JL _ _ _ _ ((5, Ptr nb2 0) :: _) [_, ⟨nb2, [I64 0, .slice none 0 0, .slice none 0 0, U64 0], 26, (0, 0)⟩]
 refine A7 (A5 1 nb2 4 ([I64 0, .slice none 0 0, .slice none 0 0, U64 0]) 26 ([I64 k, .slice ai ni ci, .slice sa ns sc, U64 bl]) rfl rfl rfl A8 rfl (by simp [Value.oneCell']) (Nat.le_of_ble_eq_true rfl) (BC (by simp []))) rfl ?_
 show JL _ _ _ _ _ [_, ⟨nb2, [I64 k, .slice ai ni ci, .slice sa ns sc, U64 bl], 26, (0, 0)⟩]
 refine AN (AE (AI (AD (AA (.agg #[.nilIface, .slice none 0 0]) (B8 [] _ rfl (fun _ => by kernel_rfl)) rfl ?_))))
 refine A1 (CW (.agg #[.nilIface, .slice none 0 0]) ([.nilIface, .slice none 0 0]) rfl (by first | rfl | simp)) rfl ?_
 rintro v1 L1 ⟨nb3, hnb3, rfl, rfl⟩
 show JL _ _ _ _ ((19, Ptr nb3 0) :: _) [_, _, ⟨nb3, [.nilIface, .slice none 0 0], 149, (0, 0)⟩]
 refine AA _ (AG rfl) rfl ?_
 refine AN (AE (AI (C1 75 4 [(0, Ptr nb3 0), (1, Ptr nb1 0), (2, U64 pv), (4, Ptr nb1 1), (5, U64 ep), (7, Ptr nb2 0), (8, I64 k), (9, U64 (UInt64.ofNat k))] BV rfl (by decide +kernel) ?_)))
 refine CR ⟨[], [0, 1, 2, 4, 5, 7, 8, 9], [], [0, 1, 2, 4, 5, 7, 8, 9], [3]⟩ 3 _ rfl rfl (by decide +kernel) rfl ⟨A2 rfl rfl rfl, ⟨_, rfl, AC rfl (AB 0 22 1 AO rfl AU rfl rfl)⟩, ⟨_, rfl, AC rfl (AK rfl (AV AX (AS 0 rfl (A4 (Seg.head)))))⟩, ⟨_, rfl, AC rfl (AB 1 22 1 AO rfl AU rfl rfl)⟩, ⟨_, rfl, AC rfl (AK rfl (AV AX (AS 0 rfl (A4 (AJ (Seg.head))))))⟩, ⟨_, rfl, AC rfl (AB 0 3 1 AF rfl BA rfl rfl)⟩, ⟨_, rfl, AC rfl (AK rfl (AV BF (AS 1 rfl (Seg.head))))⟩, ⟨_, rfl, AC rfl (DW _ _ rfl fun _ => EN (by rw [CG]; rfl) CF k _ (by omega))⟩, trivial⟩ rfl (AZ rfl (DN 81 _ [false, false, true] [nb3] _ (AY [Ptr nb3 0, U64 pv, I64 8] Tryd.call81 rfl) rfl (fun w1 hw1 => numN_c nb3 8 .nilIface pv 8 w1 (hw1.ent _ (List.mem_of_getElem? (i := 2) rfl)) (by unfold Szd; omega) (fun h => absurd h (by omega)) (by omega)))) ?_
 rintro v1 L1 ⟨_, ⟨rfl, nb4, sp1, cp1, rfl, hc1, hc2, hc3⟩, rfl⟩
 refine ⟨[], ?_⟩
 show DP _ _ _ _ _ _ _ _ [_, _, ⟨nb3, [.nilIface, Slc nb4 0 8 cp1], 149, (0, 0)⟩, ⟨nb4, cu8 (numK 8 pv 8) ++ sp1, 5, (0, 0)⟩]
 refine CR ⟨[3], [0, 1, 2, 4, 5, 7, 8, 9], [0, 1, 2], [4, 5, 7, 8, 9], [6]⟩ 6 _ rfl rfl (by decide +kernel) rfl ⟨⟨_, rfl, AC rfl (AB 1 22 1 AO rfl AU rfl rfl)⟩, ⟨_, rfl, AC rfl (AK rfl (AV AX (AS 0 rfl (A4 (AJ (Seg.head))))))⟩, ⟨_, rfl, AC rfl (AB 0 3 1 AF rfl BA rfl rfl)⟩, ⟨_, rfl, AC rfl (AK rfl (AV BF (AS 1 rfl (Seg.head))))⟩, ⟨_, rfl, AC rfl (DW _ _ rfl fun _ => EN (by rw [CG]; rfl) CF k _ (by omega))⟩, trivial⟩ rfl (AZ rfl (DN 81 _ [false, false, true, true] [nb3, nb4] _ (AY [Ptr nb3 0, U64 ep, I64 8] Tryd.call81 rfl) rfl (fun w1 hw1 => numO_c nb3 nb4 8 cp1 16 .nilIface (numK 8 pv 8) sp1 ep 8 w1 (hw1.ent _ (List.mem_of_getElem? (i := 2) rfl)) (hw1.ent _ (List.mem_of_getElem? (i := 3) rfl)) (hw1.ne (i := 2) (j := 3) rfl rfl (by decide)) (show (numK 8 pv 8).length = 8 from (C3 _ _ _)) hc1 hc2 hc3 (by omega) (by unfold Szd; omega) (fun h => absurd h (by omega)) (by omega)))) ?_
 rintro v1 L1 ⟨_, ⟨rfl, nb5, sp2, cp2, rfl, hc4, hc5, hc6⟩, rfl⟩
 refine ⟨[], ?_⟩
 show DP _ _ _ _ _ _ _ _ [_, _, ⟨nb3, [.nilIface, Slc nb5 0 16 cp2], 149, (0, 0)⟩, ⟨nb5, cu8 ((numK 8 pv 8) ++ numK 8 ep 8) ++ sp2, 5, (0, 0)⟩]
 refine CR ⟨[3, 6], [0, 1, 2, 4, 5, 7, 8, 9], [0, 1, 2, 4, 5], [7, 8, 9], [10]⟩ 10 _ rfl rfl (by decide +kernel) rfl ⟨⟨_, rfl, AC rfl (AB 0 3 1 AF rfl BA rfl rfl)⟩, ⟨_, rfl, AC rfl (AK rfl (AV BF (AS 1 rfl (Seg.head))))⟩, ⟨_, rfl, AC rfl (DW _ _ rfl fun _ => EN (by rw [CG]; rfl) CF k _ (by omega))⟩, trivial⟩ rfl (AZ rfl (DN 81 _ [false, false, true, true] [nb3, nb5] _ (AY [Ptr nb3 0, U64 (UInt64.ofNat k), I64 1] Tryd.call81 rfl) rfl (fun w1 hw1 => numO_c nb3 nb5 16 cp2 17 .nilIface ((numK 8 pv 8) ++ numK 8 ep 8) sp2 (UInt64.ofNat k) 1 w1 (hw1.ent _ (List.mem_of_getElem? (i := 2) rfl)) (hw1.ent _ (List.mem_of_getElem? (i := 3) rfl)) (hw1.ne (i := 2) (j := 3) rfl rfl (by decide)) (show ((numK 8 pv 8) ++ numK 8 ep 8).length = 16 from (by rw [List.length_append, (show (numK 8 pv 8).length = 8 from (C3 _ _ _)), C3] <;> omega)) hc4 hc5 hc6 (by omega) (by unfold Szd; omega) (fun _ => shr8n (by omega)) (by omega)))) ?_
 rintro v1 L1 ⟨_, ⟨rfl, nb6, sp3, cp3, rfl, hc7, hc8, hc9⟩, rfl⟩
 refine ⟨[], ?_⟩
 show DP _ _ _ _ _ _ _ _ [_, _, ⟨nb3, [.nilIface, Slc nb6 0 17 cp3], 149, (0, 0)⟩, ⟨nb6, cu8 (((numK 8 pv 8) ++ numK 8 ep 8) ++ numK 1 (UInt64.ofNat k) 1) ++ sp3, 5, (0, 0)⟩]
 refine C4 ⟨[3, 6, 10], [0, 1, 2, 4, 5, 7, 8, 9], [0, 1, 2, 4, 5, 7, 8, 9], [], []⟩ rfl rfl (by decide +kernel) rfl trivial ?_
 refine CI (F' := [(2, .slice none 0 0), (3, .nilIface), (5, Ptr nb2 0), (6, Ptr nb3 0)]) (by kernel_rfl) ?_
 refine AE (AI (AI (AD (AA (Ptr nb2 0) (AB 0 3 1 AF rfl BA rfl rfl) rfl ?_))))
 refine AA (I64 k) (AK rfl (AV BF (AS 1 rfl (Seg.head)))) rfl ?_
 refine AA (.bool (decide (((k:Int)) = (3:Int)))) (AR rfl rfl fun _ => C9 _ _) rfl ?_
 refine AN (AE (DJ _ rfl (decide_eq_true (by omega)) ?_))
 refine AI (AD (AA _ (AH rfl) rfl ?_))
 refine AA (Ptr nb2 3) (AB 3 22 1 AF rfl AU rfl rfl) rfl ?_
 refine AA (U64 bl) (AK rfl (AV AX (AS 1 rfl (AJ (AJ (AJ (Seg.head))))))) rfl ?_
 refine A1 (DN 81 _ [false, false, true, true] [nb3, nb6] _ (AY [Ptr nb3 0, U64 bl, I64 8] Tryd.call81 rfl) rfl (fun w1 hw1 => numO_c nb3 nb6 17 cp3 25 .nilIface (((numK 8 pv 8) ++ numK 8 ep 8) ++ numK 1 (UInt64.ofNat k) 1) sp3 bl 8 w1 (hw1.ent _ (List.mem_of_getElem? (i := 2) rfl)) (hw1.ent _ (List.mem_of_getElem? (i := 3) rfl)) (hw1.ne (i := 2) (j := 3) rfl rfl (by decide)) (show (((numK 8 pv 8) ++ numK 8 ep 8) ++ numK 1 (UInt64.ofNat k) 1).length = 17 from (by rw [List.length_append, (show ((numK 8 pv 8) ++ numK 8 ep 8).length = 16 from (by rw [List.length_append, (show (numK 8 pv 8).length = 8 from (C3 _ _ _)), C3] <;> omega)), C3] <;> omega)) hc7 hc8 hc9 (by omega) (by unfold Szd; omega) (fun h => absurd h (by omega)) (by omega))) rfl ?_
 rintro v1 L1 ⟨_, ⟨rfl, nb7, sp4, cp4, rfl, hc10, hc11, hc12⟩, rfl⟩
 show JL _ _ _ _ ((37, Ptr nb3 0) :: _) [_, _, ⟨nb3, [.nilIface, Slc nb7 0 25 cp4], 149, (0, 0)⟩, ⟨nb7, cu8 ((((numK 8 pv 8) ++ numK 8 ep 8) ++ numK 1 (UInt64.ofNat k) 1) ++ numK 8 bl 8) ++ sp4, 5, (0, 0)⟩]
 refine A1 (BI 83 [Ptr nb3 0] _ (AY _ Tryd.call83 rfl) (fun w1 hw1 => doneO_c nb3 0 nb7 25 cp4 ((((numK 8 pv 8) ++ numK 8 ep 8) ++ numK 1 (UInt64.ofNat k) 1) ++ numK 8 bl 8) w1 (RdA.of hw1 (AS 2 rfl (AL _)) (by simp)) rfl (show ((((numK 8 pv 8) ++ numK 8 ep 8) ++ numK 1 (UInt64.ofNat k) 1) ++ numK 8 bl 8).length = 25 from (by rw [List.length_append, (show (((numK 8 pv 8) ++ numK 8 ep 8) ++ numK 1 (UInt64.ofNat k) 1).length = 17 from (by rw [List.length_append, (show ((numK 8 pv 8) ++ numK 8 ep 8).length = 16 from (by rw [List.length_append, (show (numK 8 pv 8).length = 8 from (C3 _ _ _)), C3] <;> omega)), C3] <;> omega)), C3] <;> omega)) (by omega) (RdB.of hw1 (AS 3 rfl (A4 (AL _))) (by simp)))) rfl ?_
 rintro v1 L1 ⟨_, ⟨nb8, sp5, cp5, rfl, rfl, hc13, hc14, hc15⟩, rfl⟩
 show JL _ _ _ _ ((38, .tuple #[Slc nb8 0 25 cp5, .nilIface]) :: _) [_, _, _, _, ⟨nb8, cu8 ((((numK 8 pv 8) ++ numK 8 ep 8) ++ numK 1 (UInt64.ofNat k) 1) ++ numK 8 bl 8) ++ sp5, 5, (0, 0)⟩]
 refine AA _ (B4 rfl rfl) rfl ?_
 refine AA _ (B4 rfl rfl) rfl ?_
 refine AA _ (AG rfl) rfl ?_
 refine AA _ (AG rfl) rfl ?_
 refine AN (AE (BP (BN (CH [false, false, false, false, true] ?_))))
 show JQ _ _ _ _ [_]
 refine BQ (.tuple #[Slc nb8 0 25 cp5, .nilIface]) (res2 Tryd.results114 (B2 rfl) (B2 rfl)) fun w1 hw1 => ?_
 have hq : (((numK 8 pv 8) ++ numK 8 ep 8) ++ numK 1 (UInt64.ofNat k) 1) ++ numK 8 bl 8 = tktT pv ep k l ls bl := by
  unfold tktT
  rw [if_pos hk]
 rw [hq] at hw1
 exact ⟨_, _, rfl, ⟨nb8, sp5, cp5, rfl, rfl, hc13, hc14, hc15⟩, hw1.sub (by simp) (by simp)⟩
theorem text12_c (pv ep : UInt64) (k : Nat) (ai : Option Addr) (ni ci : Nat) (l : List UInt64) (sa : Option Addr) (ns sc : Nat) (ls : List SealR) (bl : UInt64) (tg : List UInt8) (tot : Nat)  (w : World) (hl : l.length = ni) (hnm : ni ≤ 2000000) (hnc : ni ≤ ci) (hcm : ci ≤ maxLen) (hv : RdV w ai (cu64 l)) (hls : ls.length = ns) (hnn : ns ≤ 2000000) (hnd : ns ≤ sc) (hcn : sc ≤ maxLen) (hs : RdV w sa (ls.flatMap sealC)) (htg : tg.length = 16) (hmay : mayN pv ep (k:Int) l ls bl = 0) (hk : k = 1 ∨ k = 2) (hsm : ns ≤ 300) (htot : 18 + 4*ni + 56*ns = tot)  : Calls Tryd.prog 114 #[.agg ([U64 pv, U64 ep, I64 k, .slice ai ni ci, .slice sa ns sc, U64 bl] ++ cu8 tg).toArray] w (Post w [] (fun v L => ∃ g sp cap, v = .tuple #[Slc g 0 tot cap, .nilIface] ∧ L = [⟨g, cu8 (tktT pv ep k l ls bl) ++ sp, 5, (0, 0)⟩] ∧ sp.length = cap - tot ∧ tot ≤ cap ∧ cap ≤ maxLen)) := by
 have hmx : maxLen = 9223372036854775807 := rfl
 have hRO := F7 hmay
 have hRI := RightO_idx hRO (by omega)
 have hRp := RightI_pos hRI
 rw [hl] at hRp
 refine enter (P := Tryd.prog) (f := 114) (fn := Tryd.f114) w [] 75 [] [.agg ([U64 pv, U64 ep, I64 k, .slice ai ni ci, .slice sa ns sc, U64 bl] ++ cu8 tg).toArray] Tryd.func114 rfl rfl (by simp) (BZ (by simp) (by simp) (by simp)) ?_
 show JC _ _ _ [(0, .agg ([U64 pv, U64 ep, I64 k, .slice ai ni ci, .slice sa ns sc, U64 bl] ++ cu8 tg).toArray)] _
 refine AI (AD (A1 (CW (.agg ([U64 pv, U64 ep, I64 k, .slice ai ni ci, .slice sa ns sc, U64 bl] ++ cu8 tg).toArray) ([U64 pv, U64 ep, I64 k, .slice ai ni ci, .slice sa ns sc, U64 bl] ++ cu8 tg) rfl (by first | rfl | simp)) rfl ?_))
 rintro v1 L1 ⟨nb1, hnb1, rfl, rfl⟩
 show JL _ _ _ _ ((1, Ptr nb1 0) :: _) [⟨nb1, [U64 pv, U64 ep, I64 k, .slice ai ni ci, .slice sa ns sc, U64 bl] ++ cu8 tg, 29, (0, 0)⟩]
 refine AA _ (AG rfl) rfl ?_
 refine AA _ (AG rfl) rfl ?_
 refine AN (AE (AI (AI (AD (AA (.agg ([U64 pv, U64 ep, I64 k, .slice ai ni ci, .slice sa ns sc, U64 bl] ++ cu8 tg).toArray) (AK rfl (BH A9 AT (by simp [htg]) (AS 0 rfl (AL _)))) rfl ?_)))))
 refine A7 (A3 128 [.agg ([U64 pv, U64 ep, I64 k, .slice ai ni ci, .slice sa ns sc, U64 bl] ++ cu8 tg).toArray] (errV 50 (mayN pv ep ((k:Int)) l ls bl)) (AY _ Tryd.call128 rfl) (fun w1 hw1 => may13_c pv ep ((k:Int)) ai ni ci l sa ns sc ls bl tg w1 hl (by omega) (by omega) (by omega) (EG hw1 rfl hv) hls (by omega) (by omega) (by omega) (EG hw1 rfl hs) htg)) rfl ?_
 show JL _ _ _ _ ((12, errV 50 (mayN pv ep ((k:Int)) l ls bl)) :: _) [_]
 refine AA _ (AG rfl) rfl ?_
 refine AN (AE (AI (AD (AA _ (AH rfl) rfl ?_))))
 refine AA (.bool (!(decide (mayN pv ep ((k:Int)) l ls bl = 0)))) (C2 _ _ _ rfl rfl (fun _ => CJ ..) fun _ => EF A6 _ _) rfl ?_
 refine AN (AE (CK _ rfl (by rw [show (decide (mayN pv ep ((k:Int)) l ls bl = 0)) = true from (decide_eq_true hmay)] <;> rfl) ?_))
 refine BT (AE (AI (AD (AA (Ptr nb1 2) (AB 2 26 4 AO rfl A8 rfl rfl) rfl ?_))))
 refine AA (.agg #[I64 k, .slice ai ni ci, .slice sa ns sc, U64 bl]) (AK rfl (BH DG A8 rfl (AS 0 rfl (EI (p := [U64 pv, U64 ep]) (q := cu8 tg) (vs := [I64 k, .slice ai ni ci, .slice sa ns sc, U64 bl]) (by first | rfl | (simp only [List.append_assoc, List.nil_append, List.append_nil, List.cons_append]; done)) rfl)))) rfl ?_
 refine A1 (BG _ ([I64 0, .slice none 0 0, .slice none 0 0, U64 0]) Tryd.zeroValue26 (by kernel_rfl)) rfl ?_
 rintro v1 L1 ⟨nb2, hnb2, rfl, rfl⟩
 show JL _ _ _ _ ((5, Ptr nb2 0) :: _) [_, ⟨nb2, [I64 0, .slice none 0 0, .slice none 0 0, U64 0], 26, (0, 0)⟩]
 refine A7 (A5 1 nb2 4 ([I64 0, .slice none 0 0, .slice none 0 0, U64 0]) 26 ([I64 k, .slice ai ni ci, .slice sa ns sc, U64 bl]) rfl rfl rfl A8 rfl (by simp [Value.oneCell']) (Nat.le_of_ble_eq_true rfl) (BC (by simp []))) rfl ?_
 show JL _ _ _ _ _ [_, ⟨nb2, [I64 k, .slice ai ni ci, .slice sa ns sc, U64 bl], 26, (0, 0)⟩]
 refine AN (AE (AI (AD (AA (.agg #[.nilIface, .slice none 0 0]) (B8 [] _ rfl (fun _ => by kernel_rfl)) rfl ?_))))
 refine A1 (CW (.agg #[.nilIface, .slice none 0 0]) ([.nilIface, .slice none 0 0]) rfl (by first | rfl | simp)) rfl ?_
 rintro v1 L1 ⟨nb3, hnb3, rfl, rfl⟩
 show JL _ _ _ _ ((19, Ptr nb3 0) :: _) [_, _, ⟨nb3, [.nilIface, .slice none 0 0], 149, (0, 0)⟩]
 refine AA _ (AG rfl) rfl ?_
 refine AN (AE (AI (C1 75 4 [(0, Ptr nb3 0), (1, Ptr nb1 0), (2, U64 pv), (4, Ptr nb1 1), (5, U64 ep), (7, Ptr nb2 0), (8, I64 k), (9, U64 (UInt64.ofNat k))] BV rfl (by decide +kernel) ?_)))
 refine CR ⟨[], [0, 1, 2, 4, 5, 7, 8, 9], [], [0, 1, 2, 4, 5, 7, 8, 9], [3]⟩ 3 _ rfl rfl (by decide +kernel) rfl ⟨A2 rfl rfl rfl, ⟨_, rfl, AC rfl (AB 0 22 1 AO rfl AU rfl rfl)⟩, ⟨_, rfl, AC rfl (AK rfl (AV AX (AS 0 rfl (A4 (Seg.head)))))⟩, ⟨_, rfl, AC rfl (AB 1 22 1 AO rfl AU rfl rfl)⟩, ⟨_, rfl, AC rfl (AK rfl (AV AX (AS 0 rfl (A4 (AJ (Seg.head))))))⟩, ⟨_, rfl, AC rfl (AB 0 3 1 AF rfl BA rfl rfl)⟩, ⟨_, rfl, AC rfl (AK rfl (AV BF (AS 1 rfl (Seg.head))))⟩, ⟨_, rfl, AC rfl (DW _ _ rfl fun _ => EN (by rw [CG]; rfl) CF k _ (by omega))⟩, trivial⟩ rfl (AZ rfl (DN 81 _ [false, false, true] [nb3] _ (AY [Ptr nb3 0, U64 pv, I64 8] Tryd.call81 rfl) rfl (fun w1 hw1 => numN_c nb3 8 .nilIface pv 8 w1 (hw1.ent _ (List.mem_of_getElem? (i := 2) rfl)) (by unfold Szd; omega) (fun h => absurd h (by omega)) (by omega)))) ?_
 rintro v1 L1 ⟨_, ⟨rfl, nb4, sp1, cp1, rfl, hc1, hc2, hc3⟩, rfl⟩
 refine ⟨[], ?_⟩
 show DP _ _ _ _ _ _ _ _ [_, _, ⟨nb3, [.nilIface, Slc nb4 0 8 cp1], 149, (0, 0)⟩, ⟨nb4, cu8 (numK 8 pv 8) ++ sp1, 5, (0, 0)⟩]
 refine CR ⟨[3], [0, 1, 2, 4, 5, 7, 8, 9], [0, 1, 2], [4, 5, 7, 8, 9], [6]⟩ 6 _ rfl rfl (by decide +kernel) rfl ⟨⟨_, rfl, AC rfl (AB 1 22 1 AO rfl AU rfl rfl)⟩, ⟨_, rfl, AC rfl (AK rfl (AV AX (AS 0 rfl (A4 (AJ (Seg.head))))))⟩, ⟨_, rfl, AC rfl (AB 0 3 1 AF rfl BA rfl rfl)⟩, ⟨_, rfl, AC rfl (AK rfl (AV BF (AS 1 rfl (Seg.head))))⟩, ⟨_, rfl, AC rfl (DW _ _ rfl fun _ => EN (by rw [CG]; rfl) CF k _ (by omega))⟩, trivial⟩ rfl (AZ rfl (DN 81 _ [false, false, true, true] [nb3, nb4] _ (AY [Ptr nb3 0, U64 ep, I64 8] Tryd.call81 rfl) rfl (fun w1 hw1 => numO_c nb3 nb4 8 cp1 16 .nilIface (numK 8 pv 8) sp1 ep 8 w1 (hw1.ent _ (List.mem_of_getElem? (i := 2) rfl)) (hw1.ent _ (List.mem_of_getElem? (i := 3) rfl)) (hw1.ne (i := 2) (j := 3) rfl rfl (by decide)) (show (numK 8 pv 8).length = 8 from (C3 _ _ _)) hc1 hc2 hc3 (by omega) (by unfold Szd; omega) (fun h => absurd h (by omega)) (by omega)))) ?_
 rintro v1 L1 ⟨_, ⟨rfl, nb5, sp2, cp2, rfl, hc4, hc5, hc6⟩, rfl⟩
 refine ⟨[], ?_⟩
 show DP _ _ _ _ _ _ _ _ [_, _, ⟨nb3, [.nilIface, Slc nb5 0 16 cp2], 149, (0, 0)⟩, ⟨nb5, cu8 ((numK 8 pv 8) ++ numK 8 ep 8) ++ sp2, 5, (0, 0)⟩]
 refine CR ⟨[3, 6], [0, 1, 2, 4, 5, 7, 8, 9], [0, 1, 2, 4, 5], [7, 8, 9], [10]⟩ 10 _ rfl rfl (by decide +kernel) rfl ⟨⟨_, rfl, AC rfl (AB 0 3 1 AF rfl BA rfl rfl)⟩, ⟨_, rfl, AC rfl (AK rfl (AV BF (AS 1 rfl (Seg.head))))⟩, ⟨_, rfl, AC rfl (DW _ _ rfl fun _ => EN (by rw [CG]; rfl) CF k _ (by omega))⟩, trivial⟩ rfl (AZ rfl (DN 81 _ [false, false, true, true] [nb3, nb5] _ (AY [Ptr nb3 0, U64 (UInt64.ofNat k), I64 1] Tryd.call81 rfl) rfl (fun w1 hw1 => numO_c nb3 nb5 16 cp2 17 .nilIface ((numK 8 pv 8) ++ numK 8 ep 8) sp2 (UInt64.ofNat k) 1 w1 (hw1.ent _ (List.mem_of_getElem? (i := 2) rfl)) (hw1.ent _ (List.mem_of_getElem? (i := 3) rfl)) (hw1.ne (i := 2) (j := 3) rfl rfl (by decide)) (show ((numK 8 pv 8) ++ numK 8 ep 8).length = 16 from (by rw [List.length_append, (show (numK 8 pv 8).length = 8 from (C3 _ _ _)), C3] <;> omega)) hc4 hc5 hc6 (by omega) (by unfold Szd; omega) (fun _ => shr8n (by omega)) (by omega)))) ?_
 rintro v1 L1 ⟨_, ⟨rfl, nb6, sp3, cp3, rfl, hc7, hc8, hc9⟩, rfl⟩
 refine ⟨[], ?_⟩
 show DP _ _ _ _ _ _ _ _ [_, _, ⟨nb3, [.nilIface, Slc nb6 0 17 cp3], 149, (0, 0)⟩, ⟨nb6, cu8 (((numK 8 pv 8) ++ numK 8 ep 8) ++ numK 1 (UInt64.ofNat k) 1) ++ sp3, 5, (0, 0)⟩]
 refine C4 ⟨[3, 6, 10], [0, 1, 2, 4, 5, 7, 8, 9], [0, 1, 2, 4, 5, 7, 8, 9], [], []⟩ rfl rfl (by decide +kernel) rfl trivial ?_
 refine CI (F' := [(2, .slice none 0 0), (3, .nilIface), (5, Ptr nb2 0), (6, Ptr nb3 0)]) (by kernel_rfl) ?_
 refine AE (AI (AI (AD (AA (Ptr nb2 0) (AB 0 3 1 AF rfl BA rfl rfl) rfl ?_))))
 refine AA (I64 k) (AK rfl (AV BF (AS 1 rfl (Seg.head)))) rfl ?_
 refine AA (.bool (decide (((k:Int)) = (3:Int)))) (AR rfl rfl fun _ => C9 _ _) rfl ?_
 refine AN (AE (CK _ rfl (decide_eq_false (by omega)) ?_))
 refine BT (AE (AI (AD (AA _ (AH rfl) rfl ?_))))
 refine AA (Ptr nb2 1) (AB 1 23 1 AF rfl CB rfl rfl) rfl ?_
 refine AA (.slice ai ni ci) (AK rfl (AV CP (AS 1 rfl (AJ (Seg.head))))) rfl ?_
 refine AA (I64 ni) (EL CA rfl) rfl ?_
 refine AA (I64 ((ni:Int) - 1)) (AR rfl rfl fun _ => DD _ _ ((ni:Int) - 1) (by omega) (by omega)) rfl ?_
 refine AA (U64 (UInt64.ofNat (ni - 1))) (DW _ _ rfl fun _ => EN (by rw [CG]; rfl) CF (ni - 1) _ (by omega)) rfl ?_
 refine A1 (DN 81 _ [false, false, true, true] [nb3, nb6] _ (AY [Ptr nb3 0, U64 (UInt64.ofNat (ni - 1)), I64 1] Tryd.call81 rfl) rfl (fun w1 hw1 => numO_c nb3 nb6 17 cp3 18 .nilIface (((numK 8 pv 8) ++ numK 8 ep 8) ++ numK 1 (UInt64.ofNat k) 1) sp3 (UInt64.ofNat (ni - 1)) 1 w1 (hw1.ent _ (List.mem_of_getElem? (i := 2) rfl)) (hw1.ent _ (List.mem_of_getElem? (i := 3) rfl)) (hw1.ne (i := 2) (j := 3) rfl rfl (by decide)) (show (((numK 8 pv 8) ++ numK 8 ep 8) ++ numK 1 (UInt64.ofNat k) 1).length = 17 from (by rw [List.length_append, (show ((numK 8 pv 8) ++ numK 8 ep 8).length = 16 from (by rw [List.length_append, (show (numK 8 pv 8).length = 8 from (C3 _ _ _)), C3] <;> omega)), C3] <;> omega)) hc7 hc8 hc9 (by omega) (by unfold Szd; omega) (fun _ => shr8n (by omega)) (by omega))) rfl ?_
 rintro v1 L1 ⟨_, ⟨rfl, nb7, sp4, cp4, rfl, hc10, hc11, hc12⟩, rfl⟩
 show JL _ _ _ _ ((47, Ptr nb3 0) :: _) [_, _, ⟨nb3, [.nilIface, Slc nb7 0 18 cp4], 149, (0, 0)⟩, ⟨nb7, cu8 ((((numK 8 pv 8) ++ numK 8 ep 8) ++ numK 1 (UInt64.ofNat k) 1) ++ numK 1 (UInt64.ofNat (ni - 1)) 1) ++ sp4, 5, (0, 0)⟩]
 refine AN (AE (AI (AI (AD (AA (Ptr nb2 1) (AB 1 23 1 AF rfl CB rfl rfl) rfl ?_)))))
 refine AA (.slice ai ni ci) (AK rfl (AV CP (AS 1 rfl (AJ (Seg.head))))) rfl ?_
 refine AA (I64 ni) (EL CA rfl) rfl ?_
 refine AA _ (AH rfl) rfl ?_
 refine AN (AE (BY ?_))
 skip
 refine CH [false, true, true, true] ?_
 show JC _ _ _ _ [_, _, _]
 refine EE (ι := Nat × List UInt8 × Nat × List Value × Nat) (fun ⟨i, oqi, gqi, spqi, cpqi⟩ => [(2, .slice none 0 0), (3, .nilIface), (5, Ptr nb2 0), (6, Ptr nb3 0), (49, .slice ai ni ci), (50, I64 ni), (51, I64 i)]) (fun ⟨i, oqi, gqi, spqi, cpqi⟩ => [⟨nb2, [I64 k, .slice ai ni ci, .slice sa ns sc, U64 bl], 26, (0, 0)⟩, ⟨nb3, [.nilIface, Slc gqi 0 (4*i + 18) cpqi], 149, (0, 0)⟩, ⟨gqi, cu8 oqi ++ spqi, 5, (0, 0)⟩]) (fun ⟨i, oqi, gqi, spqi, cpqi⟩ => i ≤ ni ∧ oqi = (((numK 8 pv 8 ++ numK 8 ep 8) ++ numK 1 (UInt64.ofNat k) 1) ++ numK 1 (UInt64.ofNat (ni - 1)) 1) ++ idxT l i ∧ oqi.length = (4*i + 18) ∧ spqi.length = cpqi - ((4*i + 18)) ∧ (4*i + 18) ≤ cpqi ∧ cpqi ≤ maxLen) (fun ⟨i, oqi, gqi, spqi, cpqi⟩ => ni - i) (0, (((numK 8 pv 8) ++ numK 8 ep 8) ++ numK 1 (UInt64.ofNat k) 1) ++ numK 1 (UInt64.ofNat (ni - 1)) 1, nb7, sp4, cp4) ⟨by omega, by rw [idxT_zero, List.append_nil], (by have h := (show ((((numK 8 pv 8) ++ numK 8 ep 8) ++ numK 1 (UInt64.ofNat k) 1) ++ numK 1 (UInt64.ofNat (ni - 1)) 1).length = 18 from (by rw [List.length_append, (show (((numK 8 pv 8) ++ numK 8 ep 8) ++ numK 1 (UInt64.ofNat k) 1).length = 17 from (by rw [List.length_append, (show ((numK 8 pv 8) ++ numK 8 ep 8).length = 16 from (by rw [List.length_append, (show (numK 8 pv 8).length = 8 from (C3 _ _ _)), C3] <;> omega)), C3] <;> omega)), C3] <;> omega)); omega), (by have h := hc10; omega), by omega, by omega⟩ (Sub.all rfl) (by first | rfl | (simp; done)) ?_
 rintro ⟨i, oqi, gqi, spqi, cpqi⟩ ⟨hi1, hi2, hi3, hi4, hi5, hi6⟩
 show JC _ _ _ [(2, .slice none 0 0), (3, .nilIface), (5, Ptr nb2 0), (6, Ptr nb3 0), (49, .slice ai ni ci), (50, I64 ni), (51, I64 i)] [⟨nb2, [I64 k, .slice ai ni ci, .slice sa ns sc, U64 bl], 26, (0, 0)⟩, ⟨nb3, [.nilIface, Slc gqi 0 (4*i + 18) cpqi], 149, (0, 0)⟩, ⟨gqi, cu8 oqi ++ spqi, 5, (0, 0)⟩]
 refine AI (AD (AA (.bool (decide (((i:Int)) < ((ni:Int))))) (AR rfl rfl fun _ => CS _ _) rfl ?_))
 refine AN (AE (AI (CY (decide (((i:Int)) < ((ni:Int)))) rfl (fun hb1 => ?_) (fun hb1 => ?_))))
 ·
  have hp1 : ((i:Int)) < ((ni:Int)) := of_decide_eq_true hb1
  refine BT (AE (AI (BY (AI (AD ?_)))))
  obtain ⟨bz1, oz1, hz1, hm1⟩ := RdV.pos hv (by rw [F4, hl]; omega)
  refine AA (Ptr bz1 (i + oz1)) (D9 22 1 (i + oz1) CA AU rfl hz1 rfl (by omega) (by omega) (by omega)) rfl ?_
  refine AA (U64 (g64 l i)) (AK rfl (AV AX (C8 (hm1.mem (by simp)) (Seg.get (g64_get (i := i) (by rw [hl]; omega))) (by omega)))) rfl ?_
  refine AA _ (AG rfl) rfl ?_
  refine AN (AE (AD (AA _ (AH rfl) rfl ?_)))
  refine AA _ (AH rfl) rfl ?_
  refine A1 (DN 81 _ [false, true, true] [nb3, gqi] _ (AY [Ptr nb3 0, U64 (g64 l i), I64 4] Tryd.call81 rfl) rfl (fun w1 hw1 => numO_c nb3 gqi (4*i + 18) cpqi (4*i + 22) .nilIface oqi spqi (g64 l i) 4 w1 (hw1.ent _ (List.mem_of_getElem? (i := 1) rfl)) (hw1.ent _ (List.mem_of_getElem? (i := 2) rfl)) (hw1.ne (i := 1) (j := 2) rfl rfl (by decide)) hi3 hi4 hi5 hi6 (by omega) (by unfold Szd; omega) (fun _ => idx_fit hRI (by omega)) (by omega))) rfl ?_
  rintro v1 L1 ⟨_, ⟨rfl, nb8, sp5, cp5, rfl, hc13, hc14, hc15⟩, rfl⟩
  show JL _ _ _ _ ((57, Ptr nb3 0) :: _) [_, ⟨nb3, [.nilIface, Slc nb8 0 (4*i + 22) cp5], 149, (0, 0)⟩, ⟨nb8, cu8 (oqi ++ numK 4 (g64 l i) 4) ++ sp5, 5, (0, 0)⟩]
  refine AN (BO (AE (AD (AA (I64 ((i:Int) + 1)) (AR rfl rfl fun _ => DF _ _ ((i:Int) + 1) (by omega) (by omega)) rfl ?_))))
  refine AA _ (AH rfl) rfl ?_
  refine AN (DH (EP (i + 1, oqi ++ numK 4 (g64 l i) 4, nb8, sp5, cp5) ⟨by omega, by rw [hi2, idxT_succ, List.append_assoc], (by have h := (show (oqi ++ numK 4 (g64 l i) 4).length = (4*i + 22) from (by rw [List.length_append, hi3, C3] <;> omega)); omega), (by have h := hc13; omega), by omega, by omega⟩ (by first | (simp; omega) | simp | (dsimp only; omega) | omega) (Sub.all rfl) (by first | rfl | rw [show (4*i + 22) = (4*(i + 1) + 18) by omega])))
 ·
  have hp1 : ¬ (((i:Int)) < ((ni:Int))) := of_decide_eq_false hb1
  refine D8 (BB (BB (CV (AE (AI (AI (AD (AA (Ptr nb2 2) (AB 2 24 1 AF rfl BL rfl rfl) rfl ?_))))))))
  refine AA (.slice sa ns sc) (AK rfl (AV BW (AS 0 rfl (AJ (AJ (Seg.head)))))) rfl ?_
  refine AA (I64 ns) (EL CC rfl) rfl ?_
  refine AA _ (AH rfl) rfl ?_
  refine AN (AE (BY ?_))
  have ei : ni = i := by omega
  subst ei
  show JC _ _ _ _ [⟨nb2, [I64 k, .slice ai ni ci, .slice sa ns sc, U64 bl], 26, (0, 0)⟩, ⟨nb3, [.nilIface, Slc gqi 0 (4*ni + 18) cpqi], 149, (0, 0)⟩, ⟨gqi, cu8 oqi ++ spqi, 5, (0, 0)⟩]
  refine CH [false, true, true] ?_
  show JC _ _ _ _ [_, _]
  refine EE (ι := Nat × List UInt8 × Nat × List Value × Nat) (fun ⟨j, oqj, gqj, spqj, cpqj⟩ => [(2, .slice none 0 0), (3, .nilIface), (6, Ptr nb3 0), (60, .slice sa ns sc), (61, I64 ns), (62, I64 j)]) (fun ⟨j, oqj, gqj, spqj, cpqj⟩ => [⟨nb3, [.nilIface, Slc gqj 0 (56*j + 4*ni + 18) cpqj], 149, (0, 0)⟩, ⟨gqj, cu8 oqj ++ spqj, 5, (0, 0)⟩]) (fun ⟨j, oqj, gqj, spqj, cpqj⟩ => j ≤ ns ∧ oqj = ((((numK 8 pv 8 ++ numK 8 ep 8) ++ numK 1 (UInt64.ofNat k) 1) ++ numK 1 (UInt64.ofNat (ni - 1)) 1) ++ idxT l ni) ++ selT (ls.take j) ∧ oqj.length = (56*j + 4*ni + 18) ∧ spqj.length = cpqj - ((56*j + 4*ni + 18)) ∧ (56*j + 4*ni + 18) ≤ cpqj ∧ cpqj ≤ maxLen) (fun ⟨j, oqj, gqj, spqj, cpqj⟩ => ns - j) (0, oqi, gqi, spqi, cpqi) ⟨by omega, by rw [hi2]; simp [selT_nil], (by have h := hi3; omega), (by have h := hi4; omega), by omega, by omega⟩ (Sub.all rfl) (by first | rfl | (simp; done)) ?_
  rintro ⟨j, oqj, gqj, spqj, cpqj⟩ ⟨hj1, hj2, hj3, hj4, hj5, hj6⟩
  show JC _ _ _ [(2, .slice none 0 0), (3, .nilIface), (6, Ptr nb3 0), (60, .slice sa ns sc), (61, I64 ns), (62, I64 j)] [⟨nb3, [.nilIface, Slc gqj 0 (56*j + 4*ni + 18) cpqj], 149, (0, 0)⟩, ⟨gqj, cu8 oqj ++ spqj, 5, (0, 0)⟩]
  refine AI (AD (AA (.bool (decide (((j:Int)) < ((ns:Int))))) (AR rfl rfl fun _ => CS _ _) rfl ?_))
  refine AN (AE (AI (CY (decide (((j:Int)) < ((ns:Int)))) rfl (fun hb2 => ?_) (fun hb2 => ?_))))
  ·
   have hp2 : ((j:Int)) < ((ns:Int)) := of_decide_eq_true hb2
   refine BT (AE (AI (BY (AI (AD ?_)))))
   obtain ⟨x1, hx1⟩ : ∃ x, ls[j]? = some x := ⟨_, List.getElem?_eq_getElem (by rw [hls]; omega)⟩
   obtain ⟨bz2, oz2, hz2, hm2⟩ := rows_at FR (by decide) hs hx1
   refine AA (Ptr bz2 (49*j + oz2)) (D9 161 49 (49*j + oz2) CC CE rfl hz2 rfl (by omega) (by omega) (by omega)) rfl ?_
   refine AA (.agg ([U64 x1.e] ++ cu8 x1.d ++ cu8 x1.t).toArray) (AK rfl (BH ED CE (by simp [x1.hd, x1.ht]) (C8 (hm2.mem (by simp)) (AL _) (by omega)))) rfl ?_
   refine A1 (BG _ ([U64 0] ++ cu8 (zr8 32) ++ cu8 (zr8 16)) Tryd.zeroValue161 (by kernel_rfl)) rfl ?_
   rintro v1 L1 ⟨nb9, hnb9, rfl, rfl⟩
   show JL _ _ _ _ ((10, Ptr nb9 0) :: _) [_, _, ⟨nb9, [U64 0] ++ cu8 (zr8 32) ++ cu8 (zr8 16), 161, (0, 0)⟩]
   refine A7 (A5 2 nb9 49 ([U64 0] ++ cu8 (zr8 32) ++ cu8 (zr8 16)) 161 ([U64 x1.e] ++ cu8 x1.d ++ cu8 x1.t) rfl rfl rfl CE (by simp [x1.hd, x1.ht]) (CO (CO (by simp [Value.oneCell']) CD) CD) (by simp [(AP 32), (AP 16)]) (BC (by simp [(AP 32), (AP 16), x1.hd, x1.ht]))) rfl ?_
   show JL _ _ _ _ _ [_, _, ⟨nb9, [U64 x1.e] ++ cu8 x1.d ++ cu8 x1.t, 161, (0, 0)⟩]
   refine AN (AE (AD (AA _ (AH rfl) rfl ?_)))
   refine AA (.agg ([U64 x1.e] ++ cu8 x1.d ++ cu8 x1.t).toArray) (AK rfl (BH ED CE (by simp [x1.hd, x1.ht]) (AS 2 rfl (AL _)))) rfl ?_
   refine A1 (BI 97 [.agg ([U64 x1.e] ++ cu8 x1.d ++ cu8 x1.t).toArray] _ (AY _ Tryd.call97 rfl) (fun w1 hw1 => put7_c x1.e x1.d x1.t w1 x1.hd x1.ht)) rfl ?_
   rintro v1 L1 ⟨_, ⟨nb10, sp6, cp6, rfl, rfl, hc16, hc17, hc18⟩, rfl⟩
   show JL _ _ _ _ ((68, Slc nb10 0 56 cp6) :: _) [_, _, _, ⟨nb10, cu8 (putL x1.e x1.d x1.t) ++ sp6, 5, (0, 0)⟩]
   refine A1 (DN 82 _ [true, true, false, false] [nb3, gqj] _ (AY [Ptr nb3 0, Slc nb10 0 56 cp6] Tryd.call82 rfl) rfl (fun w1 hw1 => rawO_c nb3 gqj (56*j + 4*ni + 18) cpqj (56*j + 4*ni + 74) .nilIface oqj spqj (some ⟨nb10, 0, none⟩) 56 cp6 (putL x1.e x1.d x1.t) w1 (hw1.ent _ (List.mem_of_getElem? (i := 0) rfl)) (hw1.ent _ (List.mem_of_getElem? (i := 1) rfl)) (hw1.ne (i := 0) (j := 1) rfl rfl (by decide)) hj3 hj4 hj5 hj6 (by omega) (show (putL x1.e x1.d x1.t).length = 56 from (putL_len x1.hd x1.ht)) (by omega) (RdB.of hw1 (AS 3 rfl (A4 (AL _))) (by intro _; simp only [List.mem_cons, List.not_mem_nil, or_false, not_or]; exact ⟨hw1.ne (i := 3) (j := 0) rfl rfl (by decide), hw1.ne (i := 3) (j := 1) rfl rfl (by decide)⟩)) (by omega))) rfl ?_
   rintro v1 L1 ⟨_, ⟨rfl, nb11, sp7, cp7, rfl, hc19, hc20, hc21⟩, rfl⟩
   show JL _ _ _ _ ((69, Ptr nb3 0) :: _) [_, _, ⟨nb3, [.nilIface, Slc nb11 0 (56*j + 4*ni + 74) cp7], 149, (0, 0)⟩, ⟨nb11, cu8 (oqj ++ (putL x1.e x1.d x1.t)) ++ sp7, 5, (0, 0)⟩]
   refine AN (BO (AE (AD (AA (I64 ((j:Int) + 1)) (AR rfl rfl fun _ => DF _ _ ((j:Int) + 1) (by omega) (by omega)) rfl ?_))))
   refine AA _ (AH rfl) rfl ?_
   refine AN (DH (CH [false, false, true, true] ?_))
   show K _ _ [_, _] _
   refine EP (j + 1, oqj ++ (putL x1.e x1.d x1.t), nb11, sp7, cp7) ⟨by omega, by rw [hj2, ← take_step hx1, selT_app, List.append_assoc], (by have h := (show (oqj ++ (putL x1.e x1.d x1.t)).length = (56*j + 4*ni + 74) from (by rw [List.length_append, hj3, (show (putL x1.e x1.d x1.t).length = 56 from (putL_len x1.hd x1.ht))] <;> omega)); omega), (by have h := hc19; omega), by omega, by omega⟩ (by first | (simp; omega) | simp | (dsimp only; omega) | omega) (Sub.all rfl) (by first | rfl | rw [show (56*j + 4*ni + 74) = (56*(j + 1) + 4*ni + 18) by omega])
  ·
   have hp2 : ¬ (((j:Int)) < ((ns:Int))) := of_decide_eq_false hb2
   refine D8 (BB (BB (CV (AE (AI (AD (AA _ (AH rfl) rfl ?_)))))))
   refine A1 (BI 83 [Ptr nb3 0] _ (AY _ Tryd.call83 rfl) (fun w1 hw1 => doneO_c nb3 0 gqj (56*j + 4*ni + 18) cpqj oqj w1 (RdA.of hw1 (AS 0 rfl (AL _)) (by simp)) rfl hj3 (by omega) (RdB.of hw1 (AS 1 rfl (A4 (AL _))) (by simp)))) rfl ?_
   rintro v1 L1 ⟨_, ⟨nb12, sp8, cp8, rfl, rfl, hc22, hc23, hc24⟩, rfl⟩
   show JL _ _ _ _ ((72, .tuple #[Slc nb12 0 (56*j + 4*ni + 18) cp8, .nilIface]) :: _) [_, _, ⟨nb12, cu8 oqj ++ sp8, 5, (0, 0)⟩]
   refine AA _ (B4 rfl rfl) rfl ?_
   refine AA _ (B4 rfl rfl) rfl ?_
   refine AA _ (AG rfl) rfl ?_
   refine AA _ (AG rfl) rfl ?_
   refine AN (AE (BP (CH [false, false, true] ?_)))
   show JQ _ _ _ _ [_]
   refine BQ (.tuple #[Slc nb12 0 (56*j + 4*ni + 18) cp8, .nilIface]) (res2 Tryd.results114 (B2 rfl) (B2 rfl)) fun w1 hw1 => ?_
   obtain rfl : j = ns := by omega
   have hq : oqj = tktT pv ep k l ls bl := by
    unfold tktT
    rw [if_neg (by omega), hl, hj2, List.take_of_length_le (by omega)]
   rw [hq] at hw1
   obtain rfl : tot = (56*j + 4*ni + 18) := by omega
   exact ⟨_, _, rfl, ⟨nb12, sp8, cp8, rfl, rfl, hc22, hc23, hc24⟩, hw1.sub (by simp) (by simp)⟩
attribute [local irreducible] tktT mayN idxT selT macL
theorem text_w (pv ep : UInt64) (k : Nat) (ai : Option Addr) (ni ci : Nat) (l : List UInt64) (sa : Option Addr) (ns sc : Nat) (ls : List SealR) (bl : UInt64) (tg : List UInt8) (tot : Nat) (w : World) (hl : l.length = ni) (hnm : ni ≤ 2000000) (hnc : ni ≤ ci) (hcm : ci ≤ maxLen) (hv : RdV w ai (cu64 l)) (hls : ls.length = ns) (hnn : ns ≤ 2000000) (hnd : ns ≤ sc) (hcn : sc ≤ maxLen) (hs : RdV w sa (ls.flatMap sealC)) (htg : tg.length = 16) (hmay : mayN pv ep (k:Int) l ls bl = 0) (hk : k = 1 ∨ k = 2 ∨ k = 3) (hsm : ns ≤ 300) (htot : tktN k ni ns = tot) : Calls Tryd.prog 114 #[.agg ([U64 pv, U64 ep, I64 k, .slice ai ni ci, .slice sa ns sc, U64 bl] ++ cu8 tg).toArray] w (Post w [] (fun v L => ∃ g sp cap, v = .tuple #[Slc g 0 tot cap, .nilIface] ∧ L = [⟨g, cu8 (tktT pv ep k l ls bl) ++ sp, 5, (0, 0)⟩] ∧ sp.length = cap - tot ∧ tot ≤ cap ∧ cap ≤ maxLen)) := by
  by_cases h3 : k = 3
  · have e : tot = 25 := by rw [← htot]; unfold tktN; rw [if_pos h3]
    subst e
    exact text3_c pv ep k ai ni ci l sa ns sc ls bl tg w hl hnm hnc hcm hv hls hnn hnd hcn hs htg hmay h3
  · exact text12_c pv ep k ai ni ci l sa ns sc ls bl tg tot w hl hnm hnc hcm hv hls hnn hnd hcn hs htg hmay (by omega) hsm (by rw [← htot]; unfold tktN; rw [if_neg h3])
theorem textB_c (pv ep : UInt64) (kd : Int) (ai : Option Addr) (ni ci : Nat) (l : List UInt64) (sa : Option Addr) (ns sc : Nat) (ls : List SealR) (bl : UInt64) (tg : List UInt8)  (w : World) (hl : l.length = ni) (hnm : ni ≤ 2000000) (hnc : ni ≤ ci) (hcm : ci ≤ maxLen) (hv : RdV w ai (cu64 l)) (hls : ls.length = ns) (hnn : ns ≤ 2000000) (hnd : ns ≤ sc) (hcn : sc ≤ maxLen) (hs : RdV w sa (ls.flatMap sealC)) (htg : tg.length = 16) (hm : mayN pv ep kd l ls bl ≠ 0)  : Calls Tryd.prog 114 #[.agg ([U64 pv, U64 ep, I64 (kd), .slice ai ni ci, .slice sa ns sc, U64 bl] ++ cu8 tg).toArray] w (Post w [] (fun v L => v = .tuple #[.slice none 0 0, errV 50 (mayN pv ep kd l ls bl)] ∧ L = [])) := by
 have hmx : maxLen = 9223372036854775807 := rfl
 refine enter (P := Tryd.prog) (f := 114) (fn := Tryd.f114) w [] 75 [] [.agg ([U64 pv, U64 ep, I64 (kd), .slice ai ni ci, .slice sa ns sc, U64 bl] ++ cu8 tg).toArray] Tryd.func114 rfl rfl (by simp) (BZ (by simp) (by simp) (by simp)) ?_
 show JC _ _ _ [(0, .agg ([U64 pv, U64 ep, I64 (kd), .slice ai ni ci, .slice sa ns sc, U64 bl] ++ cu8 tg).toArray)] _
 refine AI (AD (A1 (CW (.agg ([U64 pv, U64 ep, I64 (kd), .slice ai ni ci, .slice sa ns sc, U64 bl] ++ cu8 tg).toArray) ([U64 pv, U64 ep, I64 (kd), .slice ai ni ci, .slice sa ns sc, U64 bl] ++ cu8 tg) rfl (by first | rfl | simp)) rfl ?_))
 rintro v1 L1 ⟨nb1, hnb1, rfl, rfl⟩
 show JL _ _ _ _ ((1, Ptr nb1 0) :: _) [⟨nb1, [U64 pv, U64 ep, I64 (kd), .slice ai ni ci, .slice sa ns sc, U64 bl] ++ cu8 tg, 29, (0, 0)⟩]
 refine AA _ (AG rfl) rfl ?_
 refine AA _ (AG rfl) rfl ?_
 refine AN (AE (AI (AI (AD (AA (.agg ([U64 pv, U64 ep, I64 (kd), .slice ai ni ci, .slice sa ns sc, U64 bl] ++ cu8 tg).toArray) (AK rfl (BH A9 AT (by simp [htg]) (AS 0 rfl (AL _)))) rfl ?_)))))
 refine A7 (A3 128 [.agg ([U64 pv, U64 ep, I64 (kd), .slice ai ni ci, .slice sa ns sc, U64 bl] ++ cu8 tg).toArray] (errV 50 (mayN pv ep (kd) l ls bl)) (AY _ Tryd.call128 rfl) (fun w1 hw1 => may13_c pv ep (kd) ai ni ci l sa ns sc ls bl tg w1 hl (by omega) (by omega) (by omega) (EG hw1 rfl hv) hls (by omega) (by omega) (by omega) (EG hw1 rfl hs) htg)) rfl ?_
 show JL _ _ _ _ ((12, errV 50 (mayN pv ep (kd) l ls bl)) :: _) [_]
 refine AA _ (AG rfl) rfl ?_
 refine AN (AE (AI (AD (AA _ (AH rfl) rfl ?_))))
 refine AA (.bool (!(decide (mayN pv ep (kd) l ls bl = 0)))) (C2 _ _ _ rfl rfl (fun _ => CJ ..) fun _ => EF A6 _ _) rfl ?_
 refine AN (AE (DJ _ rfl (by rw [show (decide (mayN pv ep (kd) l ls bl = 0)) = false from (decide_eq_false hm)] <;> rfl) ?_))
 refine AI (AD (AA _ (AH rfl) rfl ?_))
 refine AA _ (AG rfl) rfl ?_
 refine AA _ (AG rfl) rfl ?_
 refine AN (AE (BP (BN (CH [false] ?_))))
 show JQ _ _ _ _ []
 refine BQ (.tuple #[.slice none 0 0, errV 50 (mayN pv ep (kd) l ls bl)]) (res2 Tryd.results114 (B2 rfl) (B2 rfl)) fun w1 hw1 => ?_
 exact ⟨_, [], rfl, ⟨rfl, rfl⟩, hw1.sub (by simp) (by simp)⟩
theorem put13_c (pv ep : UInt64) (k : Nat) (ai : Option Addr) (ni ci : Nat) (l : List UInt64) (sa : Option Addr) (ns sc : Nat) (ls : List SealR) (bl : UInt64) (tg : List UInt8) (tot : Nat)  (w : World) (hl : l.length = ni) (hnm : ni ≤ 2000000) (hnc : ni ≤ ci) (hcm : ci ≤ maxLen) (hv : RdV w ai (cu64 l)) (hls : ls.length = ns) (hnn : ns ≤ 2000000) (hnd : ns ≤ sc) (hcn : sc ≤ maxLen) (hs : RdV w sa (ls.flatMap sealC)) (htg : tg.length = 16) (hmay : mayN pv ep (k:Int) l ls bl = 0) (hk : k = 1 ∨ k = 2 ∨ k = 3) (hsm : ns ≤ 300) (htot : tktN k ni ns = tot) (htb : tot ≤ 30000)  : Calls Tryd.prog 47 #[.agg ([U64 pv, U64 ep, I64 k, .slice ai ni ci, .slice sa ns sc, U64 bl] ++ cu8 tg).toArray] w (Post w [] (fun v L => ∃ g sp cap, v = .tuple #[Slc g 0 (tot + 16) cap, .nilIface] ∧ L = [⟨g, cu8 ((tktT pv ep k l ls bl) ++ tg) ++ sp, 5, (0, 0)⟩] ∧ sp.length = cap - (tot + 16) ∧ (tot + 16) ≤ cap ∧ cap ≤ maxLen)) := by
 have hmx : maxLen = 9223372036854775807 := rfl
 refine enter (P := Tryd.prog) (f := 47) (fn := Tryd.f47) w [] 18 [] [.agg ([U64 pv, U64 ep, I64 k, .slice ai ni ci, .slice sa ns sc, U64 bl] ++ cu8 tg).toArray] Tryd.func47 rfl rfl (by simp) (BZ (by simp) (by simp) (by simp)) ?_
 show JC _ _ _ [(0, .agg ([U64 pv, U64 ep, I64 k, .slice ai ni ci, .slice sa ns sc, U64 bl] ++ cu8 tg).toArray)] _
 refine AI (AD (A1 (CW (.agg ([U64 pv, U64 ep, I64 k, .slice ai ni ci, .slice sa ns sc, U64 bl] ++ cu8 tg).toArray) ([U64 pv, U64 ep, I64 k, .slice ai ni ci, .slice sa ns sc, U64 bl] ++ cu8 tg) rfl (by first | rfl | simp)) rfl ?_))
 rintro v1 L1 ⟨nb1, hnb1, rfl, rfl⟩
 show JL _ _ _ _ ((1, Ptr nb1 0) :: _) [⟨nb1, [U64 pv, U64 ep, I64 k, .slice ai ni ci, .slice sa ns sc, U64 bl] ++ cu8 tg, 29, (0, 0)⟩]
 refine AA _ (AG rfl) rfl ?_
 refine AA _ (AG rfl) rfl ?_
 refine AN (AE (AI (AD (AA (.agg ([U64 pv, U64 ep, I64 k, .slice ai ni ci, .slice sa ns sc, U64 bl] ++ cu8 tg).toArray) (AK rfl (BH A9 AT (by simp [htg]) (AS 0 rfl (AL _)))) rfl ?_))))
 refine A1 (BI 114 [.agg ([U64 pv, U64 ep, I64 k, .slice ai ni ci, .slice sa ns sc, U64 bl] ++ cu8 tg).toArray] _ (AY _ Tryd.call114 rfl) (fun w1 hw1 => text_w pv ep k ai ni ci l sa ns sc ls bl tg tot w1 hl (by omega) (by omega) (by omega) (EG hw1 rfl hv) hls (by omega) (by omega) (by omega) (EG hw1 rfl hs) htg hmay hk hsm htot)) rfl ?_
 rintro v1 L1 ⟨_, ⟨nb2, sp1, cp1, rfl, rfl, hc1, hc2, hc3⟩, rfl⟩
 show JL _ _ _ _ ((8, .tuple #[Slc nb2 0 tot cp1, .nilIface]) :: _) [_, ⟨nb2, cu8 (tktT pv ep k l ls bl) ++ sp1, 5, (0, 0)⟩]
 refine AA _ (AH rfl) rfl ?_
 refine AA _ (B4 rfl rfl) rfl ?_
 refine AA _ (B4 rfl rfl) rfl ?_
 refine AA _ (AG rfl) rfl ?_
 refine AA _ (AG rfl) rfl ?_
 refine AN (AE (AI (AI (AD (AA _ (AH rfl) rfl ?_)))))
 refine AA (.bool false) (C2 _ _ _ rfl rfl (fun _ => EA ..) fun _ => DC A6) rfl ?_
 refine AN (AE (CK _ rfl rfl ?_))
 refine BT (AE (AI (AD (AA _ (AH rfl) rfl ?_))))
 refine AA (Ptr nb1 6) (AB 6 27 16 AO rfl BE rfl rfl) rfl ?_
 refine AA (Slc nb1 6 16 16) (B3 16 5 1 0 16 6 16 BJ AW rfl rfl rfl (by omega) (by omega) (by omega) (by omega) (by omega) 16 (by omega)) rfl ?_
 refine A1 (C5 43 5 [false, true] (Slc nb2 0 tot cp1) tot (tktT pv ep k l ls bl) tg (some ⟨nb1, 6, none⟩) 16 16 (tot + 16) AM C0 rfl (.inr ⟨nb2, sp1, cp1, rfl, rfl, (by first | exact (show (tktT pv ep k l ls bl).length = tot from ((EX hl hls).trans htot)) | simp [(show (tktT pv ep k l ls bl).length = tot from ((EX hl hls).trans htot))]), hc1, (by omega), (by omega)⟩) rfl (by first | exact htg | simp [htg]; try omega) (SrcAt.mem (AS 0 rfl (Seg.right 6 0 rfl rfl (AL _)))) (by omega) (by unfold maxLen; omega) (by omega)) rfl ?_
 rintro v1 L1 ⟨nb3, sp2, cp2, hg1, rfl, rfl, ha1, ha2, ha3, ha4⟩
 show JL _ _ _ _ ((17, Slc nb3 0 (tot + 16) cp2) :: _) [_, ⟨nb3, cu8 ((tktT pv ep k l ls bl) ++ tg) ++ sp2, 5, (0, 0)⟩]
 refine AA _ (AG rfl) rfl ?_
 refine AA _ (AG rfl) rfl ?_
 refine AN (AE (BP (CH [false, true] ?_)))
 show JQ _ _ _ _ [_]
 refine BQ (.tuple #[Slc nb3 0 (tot + 16) cp2, .nilIface]) (res2 Tryd.results47 (B2 rfl) (B2 rfl)) fun w1 hw1 => ?_
 exact ⟨_, _, rfl, ⟨nb3, sp2, cp2, rfl, rfl, ha2, ha3, ha4⟩, hw1.sub (by simp) (by simp)⟩
theorem rtext3_c (pv ep : UInt64) (k : Nat) (ai : Option Addr) (ni ci : Nat) (l : List UInt64) (sa : Option Addr) (ns sc : Nat) (ls : List SealR) (bl : UInt64) (tg : List UInt8)  (w : World) (hl : l.length = ni) (hnm : ni ≤ 2000000) (hnc : ni ≤ ci) (hcm : ci ≤ maxLen) (hv : RdV w ai (cu64 l)) (hls : ls.length = ns) (hnn : ns ≤ 2000000) (hnd : ns ≤ sc) (hcn : sc ≤ maxLen) (hs : RdV w sa (ls.flatMap sealC)) (htg : tg.length = 16) (hk : k = 3)  : Calls Tryd.prog 117 #[.agg ([U64 pv, U64 ep, I64 k, .slice ai ni ci, .slice sa ns sc, U64 bl] ++ cu8 tg).toArray] w (Post w [] (fun v L => ∃ g sp cap, v = Slc g 0 25 cap ∧ L = [⟨g, cu8 (tktT pv ep k l ls bl) ++ sp, 5, (0, 0)⟩] ∧ sp.length = cap - 25 ∧ 25 ≤ cap ∧ cap ≤ maxLen)) := by
 have hmx : maxLen = 9223372036854775807 := rfl
 refine enter (P := Tryd.prog) (f := 117) (fn := Tryd.f117) w [] 74 [] [.agg ([U64 pv, U64 ep, I64 k, .slice ai ni ci, .slice sa ns sc, U64 bl] ++ cu8 tg).toArray] Tryd.func117 rfl rfl (by simp) (BZ (by simp) (by simp) (by simp)) ?_
 show JC _ _ _ [(0, .agg ([U64 pv, U64 ep, I64 k, .slice ai ni ci, .slice sa ns sc, U64 bl] ++ cu8 tg).toArray)] _
 refine AI (AD (A1 (CW (.agg ([U64 pv, U64 ep, I64 k, .slice ai ni ci, .slice sa ns sc, U64 bl] ++ cu8 tg).toArray) ([U64 pv, U64 ep, I64 k, .slice ai ni ci, .slice sa ns sc, U64 bl] ++ cu8 tg) rfl (by first | rfl | simp)) rfl ?_))
 rintro v1 L1 ⟨nb1, hnb1, rfl, rfl⟩
 show JL _ _ _ _ ((1, Ptr nb1 0) :: _) [⟨nb1, [U64 pv, U64 ep, I64 k, .slice ai ni ci, .slice sa ns sc, U64 bl] ++ cu8 tg, 38, (0, 0)⟩]
 refine AA _ (AG rfl) rfl ?_
 refine AN (AE (AI (C1 74 4 [(0, Ptr nb1 0), (1, U64 pv), (3, Ptr nb1 1), (4, U64 ep)] BV rfl (by decide +kernel) ?_)))
 refine CR ⟨[], [0, 1, 3, 4], [], [0, 1, 3, 4], [2]⟩ 2 _ rfl rfl (by decide +kernel) rfl ⟨⟨_, rfl, AC rfl (AB 0 22 1 DL rfl AU rfl rfl)⟩, ⟨_, rfl, AC rfl (AK rfl (AV AX (AS 0 rfl (A4 (Seg.head)))))⟩, ⟨_, rfl, AC rfl (AB 1 22 1 DL rfl AU rfl rfl)⟩, ⟨_, rfl, AC rfl (AK rfl (AV AX (AS 0 rfl (A4 (AJ (Seg.head))))))⟩, trivial⟩ rfl (AZ rfl (BI 88 [U64 pv, I64 8] _ (AY _ Tryd.call88 rfl) (fun w1 hw1 => rnumber_c pv 8 w1 (by omega)))) ?_
 rintro v1 L1 ⟨_, ⟨nb2, rfl, rfl⟩, rfl⟩
 refine ⟨[], ?_⟩
 show DP _ _ _ _ _ _ _ _ [_, ⟨nb2, cu8 (numK 8 pv 8), 5, (0, 0)⟩]
 refine CR ⟨[2], [0, 1, 3, 4], [0, 1], [3, 4], [5]⟩ 5 _ rfl rfl (by decide +kernel) rfl ⟨⟨_, rfl, AC rfl (AB 1 22 1 DL rfl AU rfl rfl)⟩, ⟨_, rfl, AC rfl (AK rfl (AV AX (AS 0 rfl (A4 (AJ (Seg.head))))))⟩, trivial⟩ rfl (AZ rfl (BI 88 [U64 ep, I64 8] _ (AY _ Tryd.call88 rfl) (fun w1 hw1 => rnumber_c ep 8 w1 (by omega)))) ?_
 rintro v1 L1 ⟨_, ⟨nb3, rfl, rfl⟩, rfl⟩
 refine ⟨[], ?_⟩
 show DP _ _ _ _ _ _ _ _ [_, _, ⟨nb3, cu8 (numK 8 ep 8), 5, (0, 0)⟩]
 refine CR ⟨[2, 5], [0, 1, 3, 4], [0, 1, 3, 4], [], [6]⟩ 6 _ rfl rfl (by decide +kernel) rfl trivial rfl (AZ rfl (C5 43 5 [false, true, false] (Slc nb2 0 8 8) 8 (numK 8 pv 8) (numK 8 ep 8) (some ⟨nb3, 0, none⟩) 8 8 16 AM C0 rfl (.inr ⟨nb2, [], 8, rfl, (by simp [take?, cu8, cu32, cu64]), (by first | exact (show (numK 8 pv 8).length = 8 from C3 _ _ _) | simp [(show (numK 8 pv 8).length = 8 from C3 _ _ _)]), (by simp), (by omega), (by unfold maxLen; omega)⟩) rfl (by first | exact (show (numK 8 ep 8).length = 8 from C3 _ _ _) | simp [(show (numK 8 ep 8).length = 8 from C3 _ _ _)]; try omega) (SrcAt.mem (AS 2 rfl (AL _))) (by omega) (by unfold maxLen; omega) (by omega))) ?_
 rintro v1 L1 ⟨nb4, sp1, cp1, hg1, rfl, rfl, ha1, ha2, ha3, ha4⟩
 refine ⟨[(7, Slc nb4 0 16 cp1)], ?_⟩
 show DP _ _ _ _ _ _ _ _ [_, _, ⟨nb4, cu8 ((numK 8 pv 8) ++ (numK 8 ep 8)) ++ sp1, 5, (0, 0)⟩]
 refine C4 ⟨[2, 5, 6], [0, 1, 3, 4, 7], [0, 1, 3, 4], [7], []⟩ rfl rfl (by decide +kernel) rfl ⟨⟨_, rfl, AC rfl (AG rfl)⟩, trivial⟩ ?_
 refine CI (F' := [(3, Slc nb4 0 16 cp1), (1, Ptr nb1 0), (2, .slice none 0 0)]) (by kernel_rfl) ?_
 refine AE (AI (AD (AA _ (AH rfl) rfl ?_)))
 refine AA (Ptr nb1 2) (AB 2 36 4 DL rfl EC rfl rfl) rfl ?_
 refine AA (Ptr nb1 2) (AB 0 3 1 DB rfl BA rfl rfl) rfl ?_
 refine AA (I64 k) (AK rfl (AV BF (AS 0 rfl (A4 (AJ (AJ (Seg.head))))))) rfl ?_
 refine AA (U8 (UInt8.ofNat k)) (DW _ _ rfl fun _ => conv_i64_u8 (by rw [CG]; rfl) B6 k _ (by omega)) rfl ?_
 refine A1 (B0 5 1 _ [(0, U8 (UInt8.ofNat k))] (cu8 ([UInt8.ofNat k])) AM AW CX rfl rfl rfl (by kernel_rfl)) rfl ?_
 rintro v1 L1 ⟨nb5, hnb5, rfl, rfl⟩
 show JL _ _ _ _ ((18, Slc nb5 0 1 1) :: _) [_, _, _, ⟨nb5, cu8 ([UInt8.ofNat k]), 5, (0, 0)⟩]
 refine A1 (C5 43 5 [false, false, true, false] (Slc nb4 0 16 cp1) 16 ((numK 8 pv 8) ++ (numK 8 ep 8)) ([UInt8.ofNat k]) (some ⟨nb5, 0, none⟩) 1 1 17 AM C0 rfl (.inr ⟨nb4, sp1, cp1, rfl, rfl, (by first | exact ha1 | simp [ha1]), ha2, (by omega), (by omega)⟩) rfl (by simp) (SrcAt.mem (AS 3 rfl (AL _))) (by omega) (by unfold maxLen; omega) (by omega)) rfl ?_
 rintro v1 L1 ⟨nb6, sp2, cp2, hg2, rfl, rfl, ha5, ha6, ha7, ha8⟩
 show JL _ _ _ _ ((19, Slc nb6 0 17 cp2) :: _) [_, _, _, ⟨nb6, cu8 (((numK 8 pv 8) ++ (numK 8 ep 8)) ++ ([UInt8.ofNat k])) ++ sp2, 5, (0, 0)⟩]
 refine AA _ (AG rfl) rfl ?_
 refine AN (AE (AI (AI (AD (AA (Ptr nb1 2) (AB 2 36 4 DL rfl EC rfl rfl) rfl ?_)))))
 refine AA (Ptr nb1 2) (AB 0 3 1 DB rfl BA rfl rfl) rfl ?_
 refine AA (I64 k) (AK rfl (AV BF (AS 0 rfl (A4 (AJ (AJ (Seg.head))))))) rfl ?_
 refine AA (.bool (decide (((k:Int)) = (3:Int)))) (AR rfl rfl fun _ => C9 _ _) rfl ?_
 refine AN (AE (DJ _ rfl (decide_eq_true (by omega)) ?_))
 refine AI (AD (AA _ (AH rfl) rfl ?_))
 refine AA (Ptr nb1 2) (AB 2 36 4 DL rfl EC rfl rfl) rfl ?_
 refine AA (Ptr nb1 5) (AB 3 22 1 DB rfl AU rfl rfl) rfl ?_
 refine AA (U64 bl) (AK rfl (AV AX (AS 0 rfl (A4 (AJ (AJ (AJ (AJ (AJ (Seg.head)))))))))) rfl ?_
 refine A1 (BI 88 [U64 bl, I64 8] _ (AY _ Tryd.call88 rfl) (fun w1 hw1 => rnumber_c bl 8 w1 (by omega))) rfl ?_
 rintro v1 L1 ⟨_, ⟨nb7, rfl, rfl⟩, rfl⟩
 show JL _ _ _ _ ((28, Slc nb7 0 8 8) :: _) [_, _, _, _, ⟨nb7, cu8 (numK 8 bl 8), 5, (0, 0)⟩]
 refine A1 (C5 43 5 [false, false, false, true, false] (Slc nb6 0 17 cp2) 17 (((numK 8 pv 8) ++ (numK 8 ep 8)) ++ ([UInt8.ofNat k])) (numK 8 bl 8) (some ⟨nb7, 0, none⟩) 8 8 25 AM C0 rfl (.inr ⟨nb6, sp2, cp2, rfl, rfl, (by first | exact ha5 | simp [ha5]), ha6, (by omega), (by omega)⟩) rfl (by first | exact (show (numK 8 bl 8).length = 8 from C3 _ _ _) | simp [(show (numK 8 bl 8).length = 8 from C3 _ _ _)]; try omega) (SrcAt.mem (AS 4 rfl (AL _))) (by omega) (by unfold maxLen; omega) (by omega)) rfl ?_
 rintro v1 L1 ⟨nb8, sp3, cp3, hg3, rfl, rfl, ha9, ha10, ha11, ha12⟩
 show JL _ _ _ _ ((29, Slc nb8 0 25 cp3) :: _) [_, _, _, _, ⟨nb8, cu8 ((((numK 8 pv 8) ++ (numK 8 ep 8)) ++ ([UInt8.ofNat k])) ++ (numK 8 bl 8)) ++ sp3, 5, (0, 0)⟩]
 refine AA _ (AG rfl) rfl ?_
 refine AN (AE (BP (BN (CH [false, false, false, false, true] ?_))))
 show JQ _ _ _ _ [_]
 refine BQ (Slc nb8 0 25 cp3) (res1 Tryd.results117 (B2 rfl)) fun w1 hw1 => ?_
 have hq : (((numK 8 pv 8) ++ (numK 8 ep 8)) ++ ([UInt8.ofNat k])) ++ (numK 8 bl 8) = tktT pv ep k l ls bl := by
  unfold tktT
  rw [if_pos hk, numK_byteT]
 rw [hq] at hw1
 exact ⟨_, _, rfl, ⟨nb8, sp3, cp3, rfl, rfl, ha10, ha11, ha12⟩, hw1.sub (by simp) (by simp)⟩
theorem rtext12_c (pv ep : UInt64) (k : Nat) (ai : Option Addr) (ni ci : Nat) (l : List UInt64) (sa : Option Addr) (ns sc : Nat) (ls : List SealR) (bl : UInt64) (tg : List UInt8) (tot : Nat)  (w : World) (hl : l.length = ni) (hnm : ni ≤ 2000000) (hnc : ni ≤ ci) (hcm : ci ≤ maxLen) (hv : RdV w ai (cu64 l)) (hls : ls.length = ns) (hnn : ns ≤ 2000000) (hnd : ns ≤ sc) (hcn : sc ≤ maxLen) (hs : RdV w sa (ls.flatMap sealC)) (htg : tg.length = 16) (hRO : RightO (k:Int) l ls bl = true) (hk : k = 1 ∨ k = 2) (hsm : ns ≤ 300) (htot : 18 + 4*ni + 56*ns = tot)  : Calls Tryd.prog 117 #[.agg ([U64 pv, U64 ep, I64 k, .slice ai ni ci, .slice sa ns sc, U64 bl] ++ cu8 tg).toArray] w (Post w [] (fun v L => ∃ g sp cap, v = Slc g 0 tot cap ∧ L = [⟨g, cu8 (tktT pv ep k l ls bl) ++ sp, 5, (0, 0)⟩] ∧ sp.length = cap - tot ∧ tot ≤ cap ∧ cap ≤ maxLen)) := by
 have hmx : maxLen = 9223372036854775807 := rfl
 have hRI := RightO_idx hRO (by omega)
 have hRp := RightI_pos hRI
 rw [hl] at hRp
 refine enter (P := Tryd.prog) (f := 117) (fn := Tryd.f117) w [] 74 [] [.agg ([U64 pv, U64 ep, I64 k, .slice ai ni ci, .slice sa ns sc, U64 bl] ++ cu8 tg).toArray] Tryd.func117 rfl rfl (by simp) (BZ (by simp) (by simp) (by simp)) ?_
 show JC _ _ _ [(0, .agg ([U64 pv, U64 ep, I64 k, .slice ai ni ci, .slice sa ns sc, U64 bl] ++ cu8 tg).toArray)] _
 refine AI (AD (A1 (CW (.agg ([U64 pv, U64 ep, I64 k, .slice ai ni ci, .slice sa ns sc, U64 bl] ++ cu8 tg).toArray) ([U64 pv, U64 ep, I64 k, .slice ai ni ci, .slice sa ns sc, U64 bl] ++ cu8 tg) rfl (by first | rfl | simp)) rfl ?_))
 rintro v1 L1 ⟨nb1, hnb1, rfl, rfl⟩
 show JL _ _ _ _ ((1, Ptr nb1 0) :: _) [⟨nb1, [U64 pv, U64 ep, I64 k, .slice ai ni ci, .slice sa ns sc, U64 bl] ++ cu8 tg, 38, (0, 0)⟩]
 refine AA _ (AG rfl) rfl ?_
 refine AN (AE (AI (C1 74 4 [(0, Ptr nb1 0), (1, U64 pv), (3, Ptr nb1 1), (4, U64 ep)] BV rfl (by decide +kernel) ?_)))
 refine CR ⟨[], [0, 1, 3, 4], [], [0, 1, 3, 4], [2]⟩ 2 _ rfl rfl (by decide +kernel) rfl ⟨⟨_, rfl, AC rfl (AB 0 22 1 DL rfl AU rfl rfl)⟩, ⟨_, rfl, AC rfl (AK rfl (AV AX (AS 0 rfl (A4 (Seg.head)))))⟩, ⟨_, rfl, AC rfl (AB 1 22 1 DL rfl AU rfl rfl)⟩, ⟨_, rfl, AC rfl (AK rfl (AV AX (AS 0 rfl (A4 (AJ (Seg.head))))))⟩, trivial⟩ rfl (AZ rfl (BI 88 [U64 pv, I64 8] _ (AY _ Tryd.call88 rfl) (fun w1 hw1 => rnumber_c pv 8 w1 (by omega)))) ?_
 rintro v1 L1 ⟨_, ⟨nb2, rfl, rfl⟩, rfl⟩
 refine ⟨[], ?_⟩
 show DP _ _ _ _ _ _ _ _ [_, ⟨nb2, cu8 (numK 8 pv 8), 5, (0, 0)⟩]
 refine CR ⟨[2], [0, 1, 3, 4], [0, 1], [3, 4], [5]⟩ 5 _ rfl rfl (by decide +kernel) rfl ⟨⟨_, rfl, AC rfl (AB 1 22 1 DL rfl AU rfl rfl)⟩, ⟨_, rfl, AC rfl (AK rfl (AV AX (AS 0 rfl (A4 (AJ (Seg.head))))))⟩, trivial⟩ rfl (AZ rfl (BI 88 [U64 ep, I64 8] _ (AY _ Tryd.call88 rfl) (fun w1 hw1 => rnumber_c ep 8 w1 (by omega)))) ?_
 rintro v1 L1 ⟨_, ⟨nb3, rfl, rfl⟩, rfl⟩
 refine ⟨[], ?_⟩
 show DP _ _ _ _ _ _ _ _ [_, _, ⟨nb3, cu8 (numK 8 ep 8), 5, (0, 0)⟩]
 refine CR ⟨[2, 5], [0, 1, 3, 4], [0, 1, 3, 4], [], [6]⟩ 6 _ rfl rfl (by decide +kernel) rfl trivial rfl (AZ rfl (C5 43 5 [false, true, false] (Slc nb2 0 8 8) 8 (numK 8 pv 8) (numK 8 ep 8) (some ⟨nb3, 0, none⟩) 8 8 16 AM C0 rfl (.inr ⟨nb2, [], 8, rfl, (by simp [take?, cu8, cu32, cu64]), (by first | exact (show (numK 8 pv 8).length = 8 from C3 _ _ _) | simp [(show (numK 8 pv 8).length = 8 from C3 _ _ _)]), (by simp), (by omega), (by unfold maxLen; omega)⟩) rfl (by first | exact (show (numK 8 ep 8).length = 8 from C3 _ _ _) | simp [(show (numK 8 ep 8).length = 8 from C3 _ _ _)]; try omega) (SrcAt.mem (AS 2 rfl (AL _))) (by omega) (by unfold maxLen; omega) (by omega))) ?_
 rintro v1 L1 ⟨nb4, sp1, cp1, hg1, rfl, rfl, ha1, ha2, ha3, ha4⟩
 refine ⟨[(7, Slc nb4 0 16 cp1)], ?_⟩
 show DP _ _ _ _ _ _ _ _ [_, _, ⟨nb4, cu8 ((numK 8 pv 8) ++ (numK 8 ep 8)) ++ sp1, 5, (0, 0)⟩]
 refine C4 ⟨[2, 5, 6], [0, 1, 3, 4, 7], [0, 1, 3, 4], [7], []⟩ rfl rfl (by decide +kernel) rfl ⟨⟨_, rfl, AC rfl (AG rfl)⟩, trivial⟩ ?_
 refine CI (F' := [(3, Slc nb4 0 16 cp1), (1, Ptr nb1 0), (2, .slice none 0 0)]) (by kernel_rfl) ?_
 refine AE (AI (AD (AA _ (AH rfl) rfl ?_)))
 refine AA (Ptr nb1 2) (AB 2 36 4 DL rfl EC rfl rfl) rfl ?_
 refine AA (Ptr nb1 2) (AB 0 3 1 DB rfl BA rfl rfl) rfl ?_
 refine AA (I64 k) (AK rfl (AV BF (AS 0 rfl (A4 (AJ (AJ (Seg.head))))))) rfl ?_
 refine AA (U8 (UInt8.ofNat k)) (DW _ _ rfl fun _ => conv_i64_u8 (by rw [CG]; rfl) B6 k _ (by omega)) rfl ?_
 refine A1 (B0 5 1 _ [(0, U8 (UInt8.ofNat k))] (cu8 ([UInt8.ofNat k])) AM AW CX rfl rfl rfl (by kernel_rfl)) rfl ?_
 rintro v1 L1 ⟨nb5, hnb5, rfl, rfl⟩
 show JL _ _ _ _ ((18, Slc nb5 0 1 1) :: _) [_, _, _, ⟨nb5, cu8 ([UInt8.ofNat k]), 5, (0, 0)⟩]
 refine A1 (C5 43 5 [false, false, true, false] (Slc nb4 0 16 cp1) 16 ((numK 8 pv 8) ++ (numK 8 ep 8)) ([UInt8.ofNat k]) (some ⟨nb5, 0, none⟩) 1 1 17 AM C0 rfl (.inr ⟨nb4, sp1, cp1, rfl, rfl, (by first | exact ha1 | simp [ha1]), ha2, (by omega), (by omega)⟩) rfl (by simp) (SrcAt.mem (AS 3 rfl (AL _))) (by omega) (by unfold maxLen; omega) (by omega)) rfl ?_
 rintro v1 L1 ⟨nb6, sp2, cp2, hg2, rfl, rfl, ha5, ha6, ha7, ha8⟩
 show JL _ _ _ _ ((19, Slc nb6 0 17 cp2) :: _) [_, _, _, ⟨nb6, cu8 (((numK 8 pv 8) ++ (numK 8 ep 8)) ++ ([UInt8.ofNat k])) ++ sp2, 5, (0, 0)⟩]
 refine AA _ (AG rfl) rfl ?_
 refine AN (AE (AI (AI (AD (AA (Ptr nb1 2) (AB 2 36 4 DL rfl EC rfl rfl) rfl ?_)))))
 refine AA (Ptr nb1 2) (AB 0 3 1 DB rfl BA rfl rfl) rfl ?_
 refine AA (I64 k) (AK rfl (AV BF (AS 0 rfl (A4 (AJ (AJ (Seg.head))))))) rfl ?_
 refine AA (.bool (decide (((k:Int)) = (3:Int)))) (AR rfl rfl fun _ => C9 _ _) rfl ?_
 refine AN (AE (CK _ rfl (decide_eq_false (by omega)) ?_))
 refine BT (AE (AI (AD (AA _ (AH rfl) rfl ?_))))
 refine AA (Ptr nb1 2) (AB 2 36 4 DL rfl EC rfl rfl) rfl ?_
 refine AA (Ptr nb1 3) (AB 1 23 1 DB rfl CB rfl rfl) rfl ?_
 refine AA (.slice ai ni ci) (AK rfl (AV CP (AS 0 rfl (A4 (AJ (AJ (AJ (Seg.head)))))))) rfl ?_
 refine AA (I64 ni) (EL CA rfl) rfl ?_
 refine AA (I64 ((ni:Int) - 1)) (AR rfl rfl fun _ => DD _ _ ((ni:Int) - 1) (by omega) (by omega)) rfl ?_
 refine AA (U8 (UInt8.ofNat (ni - 1))) (DW _ _ rfl fun _ => conv_i64_u8 (by rw [CG]; rfl) B6 (ni - 1) _ (by omega)) rfl ?_
 refine A1 (B0 5 1 _ [(0, U8 (UInt8.ofNat (ni - 1)))] (cu8 ([UInt8.ofNat (ni - 1)])) AM AW CX rfl rfl rfl (by kernel_rfl)) rfl ?_
 rintro v1 L1 ⟨nb7, hnb7, rfl, rfl⟩
 show JL _ _ _ _ ((37, Slc nb7 0 1 1) :: _) [_, _, _, _, ⟨nb7, cu8 ([UInt8.ofNat (ni - 1)]), 5, (0, 0)⟩]
 refine A1 (C5 43 5 [false, false, false, true, false] (Slc nb6 0 17 cp2) 17 (((numK 8 pv 8) ++ (numK 8 ep 8)) ++ ([UInt8.ofNat k])) ([UInt8.ofNat (ni - 1)]) (some ⟨nb7, 0, none⟩) 1 1 18 AM C0 rfl (.inr ⟨nb6, sp2, cp2, rfl, rfl, (by first | exact ha5 | simp [ha5]), ha6, (by omega), (by omega)⟩) rfl (by simp) (SrcAt.mem (AS 4 rfl (AL _))) (by omega) (by unfold maxLen; omega) (by omega)) rfl ?_
 rintro v1 L1 ⟨nb8, sp3, cp3, hg3, rfl, rfl, ha9, ha10, ha11, ha12⟩
 show JL _ _ _ _ ((38, Slc nb8 0 18 cp3) :: _) [_, _, _, _, ⟨nb8, cu8 ((((numK 8 pv 8) ++ (numK 8 ep 8)) ++ ([UInt8.ofNat k])) ++ ([UInt8.ofNat (ni - 1)])) ++ sp3, 5, (0, 0)⟩]
 refine AA _ (AG rfl) rfl ?_
 refine AN (AE (AI (AI (AD (AA _ (AG rfl) rfl ?_)))))
 refine AN (AE (BY (CH [true, false, false, false, true] ?_)))
 show JC _ _ _ _ [_, _]
 refine EE (ι := Nat × List UInt8 × Nat × List Value × Nat) (fun ⟨i, oqi, gqi, spqi, cpqi⟩ => [(1, Ptr nb1 0), (2, .slice none 0 0), (4, I64 i), (3, Slc gqi 0 (4*i + 18) cpqi)]) (fun ⟨i, oqi, gqi, spqi, cpqi⟩ => [⟨nb1, [U64 pv, U64 ep, I64 k, .slice ai ni ci, .slice sa ns sc, U64 bl] ++ cu8 tg, 38, (0, 0)⟩, ⟨gqi, cu8 oqi ++ spqi, 5, (0, 0)⟩]) (fun ⟨i, oqi, gqi, spqi, cpqi⟩ => i ≤ ni ∧ oqi = (((numK 8 pv 8 ++ numK 8 ep 8) ++ [UInt8.ofNat k]) ++ [UInt8.ofNat (ni - 1)]) ++ idxT l i ∧ oqi.length = (4*i + 18) ∧ spqi.length = cpqi - ((4*i + 18)) ∧ (4*i + 18) ≤ cpqi ∧ cpqi ≤ maxLen) (fun ⟨i, oqi, gqi, spqi, cpqi⟩ => ni - i) (0, (((numK 8 pv 8) ++ (numK 8 ep 8)) ++ ([UInt8.ofNat k])) ++ ([UInt8.ofNat (ni - 1)]), nb8, sp3, cp3) ⟨by omega, by rw [idxT_zero, List.append_nil], (by have h := ha9; omega), (by have h := ha10; omega), by omega, by omega⟩ (Sub.cons rfl (Sub.cons rfl (Sub.cons rfl (Sub.cons (FA (by omega)) (Sub.nil))))) rfl ?_
 rintro ⟨i, oqi, gqi, spqi, cpqi⟩ ⟨hi1, hi2, hi3, hi4, hi5, hi6⟩
 show JC _ _ _ [(1, Ptr nb1 0), (2, .slice none 0 0), (4, I64 i), (3, Slc gqi 0 (4*i + 18) cpqi)] [⟨nb1, [U64 pv, U64 ep, I64 k, .slice ai ni ci, .slice sa ns sc, U64 bl] ++ cu8 tg, 38, (0, 0)⟩, ⟨gqi, cu8 oqi ++ spqi, 5, (0, 0)⟩]
 refine AI (AI (AD (AA _ (AH rfl) rfl ?_)))
 refine AA (Ptr nb1 2) (AB 2 36 4 DL rfl EC rfl rfl) rfl ?_
 refine AA (Ptr nb1 3) (AB 1 23 1 DB rfl CB rfl rfl) rfl ?_
 refine AA (.slice ai ni ci) (AK rfl (AV CP (AS 0 rfl (A4 (AJ (AJ (AJ (Seg.head)))))))) rfl ?_
 refine AA (I64 ni) (EL CA rfl) rfl ?_
 refine AA (.bool (decide (((i:Int)) < ((ni:Int))))) (AR rfl rfl fun _ => CS _ _) rfl ?_
 refine AN (AE (CY (decide (((i:Int)) < ((ni:Int)))) rfl (fun hb1 => ?_) (fun hb1 => ?_)))
 ·
  have hp1 : ((i:Int)) < ((ni:Int)) := of_decide_eq_true hb1
  refine BT (AE (AI (BY (AD (AA _ (AH rfl) rfl ?_)))))
  refine AA (Ptr nb1 2) (AB 2 36 4 DL rfl EC rfl rfl) rfl ?_
  refine AA (Ptr nb1 3) (AB 1 23 1 DB rfl CB rfl rfl) rfl ?_
  refine AA (.slice ai ni ci) (AK rfl (AV CP (AS 0 rfl (A4 (AJ (AJ (AJ (Seg.head)))))))) rfl ?_
  refine AA _ (AH rfl) rfl ?_
  obtain ⟨bz1, oz1, hz1, hm1⟩ := RdV.pos hv (by rw [F4, hl]; omega)
  refine AA (Ptr bz1 (i + oz1)) (D9 22 1 (i + oz1) CA AU rfl hz1 rfl (by omega) (by omega) (by omega)) rfl ?_
  refine AA (U64 (g64 l i)) (AK rfl (AV AX (C8 (hm1.mem (by simp)) (Seg.get (g64_get (i := i) (by rw [hl]; omega))) (by omega)))) rfl ?_
  refine A1 (BI 88 [U64 (g64 l i), I64 4] _ (AY _ Tryd.call88 rfl) (fun w1 hw1 => rnumber_c (g64 l i) 4 w1 (by omega))) rfl ?_
  rintro v1 L1 ⟨_, ⟨nb9, rfl, rfl⟩, rfl⟩
  show JL _ _ _ _ ((54, Slc nb9 0 4 4) :: _) [_, _, ⟨nb9, cu8 (numK 4 (g64 l i) 4), 5, (0, 0)⟩]
  refine A1 (C5 43 5 [false, true, false] (Slc gqi 0 (4*i + 18) cpqi) (4*i + 18) oqi (numK 4 (g64 l i) 4) (some ⟨nb9, 0, none⟩) 4 4 (4*i + 22) AM C0 rfl (.inr ⟨gqi, spqi, cpqi, rfl, rfl, (by first | exact hi3 | simp [hi3]), hi4, (by omega), (by omega)⟩) rfl (by first | exact (show (numK 4 (g64 l i) 4).length = 4 from C3 _ _ _) | simp [(show (numK 4 (g64 l i) 4).length = 4 from C3 _ _ _)]; try omega) (SrcAt.mem (AS 2 rfl (AL _))) (by omega) (by unfold maxLen; omega) (by omega)) rfl ?_
  rintro v1 L1 ⟨nb10, sp4, cp4, hg4, rfl, rfl, ha13, ha14, ha15, ha16⟩
  show JL _ _ _ _ ((55, Slc nb10 0 (4*i + 22) cp4) :: _) [_, _, ⟨nb10, cu8 (oqi ++ (numK 4 (g64 l i) 4)) ++ sp4, 5, (0, 0)⟩]
  refine AA _ (AG rfl) rfl ?_
  refine AN (BO (AE (AD (AA _ (AH rfl) rfl ?_))))
  refine AA (I64 ((i:Int) + 1)) (AR rfl rfl fun _ => DF _ _ ((i:Int) + 1) (by omega) (by omega)) rfl ?_
  refine AA _ (AG rfl) rfl ?_
  refine AN (DH (CH [true, false, true] ?_))
  show K _ _ [_, _] _
  refine EP (i + 1, oqi ++ (numK 4 (g64 l i) 4), nb10, sp4, cp4) ⟨by omega, by rw [hi2, idxT_succ, List.append_assoc], (by have h := ha13; omega), (by have h := ha14; omega), by omega, by omega⟩ (by first | (simp; omega) | simp | (dsimp only; omega) | omega) (Sub.cons rfl (Sub.cons rfl (Sub.cons rfl (Sub.cons (FA (by omega)) (Sub.nil))))) rfl
 ·
  have hp1 : ¬ (((i:Int)) < ((ni:Int))) := of_decide_eq_false hb1
  refine D8 (BB (BB (CV (AE (AI (AI (AD (AA _ (AG rfl) rfl ?_))))))))
  refine AN (AE (BY (EE (ι := Nat × List UInt8 × Nat × List Value × Nat) (fun ⟨j, oqj, gqj, spqj, cpqj⟩ => [(1, Ptr nb1 0), (2, .slice none 0 0), (5, I64 j), (3, Slc gqj 0 (56*j + 4*ni + 18) cpqj)]) (fun ⟨j, oqj, gqj, spqj, cpqj⟩ => [⟨nb1, [U64 pv, U64 ep, I64 k, .slice ai ni ci, .slice sa ns sc, U64 bl] ++ cu8 tg, 38, (0, 0)⟩, ⟨gqj, cu8 oqj ++ spqj, 5, (0, 0)⟩]) (fun ⟨j, oqj, gqj, spqj, cpqj⟩ => j ≤ ns ∧ oqj = ((((numK 8 pv 8 ++ numK 8 ep 8) ++ [UInt8.ofNat k]) ++ [UInt8.ofNat (ni - 1)]) ++ idxT l ni) ++ selT (ls.take j) ∧ oqj.length = (56*j + 4*ni + 18) ∧ spqj.length = cpqj - ((56*j + 4*ni + 18)) ∧ (56*j + 4*ni + 18) ≤ cpqj ∧ cpqj ≤ maxLen) (fun ⟨j, oqj, gqj, spqj, cpqj⟩ => ns - j) (0, oqi, gqi, spqi, cpqi) ⟨by omega, by rw [show i = ni by omega] at hi2; rw [hi2]; simp [selT_nil], (by have h := hi3; omega), (by have h := hi4; omega), by omega, by omega⟩ (Sub.cons rfl (Sub.cons rfl (Sub.cons rfl (Sub.cons (FA (by omega)) (Sub.nil))))) rfl ?_)))
  rintro ⟨j, oqj, gqj, spqj, cpqj⟩ ⟨hj1, hj2, hj3, hj4, hj5, hj6⟩
  show JC _ _ _ [(1, Ptr nb1 0), (2, .slice none 0 0), (5, I64 j), (3, Slc gqj 0 (56*j + 4*ni + 18) cpqj)] [⟨nb1, [U64 pv, U64 ep, I64 k, .slice ai ni ci, .slice sa ns sc, U64 bl] ++ cu8 tg, 38, (0, 0)⟩, ⟨gqj, cu8 oqj ++ spqj, 5, (0, 0)⟩]
  refine AI (AI (AD (AA _ (AH rfl) rfl ?_)))
  refine AA (Ptr nb1 2) (AB 2 36 4 DL rfl EC rfl rfl) rfl ?_
  refine AA (Ptr nb1 4) (AB 2 34 1 DB rfl E2 rfl rfl) rfl ?_
  refine AA (.slice sa ns sc) (AK rfl (AV Tryd.isAgg34 (AS 0 rfl (A4 (AJ (AJ (AJ (AJ (Seg.head))))))))) rfl ?_
  refine AA (I64 ns) (EL Tryd.underlying34 rfl) rfl ?_
  refine AA (.bool (decide (((j:Int)) < ((ns:Int))))) (AR rfl rfl fun _ => CS _ _) rfl ?_
  refine AN (AE (CY (decide (((j:Int)) < ((ns:Int)))) rfl (fun hb2 => ?_) (fun hb2 => ?_)))
  ·
   have hp2 : ((j:Int)) < ((ns:Int)) := of_decide_eq_true hb2
   refine BT (AE (AI (BY (AD (AA _ (AH rfl) rfl ?_)))))
   refine AA (Ptr nb1 2) (AB 2 36 4 DL rfl EC rfl rfl) rfl ?_
   refine AA (Ptr nb1 4) (AB 2 34 1 DB rfl E2 rfl rfl) rfl ?_
   refine AA (.slice sa ns sc) (AK rfl (AV Tryd.isAgg34 (AS 0 rfl (A4 (AJ (AJ (AJ (AJ (Seg.head))))))))) rfl ?_
   refine AA _ (AH rfl) rfl ?_
   obtain ⟨x1, hx1⟩ : ∃ x, ls[j]? = some x := ⟨_, List.getElem?_eq_getElem (by rw [hls]; omega)⟩
   obtain ⟨bz2, oz2, hz2, hm2⟩ := rows_at FR (by decide) hs hx1
   refine AA (Ptr bz2 (49*j + oz2)) (D9 164 49 (49*j + oz2) Tryd.underlying34 Tryd.sizeOf164 rfl hz2 rfl (by omega) (by omega) (by omega)) rfl ?_
   refine AA (.agg ([U64 x1.e] ++ cu8 x1.d ++ cu8 x1.t).toArray) (AK rfl (BH Tryd.isAgg164 Tryd.sizeOf164 (by simp [x1.hd, x1.ht]) (C8 (hm2.mem (by simp)) (AL _) (by omega)))) rfl ?_
   refine A1 (BI 105 [.agg ([U64 x1.e] ++ cu8 x1.d ++ cu8 x1.t).toArray] _ (AY _ Tryd.call105 rfl) (fun w1 hw1 => rput7_c x1.e x1.d x1.t w1 x1.hd x1.ht)) rfl ?_
   rintro v1 L1 ⟨_, ⟨nb11, sp5, cp5, rfl, rfl, hc1, hc2, hc3⟩, rfl⟩
   show JL _ _ _ _ ((71, Slc nb11 0 56 cp5) :: _) [_, _, ⟨nb11, cu8 (putL x1.e x1.d x1.t) ++ sp5, 5, (0, 0)⟩]
   refine A1 (C5 43 5 [false, true, false] (Slc gqj 0 (56*j + 4*ni + 18) cpqj) (56*j + 4*ni + 18) oqj (putL x1.e x1.d x1.t) (some ⟨nb11, 0, none⟩) 56 cp5 (56*j + 4*ni + 74) AM C0 rfl (.inr ⟨gqj, spqj, cpqj, rfl, rfl, (by first | exact hj3 | simp [hj3]), hj4, (by omega), (by omega)⟩) rfl (by first | exact (show (putL x1.e x1.d x1.t).length = 56 from (putL_len x1.hd x1.ht)) | simp [(show (putL x1.e x1.d x1.t).length = 56 from (putL_len x1.hd x1.ht))]; try omega) (SrcAt.mem (AS 2 rfl (A4 (AL _)))) (by omega) (by unfold maxLen; omega) (by omega)) rfl ?_
   rintro v1 L1 ⟨nb12, sp6, cp6, hg5, rfl, rfl, ha17, ha18, ha19, ha20⟩
   show JL _ _ _ _ ((72, Slc nb12 0 (56*j + 4*ni + 74) cp6) :: _) [_, _, ⟨nb12, cu8 (oqj ++ (putL x1.e x1.d x1.t)) ++ sp6, 5, (0, 0)⟩]
   refine AA _ (AG rfl) rfl ?_
   refine AN (BO (AE (AD (AA _ (AH rfl) rfl ?_))))
   refine AA (I64 ((j:Int) + 1)) (AR rfl rfl fun _ => DF _ _ ((j:Int) + 1) (by omega) (by omega)) rfl ?_
   refine AA _ (AG rfl) rfl ?_
   refine AN (DH (CH [true, false, true] ?_))
   show K _ _ [_, _] _
   refine EP (j + 1, oqj ++ (putL x1.e x1.d x1.t), nb12, sp6, cp6) ⟨by omega, by rw [hj2, ← take_step hx1, selT_app, List.append_assoc], (by have h := ha17; omega), (by have h := ha18; omega), by omega, by omega⟩ (by first | (simp; omega) | simp | (dsimp only; omega) | omega) (Sub.cons rfl (Sub.cons rfl (Sub.cons rfl (Sub.cons (FA (by omega)) (Sub.nil))))) rfl
  ·
   have hp2 : ¬ (((j:Int)) < ((ns:Int))) := of_decide_eq_false hb2
   refine D8 (BB (BB (CV (AE (AI (AD (AA _ (AH rfl) rfl ?_)))))))
   refine AA _ (AG rfl) rfl ?_
   refine AN (AE (BP (CH [false, true] ?_)))
   show JQ _ _ _ _ [_]
   refine BQ (Slc gqj 0 (56*j + 4*ni + 18) cpqj) (res1 Tryd.results117 (B2 rfl)) fun w1 hw1 => ?_
   obtain rfl : j = ns := by omega
   have hq : oqj = tktT pv ep k l ls bl := by
    unfold tktT
    rw [if_neg (by omega), hl, hj2, List.take_of_length_le (by omega), numK_byteT, numK_byteT]
   rw [hq] at hw1
   obtain rfl : tot = (56*j + 4*ni + 18) := by omega
   exact ⟨_, _, rfl, ⟨gqj, spqj, cpqj, rfl, rfl, hj4, hj5, hj6⟩, hw1.sub (by simp) (by simp)⟩
theorem rtext_w (pv ep : UInt64) (k : Nat) (ai : Option Addr) (ni ci : Nat) (l : List UInt64) (sa : Option Addr) (ns sc : Nat) (ls : List SealR) (bl : UInt64) (tg : List UInt8) (tot : Nat) (w : World) (hl : l.length = ni) (hnm : ni ≤ 2000000) (hnc : ni ≤ ci) (hcm : ci ≤ maxLen) (hv : RdV w ai (cu64 l)) (hls : ls.length = ns) (hnn : ns ≤ 2000000) (hnd : ns ≤ sc) (hcn : sc ≤ maxLen) (hs : RdV w sa (ls.flatMap sealC)) (htg : tg.length = 16) (hmay : mayN pv ep (k:Int) l ls bl = 0) (hk : k = 1 ∨ k = 2 ∨ k = 3) (hsm : ns ≤ 300) (htot : tktN k ni ns = tot) : Calls Tryd.prog 117 #[.agg ([U64 pv, U64 ep, I64 k, .slice ai ni ci, .slice sa ns sc, U64 bl] ++ cu8 tg).toArray] w (Post w [] (fun v L => ∃ g sp cap, v = Slc g 0 tot cap ∧ L = [⟨g, cu8 (tktT pv ep k l ls bl) ++ sp, 5, (0, 0)⟩] ∧ sp.length = cap - tot ∧ tot ≤ cap ∧ cap ≤ maxLen)) := by
  by_cases h3 : k = 3
  · have e : tot = 25 := by rw [← htot]; unfold tktN; rw [if_pos h3]
    subst e
    exact rtext3_c pv ep k ai ni ci l sa ns sc ls bl tg w hl hnm hnc hcm hv hls hnn hnd hcn hs htg h3
  · exact rtext12_c pv ep k ai ni ci l sa ns sc ls bl tg tot w hl hnm hnc hcm hv hls hnn hnd hcn hs htg (F7 hmay) (by omega) hsm (by rw [← htot]; unfold tktN; rw [if_neg h3])
end Go.Proofs.YtkdpdgpphpngeaaDoor
