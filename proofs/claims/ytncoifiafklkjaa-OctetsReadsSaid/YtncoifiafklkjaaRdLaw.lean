import Derived.Test.YtncoifiafklkjaaNumLaw
import Derived.Test.YtncoifiafklkjaaSxApp0
import Derived.Test.YtncoifiafklkjaaSxO
namespace Go.Proofs.Ytncoifiafklkjaa
open Go Go.Sx Go.RowKit
set_option linter.unusedVariables false
set_option linter.unusedSimpArgs false
/-! readers -/
theorem RdB.nilOf {w : World} {M : List Nat} {ao : Option Addr} {z : List UInt8} (h : z = []) : RdB w M ao z := .inl h
theorem mid_zero {α : Type} (l : List α) (o : Nat) : mid l o 0 = [] := by simp [mid]
instance (s : Int) : Decidable (Szd s) := by unfold Szd; infer_instance
theorem erN_zero (k : Nat) : erN 0 k = k := rfl
theorem erN_pos {e k : Nat} (h : e ≠ 0) : erN e k = e := if_neg h
/-- where a slice's rest lies -/
def advA (ao : Option Addr) (c s : Nat) : Option Addr := if c = s then ao else ao.map (·.add (s * 1))
theorem RdB.adv {w : World} {M : List Nat} {ao : Option Addr} {z : List UInt8} {c : Nat} (h : RdB w M ao z) (s : Nat) (hs : s ≤ z.length) (hc : z.length ≤ c) : RdB w M (advA ao c s) (z.drop s) := by
  have := RdB.slice h s z.length (Nat.le_refl _) hc
  rwa [List.take_of_length_le (by simp)] at this
theorem RdB.pre {w : World} {M : List Nat} {ao : Option Addr} {z : List UInt8} (h : RdB w M ao z) (s : Nat) : RdB w M ao (mid z 0 s) := by
  rcases h with rfl | ⟨b, off, h1, h2, h3, h4⟩
  · exact .inl (by simp [mid])
  · refine .inr ⟨b, off, h1, h2, h3, fun j v hj => h4 j v ?_⟩
    simp only [mid, List.drop_zero, cu8, List.map_take] at hj
    have hlt := (List.getElem?_eq_some_iff.1 hj).1
    rw [List.getElem?_take, if_pos (by simp at hlt; omega)] at hj
    exact hj
/-- what is read off a place, and where the rest lies -/
def Adv (ao : Option Addr) (z : List UInt8) (c : Nat) (ao' : Option Addr) (z' : List UInt8) (c' : Nat) : Prop :=
  (∀ w M, RdB w M ao z → RdB w M ao' z') ∧ z'.length ≤ c' ∧ c' ≤ maxLen ∧ z'.length ≤ z.length
theorem Adv.same {ao : Option Addr} {z : List UInt8} {c : Nat} (h : z.length ≤ c) (hm : c ≤ maxLen) : Adv ao z c ao z c := ⟨fun _ _ h => h, h, hm, Nat.le_refl _⟩
theorem Adv.drop {ao : Option Addr} {z : List UInt8} {c : Nat} (s : Nat) (hs : s ≤ z.length) (h : z.length ≤ c) (hm : c ≤ maxLen) : Adv ao z c (advA ao c s) (z.drop s) (c - s) :=
  ⟨fun _ _ hr => RdB.adv hr s hs h, by simp; omega, by omega, by simp⟩
theorem Adv.trans {ao ao' ao'' : Option Addr} {z z' z'' : List UInt8} {c c' c'' : Nat} (h : Adv ao z c ao' z' c') (h' : Adv ao' z' c' ao'' z'' c'') : Adv ao z c ao'' z'' c'' :=
  ⟨fun w M hr => h'.1 w M (h.1 w M hr), h'.2.1, h'.2.2.1, Nat.le_trans h'.2.2.2 h.2.2.2⟩
/-- raw bytes -/
def TkOk (z : List UInt8) (e : Nat) (s : Int) : Prop := e = 0 ∧ 0 ≤ s ∧ s ≤ z.length
instance (z : List UInt8) (e : Nat) (s : Int) : Decidable (TkOk z e s) := by unfold TkOk; infer_instance
def tkZ (z : List UInt8) (e : Nat) (s : Int) : List UInt8 := if TkOk z e s then z.drop s.toNat else z
def tkV (z : List UInt8) (e : Nat) (s : Int) : List UInt8 := if TkOk z e s then mid z 0 s.toNat else []
/-- a number -/
def NuOk (z : List UInt8) (e : Nat) (s : Int) : Prop := e = 0 ∧ Szd s ∧ s ≤ z.length
instance (z : List UInt8) (e : Nat) (s : Int) : Decidable (NuOk z e s) := by unfold NuOk; infer_instance
def nuZ (z : List UInt8) (e : Nat) (s : Int) : List UInt8 := if NuOk z e s then z.drop s.toNat else z
def nuV (z : List UInt8) (e : Nat) (s : Int) : UInt64 := if NuOk z e s then valK z s.toNat else 0
def okE (e : Nat) (ok : Bool) : Nat := if ok then 0 else erN e 2
/-- a field -/
def fdN (z : List UInt8) : Nat := 256 * (g8 z 0).toNat + (g8 z 1).toNat
def FdOk (z : List UInt8) (e : Nat) (s : Int) : Prop := e = 0 ∧ 2 ≤ z.length ∧ (fdN z : Int) ≤ s ∧ fdN z + 2 ≤ z.length
instance (z : List UInt8) (e : Nat) (s : Int) : Decidable (FdOk z e s) := by unfold FdOk; infer_instance
def fdZ (z : List UInt8) (e : Nat) (s : Int) : List UInt8 := if FdOk z e s then (z.drop 2).drop (fdN z) else z
def fdV (z : List UInt8) (e : Nat) (s : Int) : List UInt8 := if FdOk z e s then mid (z.drop 2) 0 (fdN z) else []
/-- a hash -/
def HsOk (z : List UInt8) (e : Nat) : Prop := e = 0 ∧ 32 ≤ z.length
instance (z : List UInt8) (e : Nat) : Decidable (HsOk z e) := by unfold HsOk; infer_instance
def hsZ (z : List UInt8) (e : Nat) : List UInt8 := if HsOk z e then z.drop 32 else z
def hsV (z : List UInt8) (e : Nat) : List UInt8 := if HsOk z e then mid z 0 32 else zr8 32
theorem hsV_len (z : List UInt8) (e : Nat) : (hsV z e).length = 32 := by
  unfold hsV
  split
  · rename_i h; exact mid_len h.2
  · exact zr8_len 32
/-- a flag -/
def FgOk (z : List UInt8) (e : Nat) : Prop := e = 0 ∧ 1 ≤ z.length ∧ g8 z 0 ≤ 1
instance (z : List UInt8) (e : Nat) : Decidable (FgOk z e) := by unfold FgOk; infer_instance
def fgZ (z : List UInt8) (e : Nat) : List UInt8 := if FgOk z e then z.drop 1 else z
def fgV (z : List UInt8) (e : Nat) : Bool := decide (FgOk z e ∧ g8 z 0 = 1)
def endN (e n : Nat) : Nat := if e = 0 then (if n = 0 then 0 else 2) else e
def leftN (e n : Nat) : Nat := if e = 0 then n else 0
theorem valK_one (z : List UInt8) : valK z 1 = (g8 z 0).toUInt64 := by
  rw [valK, valK, shl_or]; simp
theorem valK_flag (z : List UInt8) : (valK z 1 = 1) = (g8 z 0 = 1) := by
  rw [valK_one]
  apply propext
  constructor
  · intro h
    have := congrArg UInt64.toNat h
    rw [UInt8.toNat_toUInt64] at this
    exact UInt8.toNat_inj.1 this
  · intro h; rw [h]; rfl
theorem fit_ok {nv : UInt64} {k : Nat} (h : ftN nv k = 0) : k < 8 → nv >>> UInt64.ofNat (8*k) = 0 := fun hk => by rw [ftN_shr nv k (by omega)]; exact h
theorem fit_lt {nv : UInt64} {k : Nat} (hs : Szd (k:Int)) (h : ftN nv k ≠ 0) : k < 8 := by
  have : k ≠ 8 := fun h8 => by subst h8; exact h (ftN_eight nv)
  unfold Szd at hs; omega
theorem fit_ne {nv : UInt64} {k : Nat} (hs : Szd (k:Int)) (h : ftN nv k ≠ 0) : nv >>> UInt64.ofNat (8*k) ≠ 0 := by
  have := fit_lt hs h
  rw [ftN_shr nv k (by omega)]; exact h
/-! acts of a script -/
structure ActV where
  kd : Int
  s : Int
  nn : UInt64
  ao : Option Addr
  p : Nat
  c : Nat
  z : List UInt8
def actC (a : ActV) : List Value := [I64 a.kd, I64 a.s, U64 a.nn, .slice a.ao a.p a.c]
def ActG (w : World) (a : ActV) : Prop := (-9223372036854775808 ≤ a.kd ∧ a.kd ≤ 9223372036854775807) ∧ (-9223372036854775808 ≤ a.s ∧ a.s ≤ 9223372036854775807) ∧ a.z.length = a.p ∧ (a.ao = none → a.c = 0) ∧ (a.p ≤ a.c ∧ a.c ≤ maxLen) ∧ RdB w [] a.ao a.z ∧ a.p ≤ 140737488351232
theorem actC_len (a : ActV) : (actC a).length = 4 := rfl
theorem flat_at {α : Type} (f : α → List Value) (s : Nat) (hf : ∀ a, (f a).length = s) : ∀ (as : List α) (i : Nat) (a : α), as[i]? = some a → ∀ (j : Nat) (v : Value), (f a)[j]? = some v → (as.flatMap f)[i * s + j]? = some v
  | [], i, a, h, _, _, _ => by simp at h
  | x :: as, 0, a, h, j, v, hj => by
    simp at h; subst h
    rw [List.flatMap_cons, Nat.zero_mul, Nat.zero_add, List.getElem?_append_left (List.getElem?_eq_some_iff.1 hj).1]
    exact hj
  | x :: as, i + 1, a, h, j, v, hj => by
    rw [List.flatMap_cons, List.getElem?_append_right (by rw [hf, Nat.succ_mul]; omega), hf, show (i + 1) * s + j - s = i * s + j by rw [Nat.succ_mul]; omega]
    exact flat_at f s hf as i a (by simpa using h) j v hj
/-- a row of a slice of rows -/
theorem rows_at {α : Type} {f : α → List Value} {s : Nat} (hf : ∀ a, (f a).length = s) (hs : 0 < s) {w : World} {ao : Option Addr} {as : List α} (h : RdV w ao (as.flatMap f)) {i : Nat} {a : α} (ha : as[i]? = some a) :
    ∃ b off, ao = some ⟨b, off, none⟩ ∧ RdA w b (off + i * s) (f a) := by
  have hne : as.flatMap f ≠ [] := fun h0 => by
    have hl := hf a
    have h1 : 0 < (f a).length := by omega
    have := flat_at f s hf as i a ha 0 ((f a)[0]) (by simp [h1])
    rw [h0] at this; simp at this
  rcases h with h | ⟨b, off, h1, h2, h3⟩
  · exact absurd h hne
  · exact ⟨b, off, h1, h2, fun j v hj => by rw [Nat.add_assoc]; exact h3 _ v (flat_at f s hf as i a ha j v hj)⟩
section
variable {H : Type} {enc : TypeId × Value → H} {P : Program} {w : World} {base : Nat} {spare : Nat → Bool} {held : Bool} {sz : Bool}
/-- a script, opened -/
theorem act_open {t e b5 c64 si u8 : TypeId} {fs : Array Field} {cs : List Value} (ht : P.underlying t = some (.slice e)) (hs : P.cellsOf e = 4) (hb : P.bytesOf e ≠ 0) (hst : P.underlying e = some (.struct fs))
    (f0 : (fs[0]?).map (fun f => (f.offset, f.type)) = some (0, b5)) (f1 : (fs[1]?).map (fun f => (f.offset, f.type)) = some (1, b5)) (f2 : (fs[2]?).map (fun f => (f.offset, f.type)) = some (2, c64)) (f3 : (fs[3]?).map (fun f => (f.offset, f.type)) = some (3, si))
    (ub : P.underlying b5 = some (.int .i64)) (uc : P.underlying c64 = some (.int .u64)) (us : P.underlying si = some (.slice u8)) (uu : P.underlying u8 = some (.int .u8)) (cb : P.cellsOf b5 = 1) (cc : P.cellsOf c64 = 1) (csi : P.cellsOf si = 1) (cu : P.cellsOf u8 = 1) (bu : P.bytesOf u8 = 1)
    (h : TD enc P w base spare held sz t cs) : ∃ (ao : Option Addr) (n c : Nat) (al : List ActV), cs = [.slice ao n c] ∧ al.length = n ∧ (sz = true → ∀ a ∈ al, ActG w a) ∧ (ao = none → c = 0) ∧ (n ≤ c ∧ c ≤ maxLen) ∧ RdV w ao (al.flatMap actC) ∧ (sz = true → n ≤ 140737488351232) := by
  obtain ⟨ao, n, c, al, h1, h2, h3, h4, h5, h6, h7⟩ := TD.rows (f := actC) (G := fun a => sz = true → ActG w a) (b := P.bytesOf e) ht hs (by decide) rfl (Nat.pos_of_ne_zero hb) actC_len (fun cs' hcs => by
    have hl : cs'.length = 4 := (TD.slen hst hcs).trans hs
    obtain ⟨kd, e0, k0⟩ := TD.i64 ub (TD.field 0 0 b5 1 hst f0 cb hcs)
    obtain ⟨s, e1, k1⟩ := TD.i64 ub (TD.field 1 1 b5 1 hst f1 cb hcs)
    obtain ⟨nn, e2⟩ := TD.u64 uc (TD.field 2 2 c64 1 hst f2 cc hcs)
    obtain ⟨ao, p, c, z, e3, k3, k4, k5, k6, k7⟩ := TD.sl8 us uu cu bu (TD.field 3 3 si 1 hst f3 csi hcs)
    exact ⟨⟨kd, s, nn, ao, p, c, z⟩, cat_end (cat_step (cat_step (cat_step (cat0 e0) e1 rfl) e2 rfl) e3 rfl) hl, fun hz => ⟨k0, k1, k3, k4, k5, k6, k7 hz⟩⟩) h
  exact ⟨ao, n, c, al, h1, h2, fun hz a ha => h3 a ha hz, h4, h5, h6, h7⟩
end
theorem rdV_at {C : Cx} {L : List Ent} {w : World} {ao : Option Addr} {vs : List Value} (hw : Hp C.w0 C.M L w) (hM : C.M = []) (h : RdV C.w0 ao vs) : RdV w ao vs := by
  rcases h with h | ⟨b, off, h1, h2⟩
  · exact .inl h
  · cases vs with
    | nil => exact .inl rfl
    | cons v vs => exact .inr ⟨b, off, h1, RdA.of hw (h2.mem (by rw [hM]; simp)) (by simp)⟩
theorem actG_at {C : Cx} {L : List Ent} {w : World} {as : List ActV} (hw : Hp C.w0 C.M L w) (hM : C.M = []) (h : ∀ a ∈ as, ActG C.w0 a) : ∀ a ∈ as, ActG w a := fun a ha => by
  obtain ⟨h1, h2, h3, h4, h5, h6, h7⟩ := h a ha
  refine ⟨h1, h2, h3, h4, h5, ?_, h7⟩
  rw [← hM] at h6
  exact RdB.at (M' := []) hw h6 (by simp)
/-- the octets of the first acts -/
def sumP (as : List ActV) (i : Nat) : Nat := ((as.take i).map ActV.p).sum
theorem sumP_zero (as : List ActV) : sumP as 0 = 0 := by simp [sumP]
theorem sumP_succ {as : List ActV} {i : Nat} {a : ActV} (h : as[i]? = some a) : sumP as (i + 1) = sumP as i + a.p := by
  have hlt := (List.getElem?_eq_some_iff.1 h).1
  have : as.take (i + 1) = as.take i ++ [a] := by rw [List.take_add_one, h]; rfl
  simp [sumP, this]
theorem sumP_le (as : List ActV) {i j : Nat} (h : i ≤ j) : sumP as i ≤ sumP as j := by
  obtain ⟨k, rfl⟩ := Nat.le.dest h
  induction k with
  | zero => exact Nat.le_refl _
  | succ k ih =>
    by_cases hk : i + k < as.length
    · have := sumP_succ (as := as) (i := i + k) (a := as[i + k]) (by simp [hk])
      have h2 := ih (by omega)
      rw [show i + (k + 1) = i + k + 1 by omega, this]; omega
    · have e : ∀ q, as.length ≤ q → sumP as q = sumP as as.length := fun q hq => by simp [sumP, List.take_of_length_le hq]
      have h3 : sumP as (i + (k + 1)) = sumP as (i + k) := (e _ (by omega)).trans (e _ (by omega)).symm
      rw [h3]; exact ih (by omega)
def LongP (as : List ActV) (n : Nat) : Prop := ¬ (n ≤ 41 ∧ sumP as n ≤ 200000)
instance (as : List ActV) (n : Nat) : Decidable (LongP as n) := by unfold LongP; infer_instance
end Go.Proofs.Ytncoifiafklkjaa
