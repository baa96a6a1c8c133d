import Derived.MakeChecks
import Derived.Laws.StructEq
import Derived.Test.YtncoifiafklkjaaDoorPkSeal4
namespace Go.Sx
open Go Go.RowKit
variable {C : Cx} {F : Frm} {L : List Ent} {Q : Exit → Act → World → Prop} {ops : Array Oper} {l : List Oper}
variable {P : Program} {w : World} {T : TypeId}
theorem eqGuard_bool (op : BinOp) (t : TypeId) (x y : Operand) (p q : Bool) : (eqGuard op t x y (.bool p) (.bool q)).run P w = .ok () w := by cases op <;> simp [eqGuard]
theorem equal_bool {t : TypeId} (hu : P.underlying t = some .bool) (a b : Bool) : (Op.equal t (.bool a) (.bool b)).run P w = .ok (a == b) w := by
 unfold Op.equal Op.maxDepth
 rw [show (10000:Nat) = 9999 + 1 from rfl]
 generalize 9999 = d
 simp [Op.equalIn, run_underlying hu]
theorem eql_bool {t : TypeId} (hu : P.underlying t = some .bool) {a b : Bool} : (binOp .eql t (.bool a) (.bool b)).run P w = .ok (.bool (a == b)) w := eql_of (by simp [binOp]) (equal_bool hu a b)
end Go.Sx
namespace Go.Sx
open Go Go.RowKit
set_option linter.unusedVariables false
variable {C : Cx} {F : Frm} {L : List Ent} {Q : Exit → Act → World → Prop} {l : List Oper}
theorem Qok_gval {ops : Array Oper} {i : Nat} {d : Option Tmp} {op : Op} {ty : TypeId} {pos : String} {aft : Array Edge} {v : Value} (j s : Nat) (want b : Bool) (hi : ops[i]? = some ⟨d, op, ty, pos, aft, some (j, want)⟩)
  (hj : (ops[j]?).bind (·.dst) = some s) (hs : lk F s = some (.bool b)) (hb : b = want) (h : Ev C F L op ty v) : Qok C ops Q F L i v := fun a w ha hw K hk => by
 have hy : yielded ops a.tmps j = some want := by
  simp [yielded, hj, ha.2.2 s _ hs, hb]
 unfold wpOpIn
 rw [hi]
 simp only [Region.wanted, hy, beq_self_eq_true, if_true]
 refine wpIn_of_wp (nd_of_run (h a w ha hw d pos aft _) (by simp)) ?_
 unfold Oper.wp
 rw [h a w ha hw]
 have h2 : K (a.put d v) w := by simpa [dstOf, hi] using hk
 exact h2
section
variable {ops : Array Oper} {F0 : Frm} {p : Ph} {Vl : Vals} {li : Array Bool} {a : Act} {w : World}
end
end Go.Sx
namespace Go.Proofs.YtncoifiafklkjaaDoor
open Go Go.Sx
set_option linter.unusedVariables false
set_option linter.unusedSimpArgs false
theorem gmul_xor (a b c : UInt8) : gmul a (b ^^^ c) = gmul a b ^^^ gmul a c := gmul_r a b c
end Go.Proofs.YtncoifiafklkjaaDoor
namespace Go.Proofs.YtncoifiafklkjaaDoor
open Go Go.Sx
set_option linter.unusedVariables false
set_option linter.unusedSimpArgs false
set_option maxRecDepth 100000
def sh3N (tb b : List UInt8) : Nat → List UInt8
 | 0 => zr8 16
 | k + 1 => (sh3N tb b k).set k (g8 tb (g8 b (4*((3*(k % 4) + k / 4) % 4) + k % 4)).toNat)
def sh3L (tb b : List UInt8) : List UInt8 := sh3N tb b 16
theorem sh3N_len (tb b : List UInt8) : ∀ k, (sh3N tb b k).length = 16
 | 0 => zr8_len 16
 | k + 1 => by simp [sh3N, sh3N_len tb b k]
theorem sh3L_len (tb b : List UInt8) : (sh3L tb b).length = 16 := sh3N_len tb b 16
end Go.Proofs.YtncoifiafklkjaaDoor
namespace Go.Proofs.YtncoifiafklkjaaDoor
open Go Go.Sx
set_option linter.unusedVariables false
set_option linter.unusedSimpArgs false
set_option maxRecDepth 100000
def decN (ks b : List UInt8) : Nat → List UInt8
 | 0 => sh3L backL (addL b (mid ks 160 16))
 | j + 1 => sh3L backL (mixL (addL (decN ks b j) (mid ks (16*(9 - j)) 16)) [(14:UInt8), (11:UInt8), (13:UInt8), (9:UInt8)])
def decL (ks b : List UInt8) : List UInt8 := addL (decN ks b 9) (mid ks 0 16)
attribute [local irreducible] addL mixL sh1L sh3L thereL backL rkL encN decN mid
end Go.Proofs.YtncoifiafklkjaaDoor
namespace Go.Proofs.YtncoifiafklkjaaDoor
open Go Go.Sx
set_option linter.unusedVariables false
set_option linter.unusedSimpArgs false
set_option maxRecDepth 100000
theorem encN_len (ks b : List UInt8) (hb : b.length = 16) : ∀ j, (encN ks b j).length = 16
 | 0 => addL_len hb
 | j + 1 => addL_len (mixL_len _ _)
theorem addL_addL {a b : List UInt8} (ha : a.length = 16) : addL (addL a b) b = a := by
 refine ext8 (by rw [addL_len (addL_len ha), ha]) fun j hj => ?_
 rw [addL_len (addL_len ha)] at hj
 rw [addL_get (addL_len ha) hj, addL_get ha hj, UInt8.xor_assoc, UInt8.xor_self, UInt8.xor_zero]
theorem sh3N_get (tb b : List UInt8) : ∀ k, k ≤ 16 → ∀ p, p < k → g8 (sh3N tb b k) p = g8 tb (g8 b (4*((3*(p % 4) + p / 4) % 4) + p % 4)).toNat
  | 0, _, p, hp => by omega
  | k + 1, hk, p, hp => by
    rw [sh3N, g8_set _ _ _ _ (by rw [sh3N_len]; omega)]
    split
    · rename_i h; subst h; rfl
    · exact sh3N_get tb b k (by omega) p (by omega)
theorem back_there (a : UInt8) : g8 backL (g8 thereL a.toNat).toNat = a := by rw [there_get]; revert a; apply u8_all; decide +kernel
theorem sh_back {s : List UInt8} (hs : s.length = 16) : sh3L backL (sh1L thereL s) = s := by
 refine ext8 (by rw [sh3L_len, hs]) fun p hp => ?_
 rw [sh3L_len] at hp
 rw [sh3L, sh3N_get _ _ 16 (by omega) p hp, sh1L, sh1N_get _ _ 16 (by omega) _ (by omega), back_there]
 congr 1; omega
theorem mfb0 (x : UInt8) : (gmul 14 (gmul 2 x) ^^^ gmul 11 (gmul 1 x) ^^^ gmul 13 (gmul 1 x) ^^^ gmul 9 (gmul 3 x)) = x := by revert x; apply u8_all; decide +kernel
theorem mfb1 (x : UInt8) : (gmul 14 (gmul 3 x) ^^^ gmul 11 (gmul 2 x) ^^^ gmul 13 (gmul 1 x) ^^^ gmul 9 (gmul 1 x)) = 0 := by revert x; apply u8_all; decide +kernel
theorem mfb2 (x : UInt8) : (gmul 14 (gmul 1 x) ^^^ gmul 11 (gmul 3 x) ^^^ gmul 13 (gmul 2 x) ^^^ gmul 9 (gmul 1 x)) = 0 := by revert x; apply u8_all; decide +kernel
theorem mfb3 (x : UInt8) : (gmul 14 (gmul 1 x) ^^^ gmul 11 (gmul 1 x) ^^^ gmul 13 (gmul 3 x) ^^^ gmul 9 (gmul 2 x)) = 0 := by revert x; apply u8_all; decide +kernel
theorem col4 {p : Nat → Prop} (h : ∀ c, c < 4 → p (4*c) ∧ p (4*c + 1) ∧ p (4*c + 2) ∧ p (4*c + 3)) : ∀ i, i < 16 → p i := by
  intro i hi
  have hc := h (i / 4) (by omega)
  have : i = 4*(i / 4) ∨ i = 4*(i / 4) + 1 ∨ i = 4*(i / 4) + 2 ∨ i = 4*(i / 4) + 3 := by omega
  rcases this with e | e | e | e <;> rw [e]
  · exact hc.1
  · exact hc.2.1
  · exact hc.2.2.1
  · exact hc.2.2.2
theorem mix_mixB (s : List UInt8) (hs : s.length = 16) : mixL (mixL s [(2:UInt8), (3:UInt8), (1:UInt8), (1:UInt8)]) [(14:UInt8), (11:UInt8), (13:UInt8), (9:UInt8)] = s := by
  refine ext8 (by rw [mixL_len, hs]) fun j hj => ?_
  rw [mixL_len] at hj
  rw [mixL_get _ _ hj]
  revert j
  refine fun j hj => col4 (p := fun j => mixAt (mixL s [(2:UInt8), (3:UInt8), (1:UInt8), (1:UInt8)]) [(14:UInt8), (11:UInt8), (13:UInt8), (9:UInt8)] j = g8 s j) (fun c hc => ?_) j hj
  have G : ∀ p, p < 16 → g8 (mixL s [(2:UInt8), (3:UInt8), (1:UInt8), (1:UInt8)]) p = mixAt s [(2:UInt8), (3:UInt8), (1:UInt8), (1:UInt8)] p := fun p hp => mixL_get _ _ hp
  generalize e0 : g8 s (4*c) = x0
  generalize e1 : g8 s (4*c + 1) = x1
  generalize e2 : g8 s (4*c + 2) = x2
  generalize e3 : g8 s (4*c + 3) = x3
  refine ⟨?_, ?_, ?_, ?_⟩
  · show mixAt _ _ (4*c) = _
    rw [mixAt0, G _ (by omega), G _ (by omega), G _ (by omega), G _ (by omega), mixAt0, mixAt1, mixAt2, mixAt3, e0, e1, e2, e3]
    simp only [g8, List.getD_cons_zero, List.getD_cons_succ, gmul_xor]
    have h0 := mfb0 x0; have h1 := mfb1 x1; have h2 := mfb2 x2; have h3 := mfb3 x3
    have key : x0 = (gmul 14 (gmul 2 x0) ^^^ gmul 11 (gmul 1 x0) ^^^ gmul 13 (gmul 1 x0) ^^^ gmul 9 (gmul 3 x0)) ^^^ (gmul 14 (gmul 3 x1) ^^^ gmul 11 (gmul 2 x1) ^^^ gmul 13 (gmul 1 x1) ^^^ gmul 9 (gmul 1 x1)) ^^^ (gmul 14 (gmul 1 x2) ^^^ gmul 11 (gmul 3 x2) ^^^ gmul 13 (gmul 2 x2) ^^^ gmul 9 (gmul 1 x2)) ^^^ (gmul 14 (gmul 1 x3) ^^^ gmul 11 (gmul 1 x3) ^^^ gmul 13 (gmul 3 x3) ^^^ gmul 9 (gmul 2 x3)) := by rw [h0, h1, h2, h3]; simp
    refine Eq.trans ?_ key.symm
    ac_rfl
  · show mixAt _ _ (4*c + 1) = _
    rw [mixAt1, G _ (by omega), G _ (by omega), G _ (by omega), G _ (by omega), mixAt0, mixAt1, mixAt2, mixAt3, e0, e1, e2, e3]
    simp only [g8, List.getD_cons_zero, List.getD_cons_succ, gmul_xor]
    have h0 := mfb0 x1; have h1 := mfb1 x2; have h2 := mfb2 x3; have h3 := mfb3 x0
    have key : x1 = (gmul 14 (gmul 2 x1) ^^^ gmul 11 (gmul 1 x1) ^^^ gmul 13 (gmul 1 x1) ^^^ gmul 9 (gmul 3 x1)) ^^^ (gmul 14 (gmul 3 x2) ^^^ gmul 11 (gmul 2 x2) ^^^ gmul 13 (gmul 1 x2) ^^^ gmul 9 (gmul 1 x2)) ^^^ (gmul 14 (gmul 1 x3) ^^^ gmul 11 (gmul 3 x3) ^^^ gmul 13 (gmul 2 x3) ^^^ gmul 9 (gmul 1 x3)) ^^^ (gmul 14 (gmul 1 x0) ^^^ gmul 11 (gmul 1 x0) ^^^ gmul 13 (gmul 3 x0) ^^^ gmul 9 (gmul 2 x0)) := by rw [h0, h1, h2, h3]; simp
    refine Eq.trans ?_ key.symm
    ac_rfl
  · show mixAt _ _ (4*c + 2) = _
    rw [mixAt2, G _ (by omega), G _ (by omega), G _ (by omega), G _ (by omega), mixAt0, mixAt1, mixAt2, mixAt3, e0, e1, e2, e3]
    simp only [g8, List.getD_cons_zero, List.getD_cons_succ, gmul_xor]
    have h0 := mfb0 x2; have h1 := mfb1 x3; have h2 := mfb2 x0; have h3 := mfb3 x1
    have key : x2 = (gmul 14 (gmul 2 x2) ^^^ gmul 11 (gmul 1 x2) ^^^ gmul 13 (gmul 1 x2) ^^^ gmul 9 (gmul 3 x2)) ^^^ (gmul 14 (gmul 3 x3) ^^^ gmul 11 (gmul 2 x3) ^^^ gmul 13 (gmul 1 x3) ^^^ gmul 9 (gmul 1 x3)) ^^^ (gmul 14 (gmul 1 x0) ^^^ gmul 11 (gmul 3 x0) ^^^ gmul 13 (gmul 2 x0) ^^^ gmul 9 (gmul 1 x0)) ^^^ (gmul 14 (gmul 1 x1) ^^^ gmul 11 (gmul 1 x1) ^^^ gmul 13 (gmul 3 x1) ^^^ gmul 9 (gmul 2 x1)) := by rw [h0, h1, h2, h3]; simp
    refine Eq.trans ?_ key.symm
    ac_rfl
  · show mixAt _ _ (4*c + 3) = _
    rw [mixAt3, G _ (by omega), G _ (by omega), G _ (by omega), G _ (by omega), mixAt0, mixAt1, mixAt2, mixAt3, e0, e1, e2, e3]
    simp only [g8, List.getD_cons_zero, List.getD_cons_succ, gmul_xor]
    have h0 := mfb0 x3; have h1 := mfb1 x0; have h2 := mfb2 x1; have h3 := mfb3 x2
    have key : x3 = (gmul 14 (gmul 2 x3) ^^^ gmul 11 (gmul 1 x3) ^^^ gmul 13 (gmul 1 x3) ^^^ gmul 9 (gmul 3 x3)) ^^^ (gmul 14 (gmul 3 x0) ^^^ gmul 11 (gmul 2 x0) ^^^ gmul 13 (gmul 1 x0) ^^^ gmul 9 (gmul 1 x0)) ^^^ (gmul 14 (gmul 1 x1) ^^^ gmul 11 (gmul 3 x1) ^^^ gmul 13 (gmul 2 x1) ^^^ gmul 9 (gmul 1 x1)) ^^^ (gmul 14 (gmul 1 x2) ^^^ gmul 11 (gmul 1 x2) ^^^ gmul 13 (gmul 3 x2) ^^^ gmul 9 (gmul 2 x2)) := by rw [h0, h1, h2, h3]; simp
    refine Eq.trans ?_ key.symm
    ac_rfl

end Go.Proofs.YtncoifiafklkjaaDoor
namespace Go.Proofs.YtncoifiafklkjaaDoor
open Go Go.Sx
set_option linter.unusedVariables false
set_option linter.unusedSimpArgs false
set_option maxRecDepth 100000
theorem dec_encN (ks b : List UInt8) (hb : b.length = 16) : ∀ j, j ≤ 9 → decN ks (encL ks b) j = encN ks b (9 - j)
 | 0, _ => by
  rw [decN, encL, addL_addL (sh1L_len _ _), sh_back (encN_len ks b hb 9)]
 | j + 1, hj => by
  rw [decN, dec_encN ks b hb j (by omega), show 9 - j = (9 - (j + 1)) + 1 from by omega, encN, show 16*(9 - (j + 1)) + 16 = 16*(9 - (j + 1) + 1) from by omega, addL_addL (mixL_len _ _), mix_mixB _ (sh1L_len _ _), sh_back (encN_len ks b hb _)]
theorem dec_enc (ks b : List UInt8) (hks : ks.length = 176) (hb : b.length = 16) : decL ks (encL ks b) = b := by
 rw [decL, dec_encN ks b hb 9 (by omega), show 9 - 9 = 0 from rfl, encN, addL_addL hb]
end Go.Proofs.YtncoifiafklkjaaDoor
namespace Go.Sx
theorem strG_mid {blk : Nat → List UInt8} (h : ∀ k, (blk k).length = 16) (k : Nat) : ∀ d, mid (strG blk (k + 1 + d)) (16*k) 16 = blk k
 | 0 => by
  rw [Nat.add_zero, strG, mid, List.drop_append, strG_len h, List.drop_of_length_le (by rw [strG_len h]; omega), Nat.sub_self, List.drop_zero, List.nil_append, List.take_of_length_le (by rw [h]; omega)]
 | d + 1 => by
  rw [← Nat.add_assoc, strG, mid, List.drop_append_of_le_length (by rw [strG_len h]; omega), List.take_append_of_le_length (by rw [List.length_drop, strG_len h]; omega)]
  exact strG_mid h k d
theorem strT_blk {blk : Nat → List UInt8} (h : ∀ k, (blk k).length = 16) {m k : Nat} (hk : k ≤ m) : mid (strT blk (16*m + 16)) (16*k) 16 = blk k := by
 rw [← strT_any h (m := m + 1) (by omega), List.take_of_length_le (by rw [strG_len h]; omega)]
 have := strG_mid h k (m - k)
 rwa [show k + 1 + (m - k) = m + 1 from by omega] at this
end Go.Sx
namespace Go.Proofs.YtncoifiafklkjaaDoor
open Go Go.Sx
set_option linter.unusedVariables false
set_option linter.unusedSimpArgs false
def valK (l : List UInt8) : Nat → UInt64
 | 0 => 0
 | j + 1 => (valK l j <<< 8) ||| (g8 l j).toUInt64
theorem or_nat (a b : Nat) (hb : b < 256) : ((a * 256) ||| b) = a * 256 + b := by
 have h := Nat.shiftLeft_add_eq_or_of_lt (i := 8) (b := b) (by simpa using hb) a
 rw [Nat.shiftLeft_eq] at h
 exact h.symm
theorem shl_or (x : UInt64) (b : UInt8) : (x <<< 8) ||| b.toUInt64 = x * 256 + b.toUInt64 := by
 apply UInt64.toNat_inj.1
 have hx := UInt64.toNat_lt x
 have hb := UInt8.toNat_lt b
 rw [UInt64.toNat_or, UInt64.toNat_shiftLeft, UInt64.toNat_add, UInt64.toNat_mul, UInt8.toNat_toUInt64]
 show (x.toNat <<< (8 % 64)) % 2 ^ 64 ||| b.toNat = (x.toNat * 256 % 2 ^ 64 + b.toNat) % 2 ^ 64
 rw [Nat.shiftLeft_eq]
 have e : x.toNat * 2 ^ (8 % 64) % 2 ^ 64 = (x.toNat % 2 ^ 56) * 256 := by
  show x.toNat * 256 % 2 ^ 64 = _
  omega
 rw [e, or_nat _ _ (by omega)]
 omega
theorem valK_num (k : Nat) (x : UInt64) (hk : k ≤ 8) (hx : x.toNat / 256 ^ k = 0) : ∀ j, j ≤ k → (valK (numK k x k) j).toNat = x.toNat / 256 ^ (k - j)
 | 0, _ => by simp only [valK, Nat.sub_zero, hx]; rfl
 | j + 1, h => by
  have ih := valK_num k x hk hx j (by omega)
  have hl := UInt64.toNat_lt x
  rw [valK, shl_or, UInt64.toNat_add, UInt64.toNat_mul, ih, UInt8.toNat_toUInt64, numK, g8_mr (by omega), UInt64.toNat_toUInt8]
  have e : 8*k - 8*j - 8 = 8*(k - 1 - j) := by omega
  rw [e, shr_divK x _ (by omega)]
  have e2 : 256 ^ (k - j) = 256 ^ (k - 1 - j) * 256 := by rw [← Nat.pow_succ]; congr 1; omega
  have e3 : k - (j + 1) = k - 1 - j := by omega
  rw [e2, e3, ← Nat.div_div_eq_div_mul]
  have h4 : x.toNat / 256 ^ (k - 1 - j) ≤ x.toNat := Nat.div_le_self _ _
  generalize x.toNat / 256 ^ (k - 1 - j) = y at *
  show ((y / 256) * 256 % 2 ^ 64 + y % 2 ^ 8) % 2 ^ 64 = y
  omega
theorem valK_back (k : Nat) (x : UInt64) (hk : k ≤ 8) (hx : x.toNat / 256 ^ k = 0) : valK (numK k x k) k = x :=
 UInt64.toNat_inj.1 (by rw [valK_num k x hk hx k (Nat.le_refl _)]; simp)
end Go.Proofs.YtncoifiafklkjaaDoor
namespace Go.Proofs.YtncoifiafklkjaaDoor
open Go Go.Sx
set_option linter.unusedVariables false
theorem lt4 {i : UInt64} (h : ¬ (4294967295:UInt64) < i) : i.toNat / 256 ^ 4 = 0 := by
 have h2 := Nat.le_of_not_lt fun q => h (UInt64.lt_iff_toNat_lt.2 q)
 have h3 : (4294967295:UInt64).toNat = 4294967295 := rfl
 rw [h3] at h2
 omega
theorem numK_inj {k : Nat} {x y : UInt64} (hk : k ≤ 8) (hx : x.toNat / 256 ^ k = 0) (hy : y.toNat / 256 ^ k = 0) (h : numK k x k = numK k y k) : x = y := by
 rw [← valK_back k x hk hx, ← valK_back k y hk hy, h]
theorem numK8_inj {x y : UInt64} (h : numK 8 x 8 = numK 8 y 8) : x = y :=
 numK_inj (by omega) (Nat.div_eq_of_lt x.toNat_lt) (Nat.div_eq_of_lt y.toNat_lt) h
end Go.Proofs.YtncoifiafklkjaaDoor
namespace Go.Proofs.YtncoifiafklkjaaDoor
open Go Go.Sx
set_option linter.unusedVariables false
theorem xor_zr {s : List UInt8} (hs : s.length = 32) : xorN s (zr8 32) 32 = s := by
 apply ext8n (xorN_len _ _ _)
 intro j hj
 rw [xorN_len, hs] at hj
 rw [xorN_get _ _ 32 (by omega), if_pos hj]
 have : g8 (zr8 32) j = 0 := by unfold zr8; exact g8_rep
 rw [this]
 exact UInt8.xor_zero
theorem turn_apart {k : List UInt8} {i i' e e' : UInt64} (h : RightB i e = true) (h' : RightB i' e' = true) (ht : turnP k (placeT i e) (zr8 32) = turnP k (placeT i' e') (zr8 32)) : i = i' ∧ e = e' := by
 have hl : ∀ i e, (placeT i e ++ zr8 4).length = 16 := fun i e => ctr12 (placeT_len i e)
 unfold turnP at ht
 rw [xor_zr (strT_len (fun j => eBlk_len (hl i e) j) 32), xor_zr (strT_len (fun j => eBlk_len (hl i' e') j) 32)] at ht
 have h0 := strT_blk (m := 1) (k := 0) (fun j => eBlk_len (ks := rkL (encK k)) (hl i e) j) (by omega)
 have h1 := strT_blk (m := 1) (k := 0) (fun j => eBlk_len (ks := rkL (encK k)) (hl i' e') j) (by omega)
 have he : eBlk (rkL (encK k)) (placeT i e ++ zr8 4) 0 = eBlk (rkL (encK k)) (placeT i' e' ++ zr8 4) 0 := by
  rw [← h0, ← h1, show 16*1 + 16 = 32 from rfl, ht]
 have hc : placeT i e ++ zr8 4 = placeT i' e' ++ zr8 4 := by
  have hk := rkL_len (encK k) (encK_len k)
  have := congrArg (decL (rkL (encK k))) he
  unfold eBlk at this
  rw [dec_enc _ _ hk (ctrN_len (hl i e) 0), dec_enc _ _ hk (ctrN_len (hl i' e') 0)] at this
  exact this
 have hp := (List.append_inj hc (by rw [placeT_len, placeT_len])).1
 unfold placeT at hp
 obtain ⟨h2, h3⟩ := List.append_inj hp (by rw [numK_len, numK_len])
 exact ⟨numK_inj (by omega) (lt4 (right_not h)) (lt4 (right_not h')) h2, numK8_inj h3⟩
end Go.Proofs.YtncoifiafklkjaaDoor
namespace Go.Sx
open Go Go.RowKit
open Go.ChangeShapes Go.WideShapes
set_option linter.unusedVariables false
set_option linter.unusedSimpArgs false
section
variable {H : Type} {enc : TypeId × Value → H} {P : Program} {w : World} {base : Nat} {spare : Nat → Bool} {held : Bool} {sz : Bool}
variable {t : TypeId} {cs : List Value}
theorem agg_ofA {v : Value} {cs : List Value} {r : Reach} {b0 n e : Nat} (ht : P.underlying t = some (.array n e)) (hval : Value.okWide P w r b0 t v) (h : v.cells.toList = cs) : v = .agg cs.toArray := by
 simp only [Value.okWide, ht] at hval
 obtain ⟨xs, rfl, _⟩ := hval
 have : (Value.agg xs).cells = xs := rfl
 rw [this] at h
 rw [← h]
end
end Go.Sx
namespace Go.Sx
open Go Go.RowKit
set_option linter.unusedVariables false
set_option linter.unusedSimpArgs false
section
variable {P : Program}
theorem eql_struct {t : TypeId} {x y : Array Value} {b : Bool} (p : Prop) [Decidable p] (h : EqV P 10000 t (.agg x) (.agg y) b) (hb : b = decide p) : ∀ w, (binOp .eql t (.agg x) (.agg y)).run P w = .ok (.bool (decide p)) w := fun w => by
 subst hb
 exact eql_of (by simp [binOp]) (h w)
end
section
variable {C : Cx} {F : Frm} {L : List Ent}
end
end Go.Sx
namespace Go.Proofs.YtncoifiafklkjaaDoor
open Go Go.Sx
set_option linter.unusedVariables false
set_option maxRecDepth 100000
theorem sealN_bad {i e : UInt64} (h : RightB i e = false) : sealN i e = 1 := by unfold sealN; rw [h]; rfl
theorem right_of {i e : UInt64} (h : sealN i e = 0) : RightB i e = true := by
 cases h1 : RightB i e with
 | true => rfl
 | false => rw [sealN_bad h1] at h; omega
theorem apart_d {k : List UInt8} {i i' e e' : UInt64} (h : sealN i e = 0) (h' : sealN i' e' = 0) : decide (sD k i e (zr8 32) = sD k i' e' (zr8 32)) = decide (i = i' ∧ e = e') := by
 have h1 := right_of h
 have h2 := right_of h'
 refine decide_eq_decide.2 ⟨fun q => ?_, fun q => by rw [q.1, q.2]⟩
 unfold sD at q
 rw [if_pos h1, if_pos h2] at q
 exact turn_apart h1 h2 q
theorem apart_x {k : List UInt8} {i i' e e' : UInt64} (h : sealN i e = 0) (h' : sealN i' e' = 0) : decide (sE i e = sE i' e' ∧ sD k i e (zr8 32) = sD k i' e' (zr8 32) ∧ sT k i e (zr8 32) = sT k i' e' (zr8 32)) = decide (i = i' ∧ e = e') :=
 decide_eq_decide.2 ⟨fun q => of_decide_eq_true ((apart_d h h').symm.trans (decide_eq_true q.2.1)), fun q => by rw [q.1, q.2]; exact ⟨rfl, rfl, rfl⟩⟩
end Go.Proofs.YtncoifiafklkjaaDoor
namespace Go.Proofs.YtncoifiafklkjaaDoor
open Go Go.Sx
set_option linter.unusedVariables false
set_option linter.unusedSimpArgs false
set_option maxRecDepth 100000
attribute [local irreducible] mid zr8 zr32 numK valK rotr wordL spreadL comprL cpN adN spN constL initL padL stN outN sumG blkL xbN macL encL decL rkL thereL backL nextL strT xorN eBlk encK tgK placeT turnP tagP RightB sealN sE sD sT openN openBk
theorem sealApart_w (key : List UInt8) (i0 e0 i1 e1 : UInt64)  (w : World) (hk : key.length = 16) (hG : GLs w)  : Calls Tryd.prog 16 #[.agg (cu8 key).toArray, .agg (List.toArray (α := Value) ([U64 i0, U64 e0, U64 i1, U64 e1]))] w (Post w [] (fun v L => v = .bool true ∧ L = [])) := by
 refine enter (P := Tryd.prog) (f := 16) (fn := Tryd.f16) w [] 66 [] [.agg (cu8 key).toArray, .agg (List.toArray (α := Value) ([U64 i0, U64 e0, U64 i1, U64 e1]))] Tryd.func16 rfl rfl (by simp) (Hp.start (by simp) (by simp) (by simp)) ?_
 show JC _ _ _ [(0, .agg (cu8 key).toArray), (1, .agg (List.toArray (α := Value) ([U64 i0, U64 e0, U64 i1, U64 e1])))] _
 refine JC_seq ?_
 refine JC_region ?_
 refine JL_step (Step_box (.agg (cu8 key).toArray) (cu8 key) rfl (by first | rfl | simp)) rfl ?_
 rintro v1 L1 ⟨nb1, hnb1, rfl, rfl⟩
 show JL _ _ _ _ ((2, Ptr nb1 0) :: _) [⟨nb1, cu8 key, 55, (0, 0)⟩]
 refine JL_step (Step_box (.agg (List.toArray (α := Value) ([U64 i0, U64 e0, U64 i1, U64 e1]))) ([U64 i0, U64 e0, U64 i1, U64 e1]) rfl (by first | rfl | simp)) rfl ?_
 rintro v1 L1 ⟨nb2, hnb2, rfl, rfl⟩
 show JL _ _ _ _ ((3, Ptr nb2 0) :: _) [⟨nb1, cu8 key, 55, (0, 0)⟩, ⟨nb2, [U64 i0, U64 e0, U64 i1, U64 e1], 93, (0, 0)⟩]
 refine JL_val _ (Ev_assign rfl) rfl ?_
 refine JL_nil ?_
 refine JQ_then ?_
 refine JC_seq ?_
 refine JC_seq ?_
 refine JC_region ?_
 refine JL_step (Step_callP 56 [] (.bool true) (Cl_func [] Tryd.call56 rfl) (fun w1 hw1 => alive7_c  w1 (hG.at hw1))) rfl ?_
 rintro v1 L1 ⟨rfl, rfl⟩
 show JL _ _ _ _ ((10, .bool true) :: _) [⟨nb1, cu8 key, 55, (0, 0)⟩, ⟨nb2, [U64 i0, U64 e0, U64 i1, U64 e1], 93, (0, 0)⟩]
 refine JL_val (.bool (!true)) (Ev_not rfl) rfl ?_
 refine JL_nil ?_
 refine JQ_then ?_
 refine JC_condF _ rfl rfl ?_
 refine JC_skip ?_
 refine JQ_then ?_
 refine JC_seq ?_
 refine JC_region ?_
 refine JL_val (.agg (cu8 key).toArray) (Ev_load rfl (Ld_agg Tryd.isAgg55 Tryd.sizeOf55 (len_cu8 hk) (MemAt.ent 0 rfl (Seg.whole _)))) rfl ?_
 refine JL_step (Step_callN 57 [.agg (cu8 key).toArray] _ (Cl_func [.agg (cu8 key).toArray] Tryd.call57 rfl) (fun w1 hw1 => snew_c key w1 hk (hG.at hw1))) rfl ?_
 rintro v1 L1 ⟨_, ⟨nb3, nb4, rfl, rfl⟩, rfl⟩
 show JL _ _ _ _ ((13, Ptr nb3 0) :: _) [⟨nb1, cu8 key, 55, (0, 0)⟩, ⟨nb2, [U64 i0, U64 e0, U64 i1, U64 e1], 93, (0, 0)⟩, ⟨nb4, cu8 (rkL (encK key)) ++ cu8 thereL ++ cu8 backL, 170, (0, 0)⟩, ⟨nb3, cu8 (encK key) ++ cu8 (tgK key) ++ cu8 (macL key ([101, 110, 116, 114, 117, 115, 116, 32, 116, 105, 99, 107, 101, 116] : List UInt8)) ++ cu8 (macL key ([101, 110, 116, 114, 117, 115, 116, 32, 108, 105, 110, 107] : List UInt8)) ++ [Ptr nb4 0], 145, (0, 0)⟩]
 refine JL_val _ (Ev_assign rfl) rfl ?_
 refine JL_nil ?_
 refine JQ_then ?_
 refine JC_seq ?_
 refine JC_region ?_
 refine JL_val _ (Ev_move rfl) rfl ?_
 refine JL_val (Ptr nb2 0) (Ev_indexArr 2 73 2 0 Tryd.underlying93 Tryd.sizeOf73 rfl rfl (by omega) (by omega) (by omega)) rfl ?_
 refine JL_val (Ptr nb2 0) (Ev_fieldAddr 0 58 1 Tryd.underlying73 rfl Tryd.sizeOf58 rfl rfl) rfl ?_
 refine JL_val (U64 i0) (Ev_load rfl (Ld_one Tryd.isAgg58 (MemAt.ent 1 rfl (Seg.head)))) rfl ?_
 refine JL_val (Ptr nb2 0) (Ev_indexArr 2 73 2 0 Tryd.underlying93 Tryd.sizeOf73 rfl rfl (by omega) (by omega) (by omega)) rfl ?_
 refine JL_val (Ptr nb2 1) (Ev_fieldAddr 1 58 1 Tryd.underlying73 rfl Tryd.sizeOf58 rfl rfl) rfl ?_
 refine JL_val (U64 e0) (Ev_load rfl (Ld_one Tryd.isAgg58 (MemAt.ent 1 rfl (Seg.tail (Seg.head))))) rfl ?_
 refine JL_val (.agg (cu8 (zr8 32)).toArray) (Ev_build [] _ rfl (fun _ => by kernel_rfl)) rfl ?_
 refine JL_step (Step_callP 58 [Ptr nb3 0, U64 i0, U64 e0, .agg (cu8 (zr8 32)).toArray] (.tuple #[.agg (List.toArray (α := Value) ([U64 (sE i0 e0)] ++ cu8 (sD key i0 e0 (zr8 32)) ++ cu8 (sT key i0 e0 (zr8 32)))), errV 43 (sealN i0 e0)]) (Cl_func [Ptr nb3 0, U64 i0, U64 e0, .agg (cu8 (zr8 32)).toArray] Tryd.call58 rfl) (fun w1 hw1 => seal_w nb3 nb4 key i0 e0 (zr8 32) w1 hk (hw1.ent _ (List.mem_of_getElem? (i := 3) rfl)) (hw1.ent _ (List.mem_of_getElem? (i := 2) rfl)) (zr8_len 32) (hG.at hw1))) rfl ?_
 rintro v1 L1 ⟨rfl, rfl⟩
 show JL _ _ _ _ ((23, .tuple #[.agg (List.toArray (α := Value) ([U64 (sE i0 e0)] ++ cu8 (sD key i0 e0 (zr8 32)) ++ cu8 (sT key i0 e0 (zr8 32)))), errV 43 (sealN i0 e0)]) :: _) [⟨nb1, cu8 key, 55, (0, 0)⟩, ⟨nb2, [U64 i0, U64 e0, U64 i1, U64 e1], 93, (0, 0)⟩, ⟨nb4, cu8 (rkL (encK key)) ++ cu8 thereL ++ cu8 backL, 170, (0, 0)⟩, ⟨nb3, cu8 (encK key) ++ cu8 (tgK key) ++ cu8 (macL key ([101, 110, 116, 114, 117, 115, 116, 32, 116, 105, 99, 107, 101, 116] : List UInt8)) ++ cu8 (macL key ([101, 110, 116, 114, 117, 115, 116, 32, 108, 105, 110, 107] : List UInt8)) ++ [Ptr nb4 0], 145, (0, 0)⟩]
 refine JL_val _ (Ev_move rfl) rfl ?_
 refine JL_val _ (Ev_extract rfl rfl) rfl ?_
 refine JL_val _ (Ev_extract rfl rfl) rfl ?_
 refine JL_step (Step_alloc _ ([U64 (0:UInt64)] ++ cu8 (zr8 32) ++ cu8 (zr8 16)) Tryd.zeroValue76 (by kernel_rfl)) rfl ?_
 rintro v1 L1 ⟨nb5, hnb5, rfl, rfl⟩
 show JL _ _ _ _ ((6, Ptr nb5 0) :: _) [⟨nb1, cu8 key, 55, (0, 0)⟩, ⟨nb2, [U64 i0, U64 e0, U64 i1, U64 e1], 93, (0, 0)⟩, ⟨nb4, cu8 (rkL (encK key)) ++ cu8 thereL ++ cu8 backL, 170, (0, 0)⟩, ⟨nb3, cu8 (encK key) ++ cu8 (tgK key) ++ cu8 (macL key ([101, 110, 116, 114, 117, 115, 116, 32, 116, 105, 99, 107, 101, 116] : List UInt8)) ++ cu8 (macL key ([101, 110, 116, 114, 117, 115, 116, 32, 108, 105, 110, 107] : List UInt8)) ++ [Ptr nb4 0], 145, (0, 0)⟩, ⟨nb5, [U64 (0:UInt64)] ++ cu8 (zr8 32) ++ cu8 (zr8 16), 76, (0, 0)⟩]
 refine JL_step (Step_store 4 nb5 0 49 ([U64 (0:UInt64)] ++ cu8 (zr8 32) ++ cu8 (zr8 16)) 76 (.agg (List.toArray (α := Value) ([U64 (sE i0 e0)] ++ cu8 (sD key i0 e0 (zr8 32)) ++ cu8 (sT key i0 e0 (zr8 32))))) ([U64 (sE i0 e0)] ++ cu8 (sD key i0 e0 (zr8 32)) ++ cu8 (sT key i0 e0 (zr8 32))) ([U64 (sE i0 e0)] ++ cu8 (sD key i0 e0 (zr8 32)) ++ cu8 (sT key i0 e0 (zr8 32))) rfl rfl rfl (by first | rfl | simp) Tryd.sizeOf76 (by simp [(sD_len _ _ _ _), (sT_len _ _ _ _)]) (one_app (one_app (by simp [Value.oneCell']) one_u8) one_u8) (by simp [(zr8_len 32), (zr8_len 16)]) (lay_whole (by simp [(zr8_len 32), (zr8_len 16), (sD_len _ _ _ _), (sT_len _ _ _ _)]))) rfl ?_
 rintro v1 L1 ⟨rfl, rfl⟩
 show JL _ _ _ _ _ [⟨nb1, cu8 key, 55, (0, 0)⟩, ⟨nb2, [U64 i0, U64 e0, U64 i1, U64 e1], 93, (0, 0)⟩, ⟨nb4, cu8 (rkL (encK key)) ++ cu8 thereL ++ cu8 backL, 170, (0, 0)⟩, ⟨nb3, cu8 (encK key) ++ cu8 (tgK key) ++ cu8 (macL key ([101, 110, 116, 114, 117, 115, 116, 32, 116, 105, 99, 107, 101, 116] : List UInt8)) ++ cu8 (macL key ([101, 110, 116, 114, 117, 115, 116, 32, 108, 105, 110, 107] : List UInt8)) ++ [Ptr nb4 0], 145, (0, 0)⟩, ⟨nb5, [U64 (sE i0 e0)] ++ cu8 (sD key i0 e0 (zr8 32)) ++ cu8 (sT key i0 e0 (zr8 32)), 76, (0, 0)⟩]
 refine JL_val _ (Ev_assign rfl) rfl ?_
 refine JL_nil ?_
 refine JQ_then ?_
 refine JC_seq ?_
 refine JC_region ?_
 refine JL_val _ (Ev_move rfl) rfl ?_
 refine JL_val (Ptr nb2 2) (Ev_indexArr 2 73 2 2 Tryd.underlying93 Tryd.sizeOf73 rfl rfl (by omega) (by omega) (by omega)) rfl ?_
 refine JL_val (Ptr nb2 2) (Ev_fieldAddr 0 58 1 Tryd.underlying73 rfl Tryd.sizeOf58 rfl rfl) rfl ?_
 refine JL_val (U64 i1) (Ev_load rfl (Ld_one Tryd.isAgg58 (MemAt.ent 1 rfl (Seg.tail (Seg.tail (Seg.head)))))) rfl ?_
 refine JL_val (Ptr nb2 2) (Ev_indexArr 2 73 2 2 Tryd.underlying93 Tryd.sizeOf73 rfl rfl (by omega) (by omega) (by omega)) rfl ?_
 refine JL_val (Ptr nb2 3) (Ev_fieldAddr 1 58 1 Tryd.underlying73 rfl Tryd.sizeOf58 rfl rfl) rfl ?_
 refine JL_val (U64 e1) (Ev_load rfl (Ld_one Tryd.isAgg58 (MemAt.ent 1 rfl (Seg.tail (Seg.tail (Seg.tail (Seg.head))))))) rfl ?_
 refine JL_val (.agg (cu8 (zr8 32)).toArray) (Ev_build [] _ rfl (fun _ => by kernel_rfl)) rfl ?_
 refine JL_step (Step_callP 58 [Ptr nb3 0, U64 i1, U64 e1, .agg (cu8 (zr8 32)).toArray] (.tuple #[.agg (List.toArray (α := Value) ([U64 (sE i1 e1)] ++ cu8 (sD key i1 e1 (zr8 32)) ++ cu8 (sT key i1 e1 (zr8 32)))), errV 43 (sealN i1 e1)]) (Cl_func [Ptr nb3 0, U64 i1, U64 e1, .agg (cu8 (zr8 32)).toArray] Tryd.call58 rfl) (fun w1 hw1 => seal_w nb3 nb4 key i1 e1 (zr8 32) w1 hk (hw1.ent _ (List.mem_of_getElem? (i := 3) rfl)) (hw1.ent _ (List.mem_of_getElem? (i := 2) rfl)) (zr8_len 32) (hG.at hw1))) rfl ?_
 rintro v1 L1 ⟨rfl, rfl⟩
 show JL _ _ _ _ ((35, .tuple #[.agg (List.toArray (α := Value) ([U64 (sE i1 e1)] ++ cu8 (sD key i1 e1 (zr8 32)) ++ cu8 (sT key i1 e1 (zr8 32)))), errV 43 (sealN i1 e1)]) :: _) [⟨nb1, cu8 key, 55, (0, 0)⟩, ⟨nb2, [U64 i0, U64 e0, U64 i1, U64 e1], 93, (0, 0)⟩, ⟨nb4, cu8 (rkL (encK key)) ++ cu8 thereL ++ cu8 backL, 170, (0, 0)⟩, ⟨nb3, cu8 (encK key) ++ cu8 (tgK key) ++ cu8 (macL key ([101, 110, 116, 114, 117, 115, 116, 32, 116, 105, 99, 107, 101, 116] : List UInt8)) ++ cu8 (macL key ([101, 110, 116, 114, 117, 115, 116, 32, 108, 105, 110, 107] : List UInt8)) ++ [Ptr nb4 0], 145, (0, 0)⟩, ⟨nb5, [U64 (sE i0 e0)] ++ cu8 (sD key i0 e0 (zr8 32)) ++ cu8 (sT key i0 e0 (zr8 32)), 76, (0, 0)⟩]
 refine JL_val _ (Ev_move rfl) rfl ?_
 refine JL_val _ (Ev_extract rfl rfl) rfl ?_
 refine JL_val _ (Ev_extract rfl rfl) rfl ?_
 refine JL_step (Step_alloc _ ([U64 (0:UInt64)] ++ cu8 (zr8 32) ++ cu8 (zr8 16)) Tryd.zeroValue76 (by kernel_rfl)) rfl ?_
 rintro v1 L1 ⟨nb6, hnb6, rfl, rfl⟩
 show JL _ _ _ _ ((8, Ptr nb6 0) :: _) [⟨nb1, cu8 key, 55, (0, 0)⟩, ⟨nb2, [U64 i0, U64 e0, U64 i1, U64 e1], 93, (0, 0)⟩, ⟨nb4, cu8 (rkL (encK key)) ++ cu8 thereL ++ cu8 backL, 170, (0, 0)⟩, ⟨nb3, cu8 (encK key) ++ cu8 (tgK key) ++ cu8 (macL key ([101, 110, 116, 114, 117, 115, 116, 32, 116, 105, 99, 107, 101, 116] : List UInt8)) ++ cu8 (macL key ([101, 110, 116, 114, 117, 115, 116, 32, 108, 105, 110, 107] : List UInt8)) ++ [Ptr nb4 0], 145, (0, 0)⟩, ⟨nb5, [U64 (sE i0 e0)] ++ cu8 (sD key i0 e0 (zr8 32)) ++ cu8 (sT key i0 e0 (zr8 32)), 76, (0, 0)⟩, ⟨nb6, [U64 (0:UInt64)] ++ cu8 (zr8 32) ++ cu8 (zr8 16), 76, (0, 0)⟩]
 refine JL_step (Step_store 5 nb6 0 49 ([U64 (0:UInt64)] ++ cu8 (zr8 32) ++ cu8 (zr8 16)) 76 (.agg (List.toArray (α := Value) ([U64 (sE i1 e1)] ++ cu8 (sD key i1 e1 (zr8 32)) ++ cu8 (sT key i1 e1 (zr8 32))))) ([U64 (sE i1 e1)] ++ cu8 (sD key i1 e1 (zr8 32)) ++ cu8 (sT key i1 e1 (zr8 32))) ([U64 (sE i1 e1)] ++ cu8 (sD key i1 e1 (zr8 32)) ++ cu8 (sT key i1 e1 (zr8 32))) rfl rfl rfl (by first | rfl | simp) Tryd.sizeOf76 (by simp [(sD_len _ _ _ _), (sT_len _ _ _ _)]) (one_app (one_app (by simp [Value.oneCell']) one_u8) one_u8) (by simp [(zr8_len 32), (zr8_len 16)]) (lay_whole (by simp [(zr8_len 32), (zr8_len 16), (sD_len _ _ _ _), (sT_len _ _ _ _)]))) rfl ?_
 rintro v1 L1 ⟨rfl, rfl⟩
 show JL _ _ _ _ _ [⟨nb1, cu8 key, 55, (0, 0)⟩, ⟨nb2, [U64 i0, U64 e0, U64 i1, U64 e1], 93, (0, 0)⟩, ⟨nb4, cu8 (rkL (encK key)) ++ cu8 thereL ++ cu8 backL, 170, (0, 0)⟩, ⟨nb3, cu8 (encK key) ++ cu8 (tgK key) ++ cu8 (macL key ([101, 110, 116, 114, 117, 115, 116, 32, 116, 105, 99, 107, 101, 116] : List UInt8)) ++ cu8 (macL key ([101, 110, 116, 114, 117, 115, 116, 32, 108, 105, 110, 107] : List UInt8)) ++ [Ptr nb4 0], 145, (0, 0)⟩, ⟨nb5, [U64 (sE i0 e0)] ++ cu8 (sD key i0 e0 (zr8 32)) ++ cu8 (sT key i0 e0 (zr8 32)), 76, (0, 0)⟩, ⟨nb6, [U64 (sE i1 e1)] ++ cu8 (sD key i1 e1 (zr8 32)) ++ cu8 (sT key i1 e1 (zr8 32)), 76, (0, 0)⟩]
 refine JL_val _ (Ev_assign rfl) rfl ?_
 refine JL_nil ?_
 refine JQ_then ?_
 refine JC_seq ?_
 refine JC_seq ?_
 refine JC_region ?_
 refine JL_val _ (Ev_move rfl) rfl ?_
 refine JL_val (.bool (!(decide (sealN i0 e0 = 0)))) (Ev_bin _ _ _ rfl rfl (fun _ => eqGuard_errV ..) fun _ => neq_errV Tryd.underlying39 _ _) rfl ?_
 refine JL_val _ (Ev_move rfl) rfl ?_
 rcases Bool.eq_false_or_eq_true (decide (sealN i0 e0 = 0)) with hb1 | hb1
 ·
  have hp1 : sealN i0 e0 = 0 := of_decide_eq_true hb1
  refine JL_gval 2 40 false _ _ rfl rfl (by rw [show (decide (sealN i0 e0 = 0)) = true from hb1] <;> rfl) (Ev_move rfl) rfl ?_
  refine JL_gval 2 40 false _ (.bool (!(decide (sealN i1 e1 = 0)))) rfl rfl (by rw [show (decide (sealN i0 e0 = 0)) = true from hb1] <;> rfl) (Ev_bin _ _ _ rfl rfl (fun _ => eqGuard_errV ..) fun _ => neq_errV Tryd.underlying39 _ _) rfl ?_
  refine JL_val _ (Ev_pickF _ rfl (by rw [show (decide (sealN i0 e0 = 0)) = true from hb1] <;> rfl) rfl) rfl ?_
  refine JL_nil ?_
  refine JQ_then ?_
  refine JC_cond (!(decide (sealN i1 e1 = 0))) rfl (fun hb2 => ?_) (fun hb2 => ?_)
  ·
   have hb3 : (decide (sealN i1 e1 = 0)) = false := by simpa using hb2
   have hp3 : ¬ (sealN i1 e1 = 0) := of_decide_eq_false hb3
   refine JC_seq ?_
   refine JC_region ?_
   refine JL_val _ (Ev_assign rfl) rfl ?_
   refine JL_nil ?_
   refine JQ_then ?_
   refine JC_ret ?_
   refine JQ_then_ret ?_
   refine JQ_ret (.bool true) (res1 Tryd.results16 (RV_tmp rfl)) fun w1 hw1 => ?_
   exact ⟨_, [], rfl, ⟨by rw [show (true) = true from rfl], rfl⟩, hw1.sub (by simp) (by simp)⟩
  ·
   have hb4 : (decide (sealN i1 e1 = 0)) = true := by simpa using hb2
   have hp4 : sealN i1 e1 = 0 := of_decide_eq_true hb4
   refine JC_skip ?_
   refine JQ_then ?_
   refine JC_seq ?_
   refine JC_draw 66 1 [(0, Ptr nb5 1), (1, .agg (cu8 (sD key i0 e0 (zr8 32))).toArray), (2, Ptr nb6 1), (3, .agg (cu8 (sD key i1 e1 (zr8 32))).toArray), (4, .bool (decide ((sD key i0 e0 (zr8 32)) = (sD key i1 e1 (zr8 32))))), (5, Ptr nb2 0), (6, .agg (List.toArray (α := Value) ([U64 i0, U64 e0]))), (7, Ptr nb2 2), (8, .agg (List.toArray (α := Value) ([U64 i1, U64 e1]))), (9, .bool (decide (i0 = i1 ∧ e0 = e1))), (10, .bool ((decide ((sD key i0 e0 (zr8 32)) = (sD key i1 e1 (zr8 32)))) == (decide (i0 = i1 ∧ e0 = e1)))), (11, .bool ((decide ((sD key i0 e0 (zr8 32)) = (sD key i1 e1 (zr8 32)))) == (decide (i0 = i1 ∧ e0 = e1)))), (12, .agg (List.toArray (α := Value) ([U64 (sE i0 e0)] ++ cu8 (sD key i0 e0 (zr8 32)) ++ cu8 (sT key i0 e0 (zr8 32))))), (13, .agg (List.toArray (α := Value) ([U64 (sE i1 e1)] ++ cu8 (sD key i1 e1 (zr8 32)) ++ cu8 (sT key i1 e1 (zr8 32))))), (14, .bool (decide ((sE i0 e0) = (sE i1 e1) ∧ (sD key i0 e0 (zr8 32)) = (sD key i1 e1 (zr8 32)) ∧ (sT key i0 e0 (zr8 32)) = (sT key i1 e1 (zr8 32))))), (15, Ptr nb2 0), (16, .agg (List.toArray (α := Value) ([U64 i0, U64 e0]))), (17, Ptr nb2 2), (18, .agg (List.toArray (α := Value) ([U64 i1, U64 e1]))), (19, .bool (decide (i0 = i1 ∧ e0 = e1))), (20, .bool ((decide ((sE i0 e0) = (sE i1 e1) ∧ (sD key i0 e0 (zr8 32)) = (sD key i1 e1 (zr8 32)) ∧ (sT key i0 e0 (zr8 32)) = (sT key i1 e1 (zr8 32)))) == (decide (i0 = i1 ∧ e0 = e1)))), (21, .bool ((decide ((sE i0 e0) = (sE i1 e1) ∧ (sD key i0 e0 (zr8 32)) = (sD key i1 e1 (zr8 32)) ∧ (sT key i0 e0 (zr8 32)) = (sT key i1 e1 (zr8 32)))) == (decide (i0 = i1 ∧ e0 = e1)))), (22, .bool ((decide ((sE i0 e0) = (sE i1 e1) ∧ (sD key i0 e0 (zr8 32)) = (sD key i1 e1 (zr8 32)) ∧ (sT key i0 e0 (zr8 32)) = (sT key i1 e1 (zr8 32)))) == (decide (i0 = i1 ∧ e0 = e1))))] Tryd.mixed rfl (by decide +kernel) ?_
   refine DP_end ⟨[], [0, 1, 2, 3, 4, 5, 6, 7, 8, 9, 10, 11, 12, 13, 14, 15, 16, 17, 18, 19, 20, 21, 22], [], [0, 1, 2, 3, 4, 5, 6, 7, 8, 9, 10, 11, 12, 13, 14, 15, 16, 17, 18, 19, 20, 21, 22], []⟩ rfl rfl (by decide +kernel) rfl ⟨⟨_, rfl, Qok_val rfl (Ev_fieldAddr 1 74 32 Tryd.underlying76 rfl Tryd.sizeOf74 rfl rfl)⟩, ⟨_, rfl, Qok_val rfl (Ev_load rfl (Ld_agg Tryd.isAgg74 Tryd.sizeOf74 (len_cu8 (sD_len _ _ _ _)) (MemAt.ent 4 rfl (Seg.left (Seg.right 1 0 rfl rfl (Seg.whole _))))))⟩, ⟨_, rfl, Qok_val rfl (Ev_fieldAddr 1 74 32 Tryd.underlying76 rfl Tryd.sizeOf74 rfl rfl)⟩, ⟨_, rfl, Qok_val rfl (Ev_load rfl (Ld_agg Tryd.isAgg74 Tryd.sizeOf74 (len_cu8 (sD_len _ _ _ _)) (MemAt.ent 5 rfl (Seg.left (Seg.right 1 0 rfl rfl (Seg.whole _))))))⟩, ⟨_, rfl, Qok_val rfl (Ev_bin _ _ _ rfl rfl (fun _ => eqGuard_agg _ _ _ _ _ _ (by kernel_rfl)) fun _ => eql_arr8 Tryd.underlying74 Tryd.underlying5 Tryd.isAgg5 Tryd.cells5 Tryd.has5 (by simp [(sD_len _ _ _ _)]) (by simp [(sD_len _ _ _ _)]))⟩, ⟨_, rfl, Qok_val rfl (Ev_indexArr 2 73 2 0 Tryd.underlying93 Tryd.sizeOf73 rfl rfl (by omega) (by omega) (by omega))⟩, ⟨_, rfl, Qok_val rfl (Ev_load rfl (Ld_agg Tryd.isAgg73 Tryd.sizeOf73 rfl (MemAt.ent 1 rfl (Seg.split (p := []) (q := [U64 i1, U64 e1]) (vs := [U64 i0, U64 e0]) (by first | rfl | (simp only [List.append_assoc, List.nil_append, List.append_nil, List.cons_append]; done)) rfl))))⟩, ⟨_, rfl, Qok_val rfl (Ev_indexArr 2 73 2 2 Tryd.underlying93 Tryd.sizeOf73 rfl rfl (by omega) (by omega) (by omega))⟩, ⟨_, rfl, Qok_val rfl (Ev_load rfl (Ld_agg Tryd.isAgg73 Tryd.sizeOf73 rfl (MemAt.ent 1 rfl (Seg.split (p := [U64 i0, U64 e0]) (q := []) (vs := [U64 i1, U64 e1]) (by first | rfl | (simp only [List.append_assoc, List.nil_append, List.append_nil, List.cons_append]; done)) rfl))))⟩, ⟨_, rfl, Qok_val rfl (Ev_bin _ _ _ rfl rfl (fun _ => eqGuard_agg _ _ _ _ _ _ (by kernel_rfl)) (eql_struct (i0 = i1 ∧ e0 = e1) (EqV.struct (d := 9999) (by kernel_rfl) (by kernel_rfl) (by kernel_rfl) (EqRs.cons 58 0 (U64 i0) (U64 i1) _ _ _ (PartV.one Tryd.isAgg58 (Seg.head)) (PartV.one Tryd.isAgg58 (Seg.head)) (EqV.u64 (d := 9998) Tryd.underlying58 i0 i1) (EqRs.last 58 1 (U64 e0) (U64 e1) _ (PartV.one Tryd.isAgg58 (Seg.tail (Seg.head))) (PartV.one Tryd.isAgg58 (Seg.tail (Seg.head))) (EqV.u64 (d := 9998) Tryd.underlying58 e0 e1)))) (by first | rfl | (simp only [Bool.decide_and, Bool.and_assoc]; done) | (simp [Bool.and_assoc]; done))))⟩, ⟨_, rfl, Qok_val rfl (Ev_bin _ _ _ rfl rfl (fun _ => eqGuard_bool ..) fun _ => eql_bool Tryd.underlying4)⟩, ⟨_, rfl, Qok_val rfl (Ev_move rfl)⟩, ⟨_, rfl, Qok_gval 11 55 true _ rfl rfl rfl (by rw [apart_d (of_decide_eq_true hb1) (of_decide_eq_true hb4)]; exact beq_self_eq_true _) (Ev_load rfl (Ld_agg Tryd.isAgg76 Tryd.sizeOf76 (by simp [(sD_len _ _ _ _), (sT_len _ _ _ _)]) (MemAt.ent 4 rfl (Seg.whole _))))⟩, ⟨_, rfl, Qok_gval 11 55 true _ rfl rfl rfl (by rw [apart_d (of_decide_eq_true hb1) (of_decide_eq_true hb4)]; exact beq_self_eq_true _) (Ev_load rfl (Ld_agg Tryd.isAgg76 Tryd.sizeOf76 (by simp [(sD_len _ _ _ _), (sT_len _ _ _ _)]) (MemAt.ent 5 rfl (Seg.whole _))))⟩, ⟨_, rfl, Qok_gval 11 55 true _ rfl rfl rfl (by rw [apart_d (of_decide_eq_true hb1) (of_decide_eq_true hb4)]; exact beq_self_eq_true _) (Ev_bin _ _ _ rfl rfl (fun _ => eqGuard_agg _ _ _ _ _ _ (by kernel_rfl)) (eql_struct ((sE i0 e0) = (sE i1 e1) ∧ (sD key i0 e0 (zr8 32)) = (sD key i1 e1 (zr8 32)) ∧ (sT key i0 e0 (zr8 32)) = (sT key i1 e1 (zr8 32))) (EqV.struct (d := 9999) (by kernel_rfl) (by kernel_rfl) (by kernel_rfl) (EqRs.cons 58 0 (U64 (sE i0 e0)) (U64 (sE i1 e1)) _ _ _ (PartV.one Tryd.isAgg58 (Seg.left (Seg.left (Seg.head)))) (PartV.one Tryd.isAgg58 (Seg.left (Seg.left (Seg.head)))) (EqV.u64 (d := 9998) Tryd.underlying58 (sE i0 e0) (sE i1 e1)) (EqRs.cons 74 1 (.agg (cu8 (sD key i0 e0 (zr8 32))).toArray) (.agg (cu8 (sD key i1 e1 (zr8 32))).toArray) _ _ _ (PartV.agg Tryd.isAgg74 Tryd.sizeOf74 (Seg.cut (Seg.left (Seg.right 1 0 rfl rfl (Seg.whole _))) (len_cu8 (sD_len _ _ _ _)) (by omega))) (PartV.agg Tryd.isAgg74 Tryd.sizeOf74 (Seg.cut (Seg.left (Seg.right 1 0 rfl rfl (Seg.whole _))) (len_cu8 (sD_len _ _ _ _)) (by omega))) (EqV.arr8 (d := 9997) Tryd.underlying74 Tryd.underlying5 Tryd.isAgg5 Tryd.cells5 Tryd.has5 (by simp [(sD_len _ _ _ _)]) (by simp [(sD_len _ _ _ _)])) (EqRs.last 54 33 (.agg (cu8 (sT key i0 e0 (zr8 32))).toArray) (.agg (cu8 (sT key i1 e1 (zr8 32))).toArray) _ (PartV.agg Tryd.isAgg54 Tryd.sizeOf54 (Seg.cut (Seg.right 33 0 (by simp [(sD_len _ _ _ _)]) rfl (Seg.whole _)) (len_cu8 (sT_len _ _ _ _)) (by omega))) (PartV.agg Tryd.isAgg54 Tryd.sizeOf54 (Seg.cut (Seg.right 33 0 (by simp [(sD_len _ _ _ _)]) rfl (Seg.whole _)) (len_cu8 (sT_len _ _ _ _)) (by omega))) (EqV.arr8 (d := 9997) Tryd.underlying54 Tryd.underlying5 Tryd.isAgg5 Tryd.cells5 Tryd.has5 (by simp [(sT_len _ _ _ _)]) (by simp [(sT_len _ _ _ _)])))))) (by first | rfl | (simp only [Bool.decide_and, Bool.and_assoc]; done) | (simp [Bool.and_assoc]; done))))⟩, ⟨_, rfl, Qok_gval 11 55 true _ rfl rfl rfl (by rw [apart_d (of_decide_eq_true hb1) (of_decide_eq_true hb4)]; exact beq_self_eq_true _) (Ev_indexArr 2 73 2 0 Tryd.underlying93 Tryd.sizeOf73 rfl rfl (by omega) (by omega) (by omega))⟩, ⟨_, rfl, Qok_gval 11 55 true _ rfl rfl rfl (by rw [apart_d (of_decide_eq_true hb1) (of_decide_eq_true hb4)]; exact beq_self_eq_true _) (Ev_load rfl (Ld_agg Tryd.isAgg73 Tryd.sizeOf73 rfl (MemAt.ent 1 rfl (Seg.split (p := []) (q := [U64 i1, U64 e1]) (vs := [U64 i0, U64 e0]) (by first | rfl | (simp only [List.append_assoc, List.nil_append, List.append_nil, List.cons_append]; done)) rfl))))⟩, ⟨_, rfl, Qok_gval 11 55 true _ rfl rfl rfl (by rw [apart_d (of_decide_eq_true hb1) (of_decide_eq_true hb4)]; exact beq_self_eq_true _) (Ev_indexArr 2 73 2 2 Tryd.underlying93 Tryd.sizeOf73 rfl rfl (by omega) (by omega) (by omega))⟩, ⟨_, rfl, Qok_gval 11 55 true _ rfl rfl rfl (by rw [apart_d (of_decide_eq_true hb1) (of_decide_eq_true hb4)]; exact beq_self_eq_true _) (Ev_load rfl (Ld_agg Tryd.isAgg73 Tryd.sizeOf73 rfl (MemAt.ent 1 rfl (Seg.split (p := [U64 i0, U64 e0]) (q := []) (vs := [U64 i1, U64 e1]) (by first | rfl | (simp only [List.append_assoc, List.nil_append, List.append_nil, List.cons_append]; done)) rfl))))⟩, ⟨_, rfl, Qok_gval 11 55 true _ rfl rfl rfl (by rw [apart_d (of_decide_eq_true hb1) (of_decide_eq_true hb4)]; exact beq_self_eq_true _) (Ev_bin _ _ _ rfl rfl (fun _ => eqGuard_agg _ _ _ _ _ _ (by kernel_rfl)) (eql_struct (i0 = i1 ∧ e0 = e1) (EqV.struct (d := 9999) (by kernel_rfl) (by kernel_rfl) (by kernel_rfl) (EqRs.cons 58 0 (U64 i0) (U64 i1) _ _ _ (PartV.one Tryd.isAgg58 (Seg.head)) (PartV.one Tryd.isAgg58 (Seg.head)) (EqV.u64 (d := 9998) Tryd.underlying58 i0 i1) (EqRs.last 58 1 (U64 e0) (U64 e1) _ (PartV.one Tryd.isAgg58 (Seg.tail (Seg.head))) (PartV.one Tryd.isAgg58 (Seg.tail (Seg.head))) (EqV.u64 (d := 9998) Tryd.underlying58 e0 e1)))) (by first | rfl | (simp only [Bool.decide_and, Bool.and_assoc]; done) | (simp [Bool.and_assoc]; done))))⟩, ⟨_, rfl, Qok_gval 11 55 true _ rfl rfl rfl (by rw [apart_d (of_decide_eq_true hb1) (of_decide_eq_true hb4)]; exact beq_self_eq_true _) (Ev_bin _ _ _ rfl rfl (fun _ => eqGuard_bool ..) fun _ => eql_bool Tryd.underlying4)⟩, ⟨_, rfl, Qok_val rfl (Ev_pickT _ rfl (by rw [apart_d (of_decide_eq_true hb1) (of_decide_eq_true hb4)]; exact beq_self_eq_true _) rfl)⟩, ⟨_, rfl, Qok_val rfl (Ev_assign rfl)⟩, trivial⟩ ?_
   refine K_sub (F' := [(4, .bool ((decide ((sE i0 e0) = (sE i1 e1) ∧ (sD key i0 e0 (zr8 32)) = (sD key i1 e1 (zr8 32)) ∧ (sT key i0 e0 (zr8 32)) = (sT key i1 e1 (zr8 32)))) == (decide (i0 = i1 ∧ e0 = e1))))]) (Sub.cons (by kernel_rfl) (Sub.nil)) ?_
   show JQ _ _ _ [(4, .bool ((decide ((sE i0 e0) = (sE i1 e1) ∧ (sD key i0 e0 (zr8 32)) = (sD key i1 e1 (zr8 32)) ∧ (sT key i0 e0 (zr8 32)) = (sT key i1 e1 (zr8 32)))) == (decide (i0 = i1 ∧ e0 = e1))))] _
   refine JQ_then ?_
   refine JC_ret ?_
   refine JQ_ret (.bool ((decide ((sE i0 e0) = (sE i1 e1) ∧ (sD key i0 e0 (zr8 32)) = (sD key i1 e1 (zr8 32)) ∧ (sT key i0 e0 (zr8 32)) = (sT key i1 e1 (zr8 32)))) == (decide (i0 = i1 ∧ e0 = e1)))) (res1 Tryd.results16 (RV_tmp rfl)) fun w1 hw1 => ?_
   exact ⟨_, [], rfl, ⟨by rw [show ((decide ((sE i0 e0) = (sE i1 e1) ∧ (sD key i0 e0 (zr8 32)) = (sD key i1 e1 (zr8 32)) ∧ (sT key i0 e0 (zr8 32)) = (sT key i1 e1 (zr8 32)))) == (decide (i0 = i1 ∧ e0 = e1))) = true from (by rw [apart_x (of_decide_eq_true hb1) (of_decide_eq_true hb4)]; exact beq_self_eq_true _)], rfl⟩, hw1.sub (by simp) (by simp)⟩
 ·
  have hp1 : ¬ (sealN i0 e0 = 0) := of_decide_eq_false hb1
  refine JL_gskip 2 40 false _ rfl rfl (by rw [show (decide (sealN i0 e0 = 0)) = false from hb1] <;> rfl) rfl ?_
  refine JL_gskip 2 40 false _ rfl rfl (by rw [show (decide (sealN i0 e0 = 0)) = false from hb1] <;> rfl) rfl ?_
  refine JL_val _ (Ev_pickT _ rfl (by rw [show (decide (sealN i0 e0 = 0)) = false from hb1] <;> rfl) rfl) rfl ?_
  refine JL_nil ?_
  refine JQ_then ?_
  refine JC_condT _ rfl rfl ?_
  refine JC_seq ?_
  refine JC_region ?_
  refine JL_val _ (Ev_assign rfl) rfl ?_
  refine JL_nil ?_
  refine JQ_then ?_
  refine JC_ret ?_
  refine JQ_then_ret ?_
  refine JQ_ret (.bool true) (res1 Tryd.results16 (RV_tmp rfl)) fun w1 hw1 => ?_
  exact ⟨_, [], rfl, ⟨by rw [show (true) = true from rfl], rfl⟩, hw1.sub (by simp) (by simp)⟩
end Go.Proofs.YtncoifiafklkjaaDoor
