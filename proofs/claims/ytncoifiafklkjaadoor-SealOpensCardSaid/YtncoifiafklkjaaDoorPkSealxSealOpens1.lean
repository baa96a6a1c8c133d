import Derived.ChangeKeysEq
import Derived.Test.YtncoifiafklkjaaDoorPkSeal4
namespace Go.Sx
open Go Go.RowKit
theorem wrapU64 (a : UInt64) : IntKind.u64.wrap (a.toNat : Int) = a.toNat := by
 rw [wrap_u64']; have := a.toNat_lt; omega
variable {P : Program} {w : World} {T : TypeId}
theorem bin_sub_u8 (a b : UInt8) : (binOp .sub T (U8 a) (U8 b)).run P w = .ok (U8 (a - b)) w := by
 have := a.toNat_lt; have := b.toNat_lt
 simp [binOp, Op.intArith, IntKind.wrap_u8', UInt8.toNat_sub]; omega
theorem bin_geq_u8 (a b : UInt8) : (binOp .geq T (U8 a) (U8 b)).run P w = .ok (.bool (decide (b ≤ a))) w := by
 rw [binOp_geq]; simp [UInt8.le_iff_toNat_le]
theorem bin_mul_u32 (a b : UInt32) : (binOp .mul T (U32 a) (U32 b)).run P w = .ok (U32 (a * b)) w := by
 simp [binOp, Op.intArith, IntKind.wrap_u32', UInt32.toNat_mul]
theorem bin_quo_u64 (a b : UInt64) (hb : b ≠ 0) : (binOp .quo T (U64 a) (U64 b)).run P w = .ok (U64 (a / b)) w := by
 have h0 : (b.toNat : Int) ≠ 0 := by intro h; apply hb; apply UInt64.toNat_inj.1; simpa using h
 have e : ((a.toNat : Int).tdiv b.toNat) = ((a / b).toNat : Int) := by rw [UInt64.toNat_div]; rfl
 simp only [binOp, Op.intDiv, if_neg h0]
 rw [e, wrapU64]; simp
theorem bin_rem_u64 (a b : UInt64) (hb : b ≠ 0) : (binOp .rem T (U64 a) (U64 b)).run P w = .ok (U64 (a % b)) w := by
 have h0 : (b.toNat : Int) ≠ 0 := by intro h; apply hb; apply UInt64.toNat_inj.1; simpa using h
 have e : ((a.toNat : Int).tmod b.toNat) = ((a % b).toNat : Int) := by rw [UInt64.toNat_mod]; rfl
 simp only [binOp, Op.intDiv, if_neg h0]
 rw [e]; simp
theorem bin_leq_u64 (a b : UInt64) : (binOp .leq T (U64 a) (U64 b)).run P w = .ok (.bool (decide (a ≤ b))) w := by
 rw [binOp_leq]; simp [UInt64.le_iff_toNat_le]
end Go.Sx
namespace Go.Sx
open Go Go.RowKit
variable {C : Cx} {F : Frm} {L : List Ent} {ty T T' : TypeId} {x y : Operand}
theorem Ev_indexStr {s : ByteArray} {i : Int} {k : IntKind} (u : UInt8) (hu : C.P.underlying T = some .string) (hx : ev F x = some (.string s)) (hy : ev F y = some (.int k i)) (h0 : 0 ≤ i) (hv : s[i.toNat]? = some u) : Ev C F L (.index T x y) ty (U8 u) := fun a w ha _ d pos aft g => by
 simp [execOp, ha.ev hx, ha.ev hy, Instr.index, asIntOf, run_underlying hu, h0, hv]
end Go.Sx
namespace Go.Sx
open Go Go.RowKit
variable {C : Cx} {F : Frm} {L : List Ent} {Q : Exit → Act → World → Prop} {ops : Array Oper} {l : List Oper}
variable {P : Program} {w : World} {T : TypeId}
theorem bin_leq_i (x y : Int) : (binOp .leq T (I64 x) (I64 y)).run P w = .ok (.bool (decide (x ≤ y))) w := by rw [binOp_leq]; simp
theorem equal_ptr_nil_nil {t e : TypeId} (hu : P.underlying t = some (.pointer e)) : (Op.equal t (.pointer none) (.pointer none)).run P w = .ok true w := by
 unfold Op.equal Op.maxDepth
 rw [show (10000:Nat) = 9999 + 1 from rfl]
 generalize 9999 = d
 simp [Op.equalIn, run_underlying hu]
theorem eql_ptr_nil_nil {t e : TypeId} (hu : P.underlying t = some (.pointer e)) : (binOp .eql t (.pointer none) (.pointer none)).run P w = .ok (.bool true) w := eql_of (by simp [binOp]) (equal_ptr_nil_nil hu)
theorem g32_eq {l : List UInt32} {i : Nat} (h : i < l.length) : g32 l i = l[i] := by simp [g32, h]
theorem g32_set (l : List UInt32) (i j : Nat) (v : UInt32) (h : i < l.length) : g32 (l.set i v) j = if i = j then v else g32 l j := by
  simp only [g32, List.getD_eq_getElem?_getD, List.getElem?_set]
  split
  · subst j; simp
  · rfl
end Go.Sx
namespace Go.Sx
open Go Go.RowKit
set_option linter.unusedVariables false
set_option linter.unusedSimpArgs false
variable {C : Cx} {F : Frm} {L : List Ent}
theorem str_get (l : List UInt8) (i : Nat) (h : i < l.length) : (ByteArray.mk l.toArray)[i]? = some (g8 l i) := by
 have h2 : i < (ByteArray.mk l.toArray).size := by simpa [ByteArray.size] using h
 rw [getElem?_pos _ i h2]
 simp [g8, h]
 rfl
theorem Ev_indexStrL {T ty : TypeId} {x y : Operand} {i : Int} {k : IntKind} (l : List UInt8) (n : Nat) (hu : C.P.underlying T = some .string) (hx : ev F x = some (.string ⟨l.toArray⟩)) (hy : ev F y = some (.int k i)) (hi : i = n) (h : n < l.length) : Ev C F L (.index T x y) ty (U8 (g8 l n)) :=
 Ev_indexStr (g8 l n) hu hx hy (by omega) (by subst hi; rw [Int.toNat_natCast]; exact str_get l n h)
section
variable {P : Program} {w : World}
theorem neq_arr8 {T e : TypeId} {n : Nat} (hu : P.underlying T = some (.array n e)) (he : P.underlying e = some (.int .u8)) (hA : ∀ w, (isAgg e).run P w = .ok false w) (hc : P.cellsOf e = 1) (hi : (P.info? e).isSome = true) {a b : List UInt8} (ha : a.length = n) (hb : b.length = n) :
  (binOp .neq T (.agg (cu8 a).toArray) (.agg (cu8 b).toArray)).run P w = .ok (.bool (!decide (a = b))) w := neq_of (by simp [binOp]) (equal_arr8 hu he hA hc hi ha hb)
end
end Go.Sx
namespace Go.Sx
open Go Go.RowKit
set_option linter.unusedVariables false
set_option linter.unusedSimpArgs false
variable {C : Cx} {F : Frm} {L : List Ent}
theorem g8_app (a b : List UInt8) (j : Nat) : g8 (a ++ b) j = if j < a.length then g8 a j else g8 b (j - a.length) := by
 simp only [g8, List.getD_eq_getElem?_getD, List.getElem?_append]
 split <;> rfl
theorem g8_drop (l : List UInt8) (o j : Nat) : g8 (l.drop o) j = g8 l (o + j) := by
 simp [g8, List.getD_eq_getElem?_getD, List.getElem?_drop]
theorem g8_take {l : List UInt8} {n j : Nat} (h : j < n) : g8 (l.take n) j = g8 l j := by
 simp [g8, List.getD_eq_getElem?_getD, List.getElem?_take, h]
theorem g32_rep {n j : Nat} : g32 (List.replicate n (0:UInt32)) j = 0 := by
 simp only [g32, List.getD_eq_getElem?_getD, List.getElem?_replicate]; split <;> rfl
theorem ext32 {a b : List UInt32} (hl : a.length = b.length) (h : ∀ j, j < a.length → g32 a j = g32 b j) : a = b := by
 apply List.ext_getElem hl
 intro i h1 h2
 have := h i h1
 rwa [g32_eq h1, g32_eq h2] at this
end Go.Sx
namespace Go.Sx
open Go Go.RowKit
set_option linter.unusedVariables false
set_option linter.unusedSimpArgs false
variable {C : Cx} {F : Frm} {L : List Ent}
theorem g8_mid {l : List UInt8} {o n j : Nat} (h : j < n) : g8 (mid l o n) j = g8 l (o + j) := by rw [mid, g8_take h, g8_drop]
theorem g32_zr {n j : Nat} : g32 (zr32 n) j = 0 := g32_rep
end Go.Sx
namespace Go.Proofs.YtncoifiafklkjaaDoor
open Go Go.Sx
set_option linter.unusedVariables false
set_option linter.unusedSimpArgs false
def rdbl (a : UInt8) : UInt8 := if (128:UInt8) ≤ a then ((a - (128:UInt8)) * (2:UInt8)) ^^^ (27:UInt8) else a * (2:UInt8)
theorem xo_zero {f : UInt8 → UInt8} (h : Xo f) : f 0 = 0 := by
 have := h 0 0
 simpa using this
theorem u8_bits (x : UInt8) : x = (x &&& 1) ^^^ ((x &&& 2) ^^^ ((x &&& 4) ^^^ ((x &&& 8) ^^^ ((x &&& 16) ^^^ ((x &&& 32) ^^^ ((x &&& 64) ^^^ (x &&& 128))))))) := by
 revert x; apply u8_all; decide +kernel
theorem u8_bit2 (x : UInt8) : x &&& 2 = 0 ∨ x &&& 2 = 2 := by
 revert x; apply u8_all; decide +kernel
theorem u8_bit4 (x : UInt8) : x &&& 4 = 0 ∨ x &&& 4 = 4 := by
 revert x; apply u8_all; decide +kernel
theorem u8_bit8 (x : UInt8) : x &&& 8 = 0 ∨ x &&& 8 = 8 := by
 revert x; apply u8_all; decide +kernel
theorem u8_bit16 (x : UInt8) : x &&& 16 = 0 ∨ x &&& 16 = 16 := by
 revert x; apply u8_all; decide +kernel
theorem u8_bit32 (x : UInt8) : x &&& 32 = 0 ∨ x &&& 32 = 32 := by
 revert x; apply u8_all; decide +kernel
theorem u8_bit64 (x : UInt8) : x &&& 64 = 0 ∨ x &&& 64 = 64 := by
 revert x; apply u8_all; decide +kernel
theorem u8_bit128 (x : UInt8) : x &&& 128 = 0 ∨ x &&& 128 = 128 := by
 revert x; apply u8_all; decide +kernel
theorem xo_bit {f g : UInt8 → UInt8} (hf : Xo f) (hg : Xo g) {b y : UInt8} (h : f b = g b) (hy : y = 0 ∨ y = b) : f y = g y := by
  rcases hy with rfl | rfl
  · rw [xo_zero hf, xo_zero hg]
  · exact h
theorem xo_ext {f g : UInt8 → UInt8} (hf : Xo f) (hg : Xo g) (h : f 1 = g 1 ∧ f 2 = g 2 ∧ f 4 = g 4 ∧ f 8 = g 8 ∧ f 16 = g 16 ∧ f 32 = g 32 ∧ f 64 = g 64 ∧ f 128 = g 128) (x : UInt8) : f x = g x := by
 obtain ⟨h1, h2, h3, h4, h5, h6, h7, h8⟩ := h
 rw [u8_bits x]
 simp only [hf, hg, hf _ _, hg _ _]
 rw [xo_bit hf hg h1 (u8_bit1 x), xo_bit hf hg h2 (u8_bit2 x), xo_bit hf hg h3 (u8_bit4 x), xo_bit hf hg h4 (u8_bit8 x), xo_bit hf hg h5 (u8_bit16 x), xo_bit hf hg h6 (u8_bit32 x), xo_bit hf hg h7 (u8_bit64 x), xo_bit hf hg h8 (u8_bit128 x)]
theorem shr7 (x : UInt8) : x >>> (7:UInt8) = 0 ∨ x >>> (7:UInt8) = 1 := by
 revert x; apply u8_all; decide +kernel
theorem xor_shl (x y k : UInt8) : (x ^^^ y) <<< k = (x <<< k) ^^^ (y <<< k) := by
 apply UInt8.eq_of_toBitVec_eq; simp [BitVec.shiftLeft_xor_distrib]
theorem dbl_xo : Xo dbl := by
 intro x y
 unfold dbl
 rw [xor_shl, xor_shr]
 have e : (27:UInt8) * ((x >>> (7:UInt8)) ^^^ (y >>> (7:UInt8))) = (27 * (x >>> (7:UInt8))) ^^^ (27 * (y >>> (7:UInt8))) := by
  rcases shr7 x with h | h <;> rcases shr7 y with k | k <;> rw [h, k] <;> decide
 rw [e, xx4]
theorem mulbit_l (a a' t : UInt8) : (a ^^^ a') * (t &&& 1) = (a * (t &&& 1)) ^^^ (a' * (t &&& 1)) := by
 rcases u8_bit1 t with h | h <;> rw [h] <;> simp
theorem mulN_l : ∀ (n : Nat) (a a' b o o' : UInt8), mulN n (a ^^^ a') b (o ^^^ o') = mulN n a b o ^^^ mulN n a' b o'
 | 0, _, _, _, _, _ => rfl
 | n + 1, a, a', b, o, o' => by
  simp only [mulN]
  rw [mulbit_l, xx4, dbl_xo, mulN_l]
theorem gmul_l (b : UInt8) : Xo (fun a => gmul a b) := fun x y => by
 have := mulN_l 8 x y b 0 0
 simpa [gmul] using this
theorem rdbl_eq (a : UInt8) : rdbl a = dbl a := by
 revert a; apply u8_all; decide +kernel
theorem gmul_comm (a b : UInt8) : gmul a b = gmul b a := by
 refine xo_ext (f := fun a => gmul a b) (g := fun a => gmul b a) (gmul_l b) (gmul_r b) ?_ a
 refine ⟨?_, ?_, ?_, ?_, ?_, ?_, ?_, ?_⟩ <;> exact xo_ext (gmul_r _) (gmul_l _) (by decide +kernel) b
theorem gmul_one (a : UInt8) : gmul a 1 = a := by revert a; apply u8_all; decide +kernel
theorem one_gmul (a : UInt8) : gmul 1 a = a := by rw [gmul_comm, gmul_one]
end Go.Proofs.YtncoifiafklkjaaDoor
namespace Go.Proofs.YtncoifiafklkjaaDoor
open Go Go.Sx
set_option linter.unusedVariables false
set_option linter.unusedSimpArgs false
theorem rdouble_c (a : UInt8) (w : World) : Calls Tryd.prog 135 #[U8 a] w (Post w [] (fun v L => v = U8 (rdbl a) ∧ L = [])) := by
 refine enter w [] 11 [] [U8 a] Tryd.func135 rfl rfl (by simp) (Hp.start (by simp) (by simp) (by simp)) ?_
 show JC _ _ _ [(0, U8 a)] _
 refine JC_seq ?_
 refine JC_region ?_
 refine JL_val _ (Ev_assign rfl) rfl ?_
 refine JL_nil ?_
 refine JQ_then ?_
 refine JC_seq ?_
 refine JC_seq ?_
 refine JC_region ?_
 refine JL_val _ (Ev_move rfl) rfl ?_
 refine JL_val (.bool (decide ((128:UInt8) ≤ a))) (Ev_bini rfl rfl fun _ => bin_geq_u8 a (128:UInt8)) rfl ?_
 refine JL_nil ?_
 refine JQ_then ?_
 refine JC_cond (decide ((128:UInt8) ≤ a)) rfl (fun hb1 => ?_) (fun hb1 => ?_)
 ·
  have hp1 : (128:UInt8) ≤ a := of_decide_eq_true hb1
  refine JC_seq ?_
  refine JC_region ?_
  refine JL_val _ (Ev_move rfl) rfl ?_
  refine JL_val (U8 (a - (128:UInt8))) (Ev_bini rfl rfl fun _ => bin_sub_u8 a (128:UInt8)) rfl ?_
  refine JL_val (U8 ((a - (128:UInt8)) * (2:UInt8))) (Ev_bini rfl rfl fun _ => bin_mul_u8 (a - (128:UInt8)) (2:UInt8)) rfl ?_
  refine JL_val (U8 (((a - (128:UInt8)) * (2:UInt8)) ^^^ (27:UInt8))) (Ev_bini rfl rfl fun _ => bin_xor_u8 ((a - (128:UInt8)) * (2:UInt8)) (27:UInt8)) rfl ?_
  refine JL_val _ (Ev_assign rfl) rfl ?_
  refine JL_nil ?_
  refine JQ_then ?_
  refine JC_ret ?_
  refine JQ_then_ret ?_
  refine JQ_ret (U8 (((a - (128:UInt8)) * (2:UInt8)) ^^^ (27:UInt8))) (res1 Tryd.results135 (RV_tmp rfl)) fun w1 hw1 => ?_
  exact ⟨_, [], rfl, ⟨by simp [rdbl, hp1], rfl⟩, hw1.sub (by simp) (by simp)⟩
 ·
  have hp1 : ¬ ((128:UInt8) ≤ a) := of_decide_eq_false hb1
  refine JC_skip ?_
  refine JQ_then ?_
  refine JC_seq ?_
  refine JC_region ?_
  refine JL_val _ (Ev_move rfl) rfl ?_
  refine JL_val (U8 (a * (2:UInt8))) (Ev_bini rfl rfl fun _ => bin_mul_u8 a (2:UInt8)) rfl ?_
  refine JL_val _ (Ev_assign rfl) rfl ?_
  refine JL_nil ?_
  refine JQ_then ?_
  refine JC_ret ?_
  refine JQ_ret (U8 (a * (2:UInt8))) (res1 Tryd.results135 (RV_tmp rfl)) fun w1 hw1 => ?_
  exact ⟨_, [], rfl, ⟨by simp [rdbl, hp1], rfl⟩, hw1.sub (by simp) (by simp)⟩
end Go.Proofs.YtncoifiafklkjaaDoor
namespace Go.Sx
open Go Go.RowKit
set_option linter.unusedVariables false
variable {C : Cx} {F : Frm} {L : List Ent} {ty T T' : TypeId} {x y : Operand}
theorem ofN_i {X : Nat} (h : X < 18446744073709551616) : ((UInt64.ofNat X).toNat : Int) = X := by rw [UInt64.toNat_ofNat', Nat.mod_eq_of_lt (by omega)]
end Go.Sx
namespace Go.Proofs.YtncoifiafklkjaaDoor
open Go Go.Sx
set_option maxRecDepth 4000
def subsL : List UInt8 := [99, 124, 119, 123, 242, 107, 111, 197, 48, 1, 103, 43, 254, 215, 171, 118, 202, 130, 201, 125, 250, 89, 71, 240, 173, 212, 162, 175, 156, 164, 114, 192, 183, 253, 147, 38, 54, 63, 247, 204, 52, 165, 229, 241, 113, 216, 49, 21, 4, 199, 35, 195, 24, 150, 5, 154, 7, 18, 128, 226, 235, 39, 178, 117, 9, 131, 44, 26, 27, 110, 90, 160, 82, 59, 214, 179, 41, 227, 47, 132, 83, 209, 0, 237, 32, 252, 177, 91, 106, 203, 190, 57, 74, 76, 88, 207, 208, 239, 170, 251, 67, 77, 51, 133, 69, 249, 2, 127, 80, 60, 159, 168, 81, 163, 64, 143, 146, 157, 56, 245, 188, 182, 218, 33, 16, 255, 243, 210, 205, 12, 19, 236, 95, 151, 68, 23, 196, 167, 126, 61, 100, 93, 25, 115, 96, 129, 79, 220, 34, 42, 144, 136, 70, 238, 184, 20, 222, 94, 11, 219, 224, 50, 58, 10, 73, 6, 36, 92, 194, 211, 172, 98, 145, 149, 228, 121, 231, 200, 55, 109, 141, 213, 78, 169, 108, 86, 244, 234, 101, 122, 174, 8, 186, 120, 37, 46, 28, 166, 180, 198, 232, 221, 116, 31, 75, 189, 139, 138, 112, 62, 181, 102, 72, 3, 246, 14, 97, 53, 87, 185, 134, 193, 29, 158, 225, 248, 152, 17, 105, 217, 142, 148, 155, 30, 135, 233, 206, 85, 40, 223, 140, 161, 137, 13, 191, 230, 66, 104, 65, 153, 45, 15, 176, 84, 187, 22]
theorem subsL_len : subsL.length = 256 := by decide +kernel
theorem subs_subst (a : UInt8) : g8 subsL a.toNat = subst1 a := by revert a; apply u8_all; decide +kernel
end Go.Proofs.YtncoifiafklkjaaDoor
namespace Go.Proofs.YtncoifiafklkjaaDoor
open Go Go.Sx
set_option linter.unusedVariables false
set_option linter.unusedSimpArgs false
set_option maxRecDepth 100000
def rIn (w : List UInt8) (i : Nat) (t : List UInt8) : Nat → List UInt8
 | 0 => w
 | k + 1 => rIn w i t k ++ [g8 (rIn w i t k) (4*i + k - 16) ^^^ g8 t k]
def rStep (i : Nat) (p : UInt8 × List UInt8) : UInt8 × List UInt8 :=
 if i % 4 = 0 then (rdbl p.1, rIn p.2 i [g8 subsL (g8 p.2 (4*i - 3)).toNat ^^^ p.1, g8 subsL (g8 p.2 (4*i - 2)).toNat, g8 subsL (g8 p.2 (4*i - 1)).toNat, g8 subsL (g8 p.2 (4*i - 4)).toNat] 4)
 else (p.1, rIn p.2 i [g8 p.2 (4*i - 4), g8 p.2 (4*i - 3), g8 p.2 (4*i - 2), g8 p.2 (4*i - 1)] 4)
def rN (key : List UInt8) : Nat → UInt8 × List UInt8
 | 0 => (1, key)
 | m + 1 => rStep (m + 4) (rN key m)
def rkeysL (key : List UInt8) : List UInt8 := (rN key 40).2
def raddN (ks : List UInt8) (n : Nat) (b : List UInt8) : Nat → List UInt8
 | 0 => b
 | k + 1 => (raddN ks n b k).set k (g8 (raddN ks n b k) k ^^^ g8 ks (k + 16*n))
def raddL (ks : List UInt8) (n : Nat) (b : List UInt8) : List UInt8 := raddN ks n b 16
theorem raddN_len (ks : List UInt8) (n : Nat) (b : List UInt8) : ∀ k, (raddN ks n b k).length = b.length
 | 0 => rfl
 | k + 1 => by simp [raddN, raddN_len ks n b k]
theorem raddL_len {ks : List UInt8} {n : Nat} {b : List UInt8} (h : b.length = 16) : (raddL ks n b).length = 16 := by rw [raddL, raddN_len, h]
def rshIn (s t : List UInt8) (c : Nat) : Nat → List UInt8
 | 0 => t
 | r + 1 => (rshIn s t c r).set (4*c + r) (g8 subsL (g8 s (4*((c + r) % 4) + r)).toNat)
def rshN (s : List UInt8) : Nat → List UInt8
 | 0 => zr8 16
 | c + 1 => rshIn s (rshN s c) c 4
def rmxN (t : List UInt8) : Nat → List UInt8
 | 0 => t
 | d + 1 =>
  let p := g8 t (4*d); let q := g8 t (4*d + 1); let u := g8 t (4*d + 2); let v := g8 t (4*d + 3)
  ((((rmxN t d).set (4*d) ((((rdbl p ^^^ rdbl q) ^^^ q) ^^^ u) ^^^ v)).set (4*d + 1) ((((p ^^^ rdbl q) ^^^ rdbl u) ^^^ u) ^^^ v)).set (4*d + 2) ((((p ^^^ q) ^^^ rdbl u) ^^^ rdbl v) ^^^ v)).set (4*d + 3) ((((rdbl p ^^^ p) ^^^ q) ^^^ u) ^^^ rdbl v)
def rRound (ks : List UInt8) (n : Nat) (s : List UInt8) : List UInt8 :=
 if n < 10 then raddL ks n (rmxN (rshN s 4) 4) else raddL ks n (rshN s 4)
def rencN (ks b : List UInt8) : Nat → List UInt8
 | 0 => raddL ks 0 b
 | n + 1 => rRound ks (n + 1) (rencN ks b n)
def rencL (ks b : List UInt8) : List UInt8 := rencN ks b 10
attribute [local irreducible] mid zr8 rkeysL raddL rmxN rshN rshIn
theorem rkeys_c (key : List UInt8) (w : World) (hk : key.length = 16) : Calls Tryd.prog 127 #[.agg (cu8 key).toArray] w (Post w [] (fun v L => ∃ g sp cap, 176 ≤ cap ∧ sp.length = cap - 176 ∧ v = Slc g 0 176 cap ∧ L = [⟨g, cu8 (rkeysL key) ++ sp, 5, (0, 0)⟩])) := by
 refine enter w [] 85 [] [.agg (cu8 key).toArray] Tryd.func127 rfl rfl (by simp) (Hp.start (by simp) (by simp) (by simp)) ?_
 show JC _ _ _ [(0, .agg (cu8 key).toArray)] _
 refine JC_seq ?_
 refine JC_region ?_
 refine JL_step (Step_box (.agg (cu8 key).toArray) (cu8 key) rfl (by first | rfl | simp)) rfl ?_
 rintro v1 L1 ⟨nb1, hnb1, rfl, rfl⟩
 show JL _ _ _ _ ((1, Ptr nb1 0) :: _) [⟨nb1, cu8 key, 55, (0, 0)⟩]
 refine JL_val _ (Ev_assign rfl) rfl ?_
 refine JL_nil ?_
 refine JQ_then ?_
 refine JC_seq ?_
 refine JC_region ?_
 refine JL_step (Step_buildSlice0 5 1 Tryd.underlying22 Tryd.sizeOf5) rfl ?_
 rintro v1 L1 ⟨nb2, hnb2, rfl, rfl⟩
 show JL _ _ _ _ ((8, Slc nb2 0 0 0) :: _) [⟨nb1, cu8 key, 55, (0, 0)⟩, ⟨nb2, [], 5, (0, 0)⟩]
 refine JL_val (Slc nb1 0 16 16) (Ev_sliceA 16 5 1 0 16 0 16 Tryd.underlying55 Tryd.sizeOf5 rfl rfl rfl (by omega) (by omega) (by omega) (by omega) (by omega) 16 (by omega)) rfl ?_
 refine JL_step (Step_appM8 22 5 [false, true] (Slc nb2 0 0 0) 0 ([] : List UInt8) key (some ⟨nb1, 0, none⟩) 16 16 16 Tryd.underlying22 Tryd.info5 rfl (.inr ⟨nb2, [], 0, rfl, (by simp [take?, cu8, cu32, cu64]), rfl, (by simp), (by omega), (by unfold maxLen; omega)⟩) rfl (by first | exact hk | simp [hk]; try omega) (SrcAt.mem (MemAt.ent 0 rfl (Seg.whole _))) (by omega) (by unfold maxLen; omega) (by omega)) rfl ?_
 rintro v1 L1 ⟨nb3, sp1, cp1, hg1, rfl, rfl, ha1, ha2, ha3, ha4⟩
 show JL _ _ _ _ ((10, Slc nb3 0 16 cp1) :: _) [⟨nb1, cu8 key, 55, (0, 0)⟩, ⟨nb3, cu8 (([] : List UInt8) ++ key) ++ sp1, 5, (0, 0)⟩]
 refine JL_val _ (Ev_assign rfl) rfl ?_
 refine JL_nil ?_
 refine JQ_then ?_
 refine JC_seq ?_
 refine JC_region ?_
 refine JL_val _ (Ev_assign rfl) rfl ?_
 refine JL_nil ?_
 refine JQ_then ?_
 refine JC_seq ?_
 refine JC_seq ?_
 refine JC_region ?_
 refine JL_val _ (Ev_assign rfl) rfl ?_
 refine JL_nil ?_
 refine JQ_then ?_
 refine JC_block ?_
 refine K_mask [false, true] ?_
 show JC _ _ _ _ [⟨nb3, cu8 (([] : List UInt8) ++ key) ++ sp1, 5, (0, 0)⟩]
 refine JC_loop (ι := Nat × UInt8 × List UInt8 × Nat × List Value × Nat) (fun ⟨i, f, ww, g0, sp0, cp0⟩ => [(2, .slice none 0 0), (3, Slc g0 0 (4*i) cp0), (4, U8 f), (5, I64 ((i:Int)))]) (fun ⟨i, f, ww, g0, sp0, cp0⟩ => [⟨g0, cu8 ww ++ sp0, 5, (0, 0)⟩]) (fun ⟨i, f, ww, g0, sp0, cp0⟩ => 4 ≤ i ∧ i ≤ 44 ∧ (f, ww) = rN key (i - 4) ∧ ww.length = 4*i ∧ sp0.length = cp0 - 4*i ∧ 4*i ≤ cp0 ∧ cp0 ≤ maxLen) (fun ⟨i, f, ww, g0, sp0, cp0⟩ => 44 - i) (4, 1, [] ++ key, nb3, sp1, cp1) ⟨by omega, by omega, rfl, ha1, ha2, ha3, ha4⟩ (Sub.cons rfl (Sub.cons rfl (Sub.cons rfl (Sub.cons rfl (Sub.nil))))) rfl ?_
 rintro ⟨i, f, ww, g0, sp0, cp0⟩ ⟨hx1, hx2, hx3, hx4, hx5, hx6, hx7⟩
 show JC _ _ _ [(2, .slice none 0 0), (3, Slc g0 0 (4*i) cp0), (4, U8 f), (5, I64 ((i:Int)))] [⟨g0, cu8 ww ++ sp0, 5, (0, 0)⟩]
 refine JC_seq ?_
 refine JC_seq ?_
 refine JC_region ?_
 refine JL_val _ (Ev_move rfl) rfl ?_
 refine JL_val (.bool (decide (((i:Int)) < (44:Int)))) (Ev_bini rfl rfl fun _ => bin_lss_i _ _) rfl ?_
 refine JL_nil ?_
 refine JQ_then ?_
 refine JC_cond (decide (((i:Int)) < (44:Int))) rfl (fun hb1 => ?_) (fun hb1 => ?_)
 ·
  have hp1 : ((i:Int)) < (44:Int) := of_decide_eq_true hb1
  refine JC_skip ?_
  refine JQ_then ?_
  refine JC_seq ?_
  refine JC_block ?_
  refine JC_seq ?_
  refine JC_draw 85 2 [(0, Slc g0 0 (4*i) cp0), (1, I64 ((i:Int))), (2, I64 (4*(i:Int))), (3, I64 (4*(i:Int) - 4)), (4, Ptr g0 (4*i - 4)), (5, U8 (g8 ww (4*i - 4))), (6, Slc g0 0 (4*i) cp0), (7, I64 ((i:Int))), (8, I64 (4*(i:Int))), (9, I64 (4*(i:Int) - 3)), (10, Ptr g0 (4*i - 3)), (11, U8 (g8 ww (4*i - 3))), (12, Slc g0 0 (4*i) cp0), (13, I64 ((i:Int))), (14, I64 (4*(i:Int))), (15, I64 (4*(i:Int) - 2)), (16, Ptr g0 (4*i - 2)), (17, U8 (g8 ww (4*i - 2))), (18, Slc g0 0 (4*i) cp0), (19, I64 ((i:Int))), (20, I64 (4*(i:Int))), (21, I64 (4*(i:Int) - 1)), (22, Ptr g0 (4*i - 1)), (23, U8 (g8 ww (4*i - 1)))] Tryd.mixed rfl (by decide +kernel) ?_
  refine DP_one ⟨[], [0, 1, 2, 3, 4, 5, 6, 7, 8, 9, 10, 11, 12, 13, 14, 15, 16, 17, 18, 19, 20, 21, 22, 23], [], [0, 1, 2, 3, 4, 5, 6, 7, 8, 9, 10, 11, 12, 13, 14, 15, 16, 17, 18, 19, 20, 21, 22, 23], [24]⟩ 24 _ rfl rfl (by decide +kernel) rfl ⟨⟨_, rfl, Qok_val rfl (Ev_move rfl)⟩, ⟨_, rfl, Qok_val rfl (Ev_move rfl)⟩, ⟨_, rfl, Qok_val rfl (Ev_bini rfl rfl fun _ => bin_mul_i _ _ (4*(i:Int)) (by omega) (by omega))⟩, ⟨_, rfl, Qok_val rfl (Ev_bini rfl rfl fun _ => bin_sub_i _ _ (4*(i:Int) - 4) (by omega) (by omega))⟩, ⟨_, rfl, Qok_val rfl (Ev_indexSl 5 1 (4*i - 4) Tryd.underlying22 Tryd.sizeOf5 rfl rfl (by omega) (by omega) (by omega))⟩, ⟨_, rfl, Qok_val rfl (Ev_load rfl (Ld_one Tryd.isAgg5 (MemAt.ent 0 rfl (Seg.left (Seg.get (g8_get (i := (4*i - 4)) (by rw [hx4]; omega)))))))⟩, ⟨_, rfl, Qok_val rfl (Ev_move rfl)⟩, ⟨_, rfl, Qok_val rfl (Ev_move rfl)⟩, ⟨_, rfl, Qok_val rfl (Ev_bini rfl rfl fun _ => bin_mul_i _ _ (4*(i:Int)) (by omega) (by omega))⟩, ⟨_, rfl, Qok_val rfl (Ev_bini rfl rfl fun _ => bin_sub_i _ _ (4*(i:Int) - 3) (by omega) (by omega))⟩, ⟨_, rfl, Qok_val rfl (Ev_indexSl 5 1 (4*i - 3) Tryd.underlying22 Tryd.sizeOf5 rfl rfl (by omega) (by omega) (by omega))⟩, ⟨_, rfl, Qok_val rfl (Ev_load rfl (Ld_one Tryd.isAgg5 (MemAt.ent 0 rfl (Seg.left (Seg.get (g8_get (i := (4*i - 3)) (by rw [hx4]; omega)))))))⟩, ⟨_, rfl, Qok_val rfl (Ev_move rfl)⟩, ⟨_, rfl, Qok_val rfl (Ev_move rfl)⟩, ⟨_, rfl, Qok_val rfl (Ev_bini rfl rfl fun _ => bin_mul_i _ _ (4*(i:Int)) (by omega) (by omega))⟩, ⟨_, rfl, Qok_val rfl (Ev_bini rfl rfl fun _ => bin_sub_i _ _ (4*(i:Int) - 2) (by omega) (by omega))⟩, ⟨_, rfl, Qok_val rfl (Ev_indexSl 5 1 (4*i - 2) Tryd.underlying22 Tryd.sizeOf5 rfl rfl (by omega) (by omega) (by omega))⟩, ⟨_, rfl, Qok_val rfl (Ev_load rfl (Ld_one Tryd.isAgg5 (MemAt.ent 0 rfl (Seg.left (Seg.get (g8_get (i := (4*i - 2)) (by rw [hx4]; omega)))))))⟩, ⟨_, rfl, Qok_val rfl (Ev_move rfl)⟩, ⟨_, rfl, Qok_val rfl (Ev_move rfl)⟩, ⟨_, rfl, Qok_val rfl (Ev_bini rfl rfl fun _ => bin_mul_i _ _ (4*(i:Int)) (by omega) (by omega))⟩, ⟨_, rfl, Qok_val rfl (Ev_bini rfl rfl fun _ => bin_sub_i _ _ (4*(i:Int) - 1) (by omega) (by omega))⟩, ⟨_, rfl, Qok_val rfl (Ev_indexSl 5 1 (4*i - 1) Tryd.underlying22 Tryd.sizeOf5 rfl rfl (by omega) (by omega) (by omega))⟩, ⟨_, rfl, Qok_val rfl (Ev_load rfl (Ld_one Tryd.isAgg5 (MemAt.ent 0 rfl (Seg.left (Seg.get (g8_get (i := (4*i - 1)) (by rw [hx4]; omega)))))))⟩, trivial⟩ rfl (Cok_step rfl (Step_buildSlice 5 1 _ [(0, U8 (g8 ww (4*i - 4))), (1, U8 (g8 ww (4*i - 3))), (2, U8 (g8 ww (4*i - 2))), (3, U8 (g8 ww (4*i - 1)))] (cu8 ([g8 ww (4*i - 4), g8 ww (4*i - 3), g8 ww (4*i - 2), g8 ww (4*i - 1)])) Tryd.underlying22 Tryd.sizeOf5 Tryd.zeroValue5 rfl rfl rfl (by kernel_rfl))) ?_
  rintro v1 L1 ⟨nb4, hnb4, rfl, rfl⟩
  refine ⟨[(25, Slc nb4 0 4 4)], ?_⟩
  show DP _ _ _ _ _ _ _ _ [⟨g0, cu8 ww ++ sp0, 5, (0, 0)⟩, ⟨nb4, cu8 ([g8 ww (4*i - 4), g8 ww (4*i - 3), g8 ww (4*i - 2), g8 ww (4*i - 1)]), 5, (0, 0)⟩]
  refine DP_end ⟨[24], [0, 1, 2, 3, 4, 5, 6, 7, 8, 9, 10, 11, 12, 13, 14, 15, 16, 17, 18, 19, 20, 21, 22, 23, 25], [0, 1, 2, 3, 4, 5, 6, 7, 8, 9, 10, 11, 12, 13, 14, 15, 16, 17, 18, 19, 20, 21, 22, 23], [25], []⟩ rfl rfl (by decide +kernel) rfl ⟨⟨_, rfl, Qok_val rfl (Ev_assign rfl)⟩, trivial⟩ ?_
  refine K_sub (F' := [(15, Slc g0 0 (4*i) cp0), (16, I64 ((i:Int))), (17, I64 (4*(i:Int))), (18, I64 (4*(i:Int) - 4)), (19, Ptr g0 (4*i - 4)), (20, U8 (g8 ww (4*i - 4))), (21, Slc g0 0 (4*i) cp0), (22, I64 ((i:Int))), (23, I64 (4*(i:Int))), (24, I64 (4*(i:Int) - 3)), (25, Ptr g0 (4*i - 3)), (26, U8 (g8 ww (4*i - 3))), (27, Slc g0 0 (4*i) cp0), (28, I64 ((i:Int))), (29, I64 (4*(i:Int))), (30, I64 (4*(i:Int) - 2)), (31, Ptr g0 (4*i - 2)), (32, U8 (g8 ww (4*i - 2))), (33, Slc g0 0 (4*i) cp0), (34, I64 ((i:Int))), (35, I64 (4*(i:Int))), (36, I64 (4*(i:Int) - 1)), (37, Ptr g0 (4*i - 1)), (38, U8 (g8 ww (4*i - 1))), (39, Slc nb4 0 4 4), (6, Slc nb4 0 4 4), (2, .slice none 0 0), (3, Slc g0 0 (4*i) cp0), (4, U8 f), (5, I64 ((i:Int))), (11, I64 ((i:Int))), (12, .bool (decide (((i:Int)) < (44:Int))))]) (Sub.cons (by kernel_rfl) (Sub.cons (by kernel_rfl) (Sub.cons (by kernel_rfl) (Sub.cons (by kernel_rfl) (Sub.cons (by kernel_rfl) (Sub.cons (by kernel_rfl) (Sub.cons (by kernel_rfl) (Sub.cons (by kernel_rfl) (Sub.cons (by kernel_rfl) (Sub.cons (by kernel_rfl) (Sub.cons (by kernel_rfl) (Sub.cons (by kernel_rfl) (Sub.cons (by kernel_rfl) (Sub.cons (by kernel_rfl) (Sub.cons (by kernel_rfl) (Sub.cons (by kernel_rfl) (Sub.cons (by kernel_rfl) (Sub.cons (by kernel_rfl) (Sub.cons (by kernel_rfl) (Sub.cons (by kernel_rfl) (Sub.cons (by kernel_rfl) (Sub.cons (by kernel_rfl) (Sub.cons (by kernel_rfl) (Sub.cons (by kernel_rfl) (Sub.cons (by kernel_rfl) (Sub.cons (by kernel_rfl) (Sub.cons (by kernel_rfl) (Sub.cons (by kernel_rfl) (Sub.cons (by kernel_rfl) (Sub.cons (by kernel_rfl) (Sub.cons (by kernel_rfl) (Sub.cons (by kernel_rfl) (Sub.nil))))))))))))))))))))))))))))))))) ?_
  show JQ _ _ _ [(15, Slc g0 0 (4*i) cp0), (16, I64 ((i:Int))), (17, I64 (4*(i:Int))), (18, I64 (4*(i:Int) - 4)), (19, Ptr g0 (4*i - 4)), (20, U8 (g8 ww (4*i - 4))), (21, Slc g0 0 (4*i) cp0), (22, I64 ((i:Int))), (23, I64 (4*(i:Int))), (24, I64 (4*(i:Int) - 3)), (25, Ptr g0 (4*i - 3)), (26, U8 (g8 ww (4*i - 3))), (27, Slc g0 0 (4*i) cp0), (28, I64 ((i:Int))), (29, I64 (4*(i:Int))), (30, I64 (4*(i:Int) - 2)), (31, Ptr g0 (4*i - 2)), (32, U8 (g8 ww (4*i - 2))), (33, Slc g0 0 (4*i) cp0), (34, I64 ((i:Int))), (35, I64 (4*(i:Int))), (36, I64 (4*(i:Int) - 1)), (37, Ptr g0 (4*i - 1)), (38, U8 (g8 ww (4*i - 1))), (39, Slc nb4 0 4 4), (6, Slc nb4 0 4 4), (2, .slice none 0 0), (3, Slc g0 0 (4*i) cp0), (4, U8 f), (5, I64 ((i:Int))), (11, I64 ((i:Int))), (12, .bool (decide (((i:Int)) < (44:Int))))] _
  refine JQ_then ?_
  refine JC_seq ?_
  refine JC_seq ?_
  refine JC_region ?_
  refine JL_val _ (Ev_move rfl) rfl ?_
  refine JL_val (I64 ((i % 4:Int))) (Ev_bini rfl rfl fun _ => bin_rem_i _ _ ((i % 4:Int)) (by omega) (by omega) (by omega)) rfl ?_
  refine JL_val (.bool (decide (((i % 4:Int)) = (0:Int)))) (Ev_bini rfl rfl fun _ => bin_eql_i _ _) rfl ?_
  refine JL_nil ?_
  refine JQ_then ?_
  refine JC_cond (decide (((i % 4:Int)) = (0:Int))) rfl (fun hb2 => ?_) (fun hb2 => ?_)
  ·
   have hp2 : ((i % 4:Int)) = (0:Int) := of_decide_eq_true hb2
   refine JC_seq ?_
   refine JC_draw 85 2 [(0, Slc nb4 0 4 4), (1, Ptr nb4 1), (2, U8 (g8 ([g8 ww (4*i - 4), g8 ww (4*i - 3), g8 ww (4*i - 2), g8 ww (4*i - 1)]) 1)), (3, U8 (g8 subsL ((g8 ([g8 ww (4*i - 4), g8 ww (4*i - 3), g8 ww (4*i - 2), g8 ww (4*i - 1)]) 1).toNat))), (4, U8 f), (5, U8 ((g8 subsL ((g8 ([g8 ww (4*i - 4), g8 ww (4*i - 3), g8 ww (4*i - 2), g8 ww (4*i - 1)]) 1).toNat)) ^^^ f)), (6, Slc nb4 0 4 4), (7, Ptr nb4 2), (8, U8 (g8 ([g8 ww (4*i - 4), g8 ww (4*i - 3), g8 ww (4*i - 2), g8 ww (4*i - 1)]) 2)), (9, U8 (g8 subsL ((g8 ([g8 ww (4*i - 4), g8 ww (4*i - 3), g8 ww (4*i - 2), g8 ww (4*i - 1)]) 2).toNat))), (10, Slc nb4 0 4 4), (11, Ptr nb4 3), (12, U8 (g8 ([g8 ww (4*i - 4), g8 ww (4*i - 3), g8 ww (4*i - 2), g8 ww (4*i - 1)]) 3)), (13, U8 (g8 subsL ((g8 ([g8 ww (4*i - 4), g8 ww (4*i - 3), g8 ww (4*i - 2), g8 ww (4*i - 1)]) 3).toNat))), (14, Slc nb4 0 4 4), (15, Ptr nb4 0), (16, U8 (g8 ([g8 ww (4*i - 4), g8 ww (4*i - 3), g8 ww (4*i - 2), g8 ww (4*i - 1)]) 0)), (17, U8 (g8 subsL ((g8 ([g8 ww (4*i - 4), g8 ww (4*i - 3), g8 ww (4*i - 2), g8 ww (4*i - 1)]) 0).toNat)))] Tryd.mixed rfl (by decide +kernel) ?_
   refine DP_one ⟨[], [0, 1, 2, 3, 4, 5, 6, 7, 8, 9, 10, 11, 12, 13, 14, 15, 16, 17], [], [0, 1, 2, 3, 4, 5, 6, 7, 8, 9, 10, 11, 12, 13, 14, 15, 16, 17], [18]⟩ 18 _ rfl rfl (by decide +kernel) rfl ⟨⟨_, rfl, Qok_val rfl (Ev_move rfl)⟩, ⟨_, rfl, Qok_val rfl (Ev_indexSl 5 1 1 Tryd.underlying22 Tryd.sizeOf5 rfl rfl (by omega) (by omega) (by omega))⟩, ⟨_, rfl, Qok_val rfl (Ev_load rfl (Ld_one Tryd.isAgg5 (MemAt.ent 1 rfl (Seg.get (g8_get (i := 1) (by simp <;> omega))))))⟩, ⟨_, rfl, Qok_val rfl (Ev_indexStrL subsL ((g8 ([g8 ww (4*i - 4), g8 ww (4*i - 3), g8 ww (4*i - 2), g8 ww (4*i - 1)]) 1).toNat) Tryd.underlying9 rfl rfl (by have := UInt8.toNat_lt (g8 ([g8 ww (4*i - 4), g8 ww (4*i - 3), g8 ww (4*i - 2), g8 ww (4*i - 1)]) 1); omega) (by rw [subsL_len]; have := UInt8.toNat_lt (g8 ([g8 ww (4*i - 4), g8 ww (4*i - 3), g8 ww (4*i - 2), g8 ww (4*i - 1)]) 1); omega))⟩, ⟨_, rfl, Qok_val rfl (Ev_move rfl)⟩, ⟨_, rfl, Qok_val rfl (Ev_bini rfl rfl fun _ => bin_xor_u8 (g8 subsL ((g8 ([g8 ww (4*i - 4), g8 ww (4*i - 3), g8 ww (4*i - 2), g8 ww (4*i - 1)]) 1).toNat)) f)⟩, ⟨_, rfl, Qok_val rfl (Ev_move rfl)⟩, ⟨_, rfl, Qok_val rfl (Ev_indexSl 5 1 2 Tryd.underlying22 Tryd.sizeOf5 rfl rfl (by omega) (by omega) (by omega))⟩, ⟨_, rfl, Qok_val rfl (Ev_load rfl (Ld_one Tryd.isAgg5 (MemAt.ent 1 rfl (Seg.get (g8_get (i := 2) (by simp <;> omega))))))⟩, ⟨_, rfl, Qok_val rfl (Ev_indexStrL subsL ((g8 ([g8 ww (4*i - 4), g8 ww (4*i - 3), g8 ww (4*i - 2), g8 ww (4*i - 1)]) 2).toNat) Tryd.underlying9 rfl rfl (by have := UInt8.toNat_lt (g8 ([g8 ww (4*i - 4), g8 ww (4*i - 3), g8 ww (4*i - 2), g8 ww (4*i - 1)]) 2); omega) (by rw [subsL_len]; have := UInt8.toNat_lt (g8 ([g8 ww (4*i - 4), g8 ww (4*i - 3), g8 ww (4*i - 2), g8 ww (4*i - 1)]) 2); omega))⟩, ⟨_, rfl, Qok_val rfl (Ev_move rfl)⟩, ⟨_, rfl, Qok_val rfl (Ev_indexSl 5 1 3 Tryd.underlying22 Tryd.sizeOf5 rfl rfl (by omega) (by omega) (by omega))⟩, ⟨_, rfl, Qok_val rfl (Ev_load rfl (Ld_one Tryd.isAgg5 (MemAt.ent 1 rfl (Seg.get (g8_get (i := 3) (by simp <;> omega))))))⟩, ⟨_, rfl, Qok_val rfl (Ev_indexStrL subsL ((g8 ([g8 ww (4*i - 4), g8 ww (4*i - 3), g8 ww (4*i - 2), g8 ww (4*i - 1)]) 3).toNat) Tryd.underlying9 rfl rfl (by have := UInt8.toNat_lt (g8 ([g8 ww (4*i - 4), g8 ww (4*i - 3), g8 ww (4*i - 2), g8 ww (4*i - 1)]) 3); omega) (by rw [subsL_len]; have := UInt8.toNat_lt (g8 ([g8 ww (4*i - 4), g8 ww (4*i - 3), g8 ww (4*i - 2), g8 ww (4*i - 1)]) 3); omega))⟩, ⟨_, rfl, Qok_val rfl (Ev_move rfl)⟩, ⟨_, rfl, Qok_val rfl (Ev_indexSl 5 1 0 Tryd.underlying22 Tryd.sizeOf5 rfl rfl (by omega) (by omega) (by omega))⟩, ⟨_, rfl, Qok_val rfl (Ev_load rfl (Ld_one Tryd.isAgg5 (MemAt.ent 1 rfl (Seg.get (g8_get (i := 0) (by simp <;> omega))))))⟩, ⟨_, rfl, Qok_val rfl (Ev_indexStrL subsL ((g8 ([g8 ww (4*i - 4), g8 ww (4*i - 3), g8 ww (4*i - 2), g8 ww (4*i - 1)]) 0).toNat) Tryd.underlying9 rfl rfl (by have := UInt8.toNat_lt (g8 ([g8 ww (4*i - 4), g8 ww (4*i - 3), g8 ww (4*i - 2), g8 ww (4*i - 1)]) 0); omega) (by rw [subsL_len]; have := UInt8.toNat_lt (g8 ([g8 ww (4*i - 4), g8 ww (4*i - 3), g8 ww (4*i - 2), g8 ww (4*i - 1)]) 0); omega))⟩, trivial⟩ rfl (Cok_step rfl (Step_buildSlice 5 1 _ [(0, U8 ((g8 subsL ((g8 ([g8 ww (4*i - 4), g8 ww (4*i - 3), g8 ww (4*i - 2), g8 ww (4*i - 1)]) 1).toNat)) ^^^ f)), (1, U8 (g8 subsL ((g8 ([g8 ww (4*i - 4), g8 ww (4*i - 3), g8 ww (4*i - 2), g8 ww (4*i - 1)]) 2).toNat))), (2, U8 (g8 subsL ((g8 ([g8 ww (4*i - 4), g8 ww (4*i - 3), g8 ww (4*i - 2), g8 ww (4*i - 1)]) 3).toNat))), (3, U8 (g8 subsL ((g8 ([g8 ww (4*i - 4), g8 ww (4*i - 3), g8 ww (4*i - 2), g8 ww (4*i - 1)]) 0).toNat)))] (cu8 ([(g8 subsL ((g8 ([g8 ww (4*i - 4), g8 ww (4*i - 3), g8 ww (4*i - 2), g8 ww (4*i - 1)]) 1).toNat)) ^^^ f, g8 subsL ((g8 ([g8 ww (4*i - 4), g8 ww (4*i - 3), g8 ww (4*i - 2), g8 ww (4*i - 1)]) 2).toNat), g8 subsL ((g8 ([g8 ww (4*i - 4), g8 ww (4*i - 3), g8 ww (4*i - 2), g8 ww (4*i - 1)]) 3).toNat), g8 subsL ((g8 ([g8 ww (4*i - 4), g8 ww (4*i - 3), g8 ww (4*i - 2), g8 ww (4*i - 1)]) 0).toNat)])) Tryd.underlying22 Tryd.sizeOf5 Tryd.zeroValue5 rfl rfl rfl (by kernel_rfl))) ?_
   rintro v1 L1 ⟨nb5, hnb5, rfl, rfl⟩
   refine ⟨[(19, Slc nb5 0 4 4)], ?_⟩
   show DP _ _ _ _ _ _ _ _ [⟨g0, cu8 ww ++ sp0, 5, (0, 0)⟩, ⟨nb4, cu8 ([g8 ww (4*i - 4), g8 ww (4*i - 3), g8 ww (4*i - 2), g8 ww (4*i - 1)]), 5, (0, 0)⟩, ⟨nb5, cu8 ([(g8 subsL ((g8 ([g8 ww (4*i - 4), g8 ww (4*i - 3), g8 ww (4*i - 2), g8 ww (4*i - 1)]) 1).toNat)) ^^^ f, g8 subsL ((g8 ([g8 ww (4*i - 4), g8 ww (4*i - 3), g8 ww (4*i - 2), g8 ww (4*i - 1)]) 2).toNat), g8 subsL ((g8 ([g8 ww (4*i - 4), g8 ww (4*i - 3), g8 ww (4*i - 2), g8 ww (4*i - 1)]) 3).toNat), g8 subsL ((g8 ([g8 ww (4*i - 4), g8 ww (4*i - 3), g8 ww (4*i - 2), g8 ww (4*i - 1)]) 0).toNat)]), 5, (0, 0)⟩]
   refine DP_end ⟨[18], [0, 1, 2, 3, 4, 5, 6, 7, 8, 9, 10, 11, 12, 13, 14, 15, 16, 17, 19], [0, 1, 2, 3, 4, 5, 6, 7, 8, 9, 10, 11, 12, 13, 14, 15, 16, 17], [19], []⟩ rfl rfl (by decide +kernel) rfl ⟨⟨_, rfl, Qok_val rfl (Ev_assign rfl)⟩, trivial⟩ ?_
   refine K_sub (F' := [(43, Slc nb4 0 4 4), (44, Ptr nb4 1), (45, U8 (g8 ([g8 ww (4*i - 4), g8 ww (4*i - 3), g8 ww (4*i - 2), g8 ww (4*i - 1)]) 1)), (46, U8 (g8 subsL ((g8 ([g8 ww (4*i - 4), g8 ww (4*i - 3), g8 ww (4*i - 2), g8 ww (4*i - 1)]) 1).toNat))), (47, U8 f), (48, U8 ((g8 subsL ((g8 ([g8 ww (4*i - 4), g8 ww (4*i - 3), g8 ww (4*i - 2), g8 ww (4*i - 1)]) 1).toNat)) ^^^ f)), (49, Slc nb4 0 4 4), (50, Ptr nb4 2), (51, U8 (g8 ([g8 ww (4*i - 4), g8 ww (4*i - 3), g8 ww (4*i - 2), g8 ww (4*i - 1)]) 2)), (52, U8 (g8 subsL ((g8 ([g8 ww (4*i - 4), g8 ww (4*i - 3), g8 ww (4*i - 2), g8 ww (4*i - 1)]) 2).toNat))), (53, Slc nb4 0 4 4), (54, Ptr nb4 3), (55, U8 (g8 ([g8 ww (4*i - 4), g8 ww (4*i - 3), g8 ww (4*i - 2), g8 ww (4*i - 1)]) 3)), (56, U8 (g8 subsL ((g8 ([g8 ww (4*i - 4), g8 ww (4*i - 3), g8 ww (4*i - 2), g8 ww (4*i - 1)]) 3).toNat))), (57, Slc nb4 0 4 4), (58, Ptr nb4 0), (59, U8 (g8 ([g8 ww (4*i - 4), g8 ww (4*i - 3), g8 ww (4*i - 2), g8 ww (4*i - 1)]) 0)), (60, U8 (g8 subsL ((g8 ([g8 ww (4*i - 4), g8 ww (4*i - 3), g8 ww (4*i - 2), g8 ww (4*i - 1)]) 0).toNat))), (61, Slc nb5 0 4 4), (6, Slc nb5 0 4 4), (15, Slc g0 0 (4*i) cp0), (16, I64 ((i:Int))), (17, I64 (4*(i:Int))), (18, I64 (4*(i:Int) - 4)), (19, Ptr g0 (4*i - 4)), (20, U8 (g8 ww (4*i - 4))), (21, Slc g0 0 (4*i) cp0), (22, I64 ((i:Int))), (23, I64 (4*(i:Int))), (24, I64 (4*(i:Int) - 3)), (25, Ptr g0 (4*i - 3)), (26, U8 (g8 ww (4*i - 3))), (27, Slc g0 0 (4*i) cp0), (28, I64 ((i:Int))), (29, I64 (4*(i:Int))), (30, I64 (4*(i:Int) - 2)), (31, Ptr g0 (4*i - 2)), (32, U8 (g8 ww (4*i - 2))), (33, Slc g0 0 (4*i) cp0), (34, I64 ((i:Int))), (35, I64 (4*(i:Int))), (36, I64 (4*(i:Int) - 1)), (37, Ptr g0 (4*i - 1)), (38, U8 (g8 ww (4*i - 1))), (39, Slc nb4 0 4 4), (2, .slice none 0 0), (3, Slc g0 0 (4*i) cp0), (4, U8 f), (5, I64 ((i:Int))), (11, I64 ((i:Int))), (12, .bool (decide (((i:Int)) < (44:Int)))), (40, I64 ((i:Int))), (41, I64 ((i % 4:Int))), (42, .bool (decide (((i % 4:Int)) = (0:Int))))]) (Sub.cons (by kernel_rfl) (Sub.cons (by kernel_rfl) (Sub.cons (by kernel_rfl) (Sub.cons (by kernel_rfl) (Sub.cons (by kernel_rfl) (Sub.cons (by kernel_rfl) (Sub.cons (by kernel_rfl) (Sub.cons (by kernel_rfl) (Sub.cons (by kernel_rfl) (Sub.cons (by kernel_rfl) (Sub.cons (by kernel_rfl) (Sub.cons (by kernel_rfl) (Sub.cons (by kernel_rfl) (Sub.cons (by kernel_rfl) (Sub.cons (by kernel_rfl) (Sub.cons (by kernel_rfl) (Sub.cons (by kernel_rfl) (Sub.cons (by kernel_rfl) (Sub.cons (by kernel_rfl) (Sub.cons (by kernel_rfl) (Sub.cons (by kernel_rfl) (Sub.cons (by kernel_rfl) (Sub.cons (by kernel_rfl) (Sub.cons (by kernel_rfl) (Sub.cons (by kernel_rfl) (Sub.cons (by kernel_rfl) (Sub.cons (by kernel_rfl) (Sub.cons (by kernel_rfl) (Sub.cons (by kernel_rfl) (Sub.cons (by kernel_rfl) (Sub.cons (by kernel_rfl) (Sub.cons (by kernel_rfl) (Sub.cons (by kernel_rfl) (Sub.cons (by kernel_rfl) (Sub.cons (by kernel_rfl) (Sub.cons (by kernel_rfl) (Sub.cons (by kernel_rfl) (Sub.cons (by kernel_rfl) (Sub.cons (by kernel_rfl) (Sub.cons (by kernel_rfl) (Sub.cons (by kernel_rfl) (Sub.cons (by kernel_rfl) (Sub.cons (by kernel_rfl) (Sub.cons (by kernel_rfl) (Sub.cons (by kernel_rfl) (Sub.cons (by kernel_rfl) (Sub.cons (by kernel_rfl) (Sub.cons (by kernel_rfl) (Sub.cons (by kernel_rfl) (Sub.cons (by kernel_rfl) (Sub.cons (by kernel_rfl) (Sub.cons (by kernel_rfl) (Sub.cons (by kernel_rfl) (Sub.cons (by kernel_rfl) (Sub.nil))))))))))))))))))))))))))))))))))))))))))))))))))))))) ?_
   show JQ _ _ _ [(43, Slc nb4 0 4 4), (44, Ptr nb4 1), (45, U8 (g8 ([g8 ww (4*i - 4), g8 ww (4*i - 3), g8 ww (4*i - 2), g8 ww (4*i - 1)]) 1)), (46, U8 (g8 subsL ((g8 ([g8 ww (4*i - 4), g8 ww (4*i - 3), g8 ww (4*i - 2), g8 ww (4*i - 1)]) 1).toNat))), (47, U8 f), (48, U8 ((g8 subsL ((g8 ([g8 ww (4*i - 4), g8 ww (4*i - 3), g8 ww (4*i - 2), g8 ww (4*i - 1)]) 1).toNat)) ^^^ f)), (49, Slc nb4 0 4 4), (50, Ptr nb4 2), (51, U8 (g8 ([g8 ww (4*i - 4), g8 ww (4*i - 3), g8 ww (4*i - 2), g8 ww (4*i - 1)]) 2)), (52, U8 (g8 subsL ((g8 ([g8 ww (4*i - 4), g8 ww (4*i - 3), g8 ww (4*i - 2), g8 ww (4*i - 1)]) 2).toNat))), (53, Slc nb4 0 4 4), (54, Ptr nb4 3), (55, U8 (g8 ([g8 ww (4*i - 4), g8 ww (4*i - 3), g8 ww (4*i - 2), g8 ww (4*i - 1)]) 3)), (56, U8 (g8 subsL ((g8 ([g8 ww (4*i - 4), g8 ww (4*i - 3), g8 ww (4*i - 2), g8 ww (4*i - 1)]) 3).toNat))), (57, Slc nb4 0 4 4), (58, Ptr nb4 0), (59, U8 (g8 ([g8 ww (4*i - 4), g8 ww (4*i - 3), g8 ww (4*i - 2), g8 ww (4*i - 1)]) 0)), (60, U8 (g8 subsL ((g8 ([g8 ww (4*i - 4), g8 ww (4*i - 3), g8 ww (4*i - 2), g8 ww (4*i - 1)]) 0).toNat))), (61, Slc nb5 0 4 4), (6, Slc nb5 0 4 4), (15, Slc g0 0 (4*i) cp0), (16, I64 ((i:Int))), (17, I64 (4*(i:Int))), (18, I64 (4*(i:Int) - 4)), (19, Ptr g0 (4*i - 4)), (20, U8 (g8 ww (4*i - 4))), (21, Slc g0 0 (4*i) cp0), (22, I64 ((i:Int))), (23, I64 (4*(i:Int))), (24, I64 (4*(i:Int) - 3)), (25, Ptr g0 (4*i - 3)), (26, U8 (g8 ww (4*i - 3))), (27, Slc g0 0 (4*i) cp0), (28, I64 ((i:Int))), (29, I64 (4*(i:Int))), (30, I64 (4*(i:Int) - 2)), (31, Ptr g0 (4*i - 2)), (32, U8 (g8 ww (4*i - 2))), (33, Slc g0 0 (4*i) cp0), (34, I64 ((i:Int))), (35, I64 (4*(i:Int))), (36, I64 (4*(i:Int) - 1)), (37, Ptr g0 (4*i - 1)), (38, U8 (g8 ww (4*i - 1))), (39, Slc nb4 0 4 4), (2, .slice none 0 0), (3, Slc g0 0 (4*i) cp0), (4, U8 f), (5, I64 ((i:Int))), (11, I64 ((i:Int))), (12, .bool (decide (((i:Int)) < (44:Int)))), (40, I64 ((i:Int))), (41, I64 ((i % 4:Int))), (42, .bool (decide (((i % 4:Int)) = (0:Int))))] _
   refine JQ_then ?_
   refine JC_region ?_
   refine JL_val _ (Ev_move rfl) rfl ?_
   refine JL_step (Step_callP 135 [U8 f] (U8 (rdbl f)) (Cl_func [U8 f] Tryd.call135 rfl) (fun w1 _ => rdouble_c f w1)) rfl ?_
   rintro v1 L1 ⟨rfl, rfl⟩
   show JL _ _ _ _ ((63, U8 (rdbl f)) :: _) [⟨g0, cu8 ww ++ sp0, 5, (0, 0)⟩, ⟨nb4, cu8 ([g8 ww (4*i - 4), g8 ww (4*i - 3), g8 ww (4*i - 2), g8 ww (4*i - 1)]), 5, (0, 0)⟩, ⟨nb5, cu8 ([(g8 subsL ((g8 ([g8 ww (4*i - 4), g8 ww (4*i - 3), g8 ww (4*i - 2), g8 ww (4*i - 1)]) 1).toNat)) ^^^ f, g8 subsL ((g8 ([g8 ww (4*i - 4), g8 ww (4*i - 3), g8 ww (4*i - 2), g8 ww (4*i - 1)]) 2).toNat), g8 subsL ((g8 ([g8 ww (4*i - 4), g8 ww (4*i - 3), g8 ww (4*i - 2), g8 ww (4*i - 1)]) 3).toNat), g8 subsL ((g8 ([g8 ww (4*i - 4), g8 ww (4*i - 3), g8 ww (4*i - 2), g8 ww (4*i - 1)]) 0).toNat)]), 5, (0, 0)⟩]
   refine JL_val _ (Ev_assign rfl) rfl ?_
   refine JL_nil ?_
   refine JQ_then ?_
   refine JC_seq ?_
   refine JC_region ?_
   refine JL_val _ (Ev_assign rfl) rfl ?_
   refine JL_nil ?_
   refine JQ_then ?_
   refine JC_block ?_
   refine K_pick [2, 0] (by decide) ?_
   show JC _ _ _ _ [⟨nb5, cu8 ([(g8 subsL ((g8 ([g8 ww (4*i - 4), g8 ww (4*i - 3), g8 ww (4*i - 2), g8 ww (4*i - 1)]) 1).toNat)) ^^^ f, g8 subsL ((g8 ([g8 ww (4*i - 4), g8 ww (4*i - 3), g8 ww (4*i - 2), g8 ww (4*i - 1)]) 2).toNat), g8 subsL ((g8 ([g8 ww (4*i - 4), g8 ww (4*i - 3), g8 ww (4*i - 2), g8 ww (4*i - 1)]) 3).toNat), g8 subsL ((g8 ([g8 ww (4*i - 4), g8 ww (4*i - 3), g8 ww (4*i - 2), g8 ww (4*i - 1)]) 0).toNat)]), 5, (0, 0)⟩, ⟨g0, cu8 ww ++ sp0, 5, (0, 0)⟩]
   refine JC_loop (ι := Nat × List UInt8 × Nat × List Value × Nat) (fun ⟨j, u, g1, sp1, cp1⟩ => [(2, .slice none 0 0), (4, U8 (rdbl f)), (5, I64 ((i:Int))), (6, Slc nb5 0 4 4), (11, I64 ((i:Int))), (12, .bool (decide (((i:Int)) < (44:Int)))), (15, Slc g0 0 (4*i) cp0), (16, I64 ((i:Int))), (17, I64 (4*(i:Int))), (18, I64 (4*(i:Int) - 4)), (19, Ptr g0 (4*i - 4)), (20, U8 (g8 ww (4*i - 4))), (21, Slc g0 0 (4*i) cp0), (22, I64 ((i:Int))), (23, I64 (4*(i:Int))), (24, I64 (4*(i:Int) - 3)), (25, Ptr g0 (4*i - 3)), (26, U8 (g8 ww (4*i - 3))), (27, Slc g0 0 (4*i) cp0), (28, I64 ((i:Int))), (29, I64 (4*(i:Int))), (30, I64 (4*(i:Int) - 2)), (31, Ptr g0 (4*i - 2)), (32, U8 (g8 ww (4*i - 2))), (33, Slc g0 0 (4*i) cp0), (34, I64 ((i:Int))), (35, I64 (4*(i:Int))), (36, I64 (4*(i:Int) - 1)), (37, Ptr g0 (4*i - 1)), (38, U8 (g8 ww (4*i - 1))), (39, Slc nb4 0 4 4), (40, I64 ((i:Int))), (41, I64 ((i % 4:Int))), (42, .bool (decide (((i % 4:Int)) = (0:Int)))), (43, Slc nb4 0 4 4), (44, Ptr nb4 1), (45, U8 (g8 ([g8 ww (4*i - 4), g8 ww (4*i - 3), g8 ww (4*i - 2), g8 ww (4*i - 1)]) 1)), (46, U8 (g8 subsL ((g8 ([g8 ww (4*i - 4), g8 ww (4*i - 3), g8 ww (4*i - 2), g8 ww (4*i - 1)]) 1).toNat))), (47, U8 f), (48, U8 ((g8 subsL ((g8 ([g8 ww (4*i - 4), g8 ww (4*i - 3), g8 ww (4*i - 2), g8 ww (4*i - 1)]) 1).toNat)) ^^^ f)), (49, Slc nb4 0 4 4), (50, Ptr nb4 2), (51, U8 (g8 ([g8 ww (4*i - 4), g8 ww (4*i - 3), g8 ww (4*i - 2), g8 ww (4*i - 1)]) 2)), (52, U8 (g8 subsL ((g8 ([g8 ww (4*i - 4), g8 ww (4*i - 3), g8 ww (4*i - 2), g8 ww (4*i - 1)]) 2).toNat))), (53, Slc nb4 0 4 4), (54, Ptr nb4 3), (55, U8 (g8 ([g8 ww (4*i - 4), g8 ww (4*i - 3), g8 ww (4*i - 2), g8 ww (4*i - 1)]) 3)), (56, U8 (g8 subsL ((g8 ([g8 ww (4*i - 4), g8 ww (4*i - 3), g8 ww (4*i - 2), g8 ww (4*i - 1)]) 3).toNat))), (57, Slc nb4 0 4 4), (58, Ptr nb4 0), (59, U8 (g8 ([g8 ww (4*i - 4), g8 ww (4*i - 3), g8 ww (4*i - 2), g8 ww (4*i - 1)]) 0)), (60, U8 (g8 subsL ((g8 ([g8 ww (4*i - 4), g8 ww (4*i - 3), g8 ww (4*i - 2), g8 ww (4*i - 1)]) 0).toNat))), (61, Slc nb5 0 4 4), (62, U8 f), (63, U8 (rdbl f)), (3, Slc g1 0 (4*i + j) cp1), (7, I64 ((j:Int)))]) (fun ⟨j, u, g1, sp1, cp1⟩ => [⟨nb5, cu8 ([(g8 subsL ((g8 ([g8 ww (4*i - 4), g8 ww (4*i - 3), g8 ww (4*i - 2), g8 ww (4*i - 1)]) 1).toNat)) ^^^ f, g8 subsL ((g8 ([g8 ww (4*i - 4), g8 ww (4*i - 3), g8 ww (4*i - 2), g8 ww (4*i - 1)]) 2).toNat), g8 subsL ((g8 ([g8 ww (4*i - 4), g8 ww (4*i - 3), g8 ww (4*i - 2), g8 ww (4*i - 1)]) 3).toNat), g8 subsL ((g8 ([g8 ww (4*i - 4), g8 ww (4*i - 3), g8 ww (4*i - 2), g8 ww (4*i - 1)]) 0).toNat)]), 5, (0, 0)⟩, ⟨g1, cu8 u ++ sp1, 5, (0, 0)⟩]) (fun ⟨j, u, g1, sp1, cp1⟩ => j ≤ 4 ∧ u = rIn ww i ([(g8 subsL ((g8 ([g8 ww (4*i - 4), g8 ww (4*i - 3), g8 ww (4*i - 2), g8 ww (4*i - 1)]) 1).toNat)) ^^^ f, g8 subsL ((g8 ([g8 ww (4*i - 4), g8 ww (4*i - 3), g8 ww (4*i - 2), g8 ww (4*i - 1)]) 2).toNat), g8 subsL ((g8 ([g8 ww (4*i - 4), g8 ww (4*i - 3), g8 ww (4*i - 2), g8 ww (4*i - 1)]) 3).toNat), g8 subsL ((g8 ([g8 ww (4*i - 4), g8 ww (4*i - 3), g8 ww (4*i - 2), g8 ww (4*i - 1)]) 0).toNat)]) j ∧ u.length = 4*i + j ∧ sp1.length = cp1 - (4*i + j) ∧ 4*i + j ≤ cp1 ∧ cp1 ≤ maxLen) (fun ⟨j, u, g1, sp1, cp1⟩ => 4 - j) (0, ww, g0, sp0, cp0) ⟨by omega, rfl, by omega, by omega, by omega, hx7⟩ (Sub.cons rfl (Sub.cons rfl (Sub.cons rfl (Sub.cons rfl (Sub.cons rfl (Sub.cons rfl (Sub.cons rfl (Sub.cons rfl (Sub.cons rfl (Sub.cons rfl (Sub.cons rfl (Sub.cons rfl (Sub.cons rfl (Sub.cons rfl (Sub.cons rfl (Sub.cons rfl (Sub.cons rfl (Sub.cons rfl (Sub.cons rfl (Sub.cons rfl (Sub.cons rfl (Sub.cons rfl (Sub.cons rfl (Sub.cons rfl (Sub.cons rfl (Sub.cons rfl (Sub.cons rfl (Sub.cons rfl (Sub.cons rfl (Sub.cons rfl (Sub.cons rfl (Sub.cons rfl (Sub.cons rfl (Sub.cons rfl (Sub.cons rfl (Sub.cons rfl (Sub.cons rfl (Sub.cons rfl (Sub.cons rfl (Sub.cons rfl (Sub.cons rfl (Sub.cons rfl (Sub.cons rfl (Sub.cons rfl (Sub.cons rfl (Sub.cons rfl (Sub.cons rfl (Sub.cons rfl (Sub.cons rfl (Sub.cons rfl (Sub.cons rfl (Sub.cons rfl (Sub.cons rfl (Sub.cons rfl (Sub.cons rfl (Sub.cons rfl (Sub.cons rfl (Sub.nil)))))))))))))))))))))))))))))))))))))))))))))))))))))))))) rfl ?_
   rintro ⟨j, u, g1, sp1, cp1⟩ ⟨hy1, hy2, hy3, hy4, hy5, hy6⟩
   show JC _ _ _ [(2, .slice none 0 0), (4, U8 (rdbl f)), (5, I64 ((i:Int))), (6, Slc nb5 0 4 4), (11, I64 ((i:Int))), (12, .bool (decide (((i:Int)) < (44:Int)))), (15, Slc g0 0 (4*i) cp0), (16, I64 ((i:Int))), (17, I64 (4*(i:Int))), (18, I64 (4*(i:Int) - 4)), (19, Ptr g0 (4*i - 4)), (20, U8 (g8 ww (4*i - 4))), (21, Slc g0 0 (4*i) cp0), (22, I64 ((i:Int))), (23, I64 (4*(i:Int))), (24, I64 (4*(i:Int) - 3)), (25, Ptr g0 (4*i - 3)), (26, U8 (g8 ww (4*i - 3))), (27, Slc g0 0 (4*i) cp0), (28, I64 ((i:Int))), (29, I64 (4*(i:Int))), (30, I64 (4*(i:Int) - 2)), (31, Ptr g0 (4*i - 2)), (32, U8 (g8 ww (4*i - 2))), (33, Slc g0 0 (4*i) cp0), (34, I64 ((i:Int))), (35, I64 (4*(i:Int))), (36, I64 (4*(i:Int) - 1)), (37, Ptr g0 (4*i - 1)), (38, U8 (g8 ww (4*i - 1))), (39, Slc nb4 0 4 4), (40, I64 ((i:Int))), (41, I64 ((i % 4:Int))), (42, .bool (decide (((i % 4:Int)) = (0:Int)))), (43, Slc nb4 0 4 4), (44, Ptr nb4 1), (45, U8 (g8 ([g8 ww (4*i - 4), g8 ww (4*i - 3), g8 ww (4*i - 2), g8 ww (4*i - 1)]) 1)), (46, U8 (g8 subsL ((g8 ([g8 ww (4*i - 4), g8 ww (4*i - 3), g8 ww (4*i - 2), g8 ww (4*i - 1)]) 1).toNat))), (47, U8 f), (48, U8 ((g8 subsL ((g8 ([g8 ww (4*i - 4), g8 ww (4*i - 3), g8 ww (4*i - 2), g8 ww (4*i - 1)]) 1).toNat)) ^^^ f)), (49, Slc nb4 0 4 4), (50, Ptr nb4 2), (51, U8 (g8 ([g8 ww (4*i - 4), g8 ww (4*i - 3), g8 ww (4*i - 2), g8 ww (4*i - 1)]) 2)), (52, U8 (g8 subsL ((g8 ([g8 ww (4*i - 4), g8 ww (4*i - 3), g8 ww (4*i - 2), g8 ww (4*i - 1)]) 2).toNat))), (53, Slc nb4 0 4 4), (54, Ptr nb4 3), (55, U8 (g8 ([g8 ww (4*i - 4), g8 ww (4*i - 3), g8 ww (4*i - 2), g8 ww (4*i - 1)]) 3)), (56, U8 (g8 subsL ((g8 ([g8 ww (4*i - 4), g8 ww (4*i - 3), g8 ww (4*i - 2), g8 ww (4*i - 1)]) 3).toNat))), (57, Slc nb4 0 4 4), (58, Ptr nb4 0), (59, U8 (g8 ([g8 ww (4*i - 4), g8 ww (4*i - 3), g8 ww (4*i - 2), g8 ww (4*i - 1)]) 0)), (60, U8 (g8 subsL ((g8 ([g8 ww (4*i - 4), g8 ww (4*i - 3), g8 ww (4*i - 2), g8 ww (4*i - 1)]) 0).toNat))), (61, Slc nb5 0 4 4), (62, U8 f), (63, U8 (rdbl f)), (3, Slc g1 0 (4*i + j) cp1), (7, I64 ((j:Int)))] [⟨nb5, cu8 ([(g8 subsL ((g8 ([g8 ww (4*i - 4), g8 ww (4*i - 3), g8 ww (4*i - 2), g8 ww (4*i - 1)]) 1).toNat)) ^^^ f, g8 subsL ((g8 ([g8 ww (4*i - 4), g8 ww (4*i - 3), g8 ww (4*i - 2), g8 ww (4*i - 1)]) 2).toNat), g8 subsL ((g8 ([g8 ww (4*i - 4), g8 ww (4*i - 3), g8 ww (4*i - 2), g8 ww (4*i - 1)]) 3).toNat), g8 subsL ((g8 ([g8 ww (4*i - 4), g8 ww (4*i - 3), g8 ww (4*i - 2), g8 ww (4*i - 1)]) 0).toNat)]), 5, (0, 0)⟩, ⟨g1, cu8 u ++ sp1, 5, (0, 0)⟩]
   refine JC_seq ?_
   refine JC_seq ?_
   refine JC_region ?_
   refine JL_val _ (Ev_move rfl) rfl ?_
   refine JL_val (.bool (decide (((j:Int)) < (4:Int)))) (Ev_bini rfl rfl fun _ => bin_lss_i _ _) rfl ?_
   refine JL_nil ?_
   refine JQ_then ?_
   refine JC_cond (decide (((j:Int)) < (4:Int))) rfl (fun hb3 => ?_) (fun hb3 => ?_)
   ·
    have hp3 : ((j:Int)) < (4:Int) := of_decide_eq_true hb3
    refine JC_skip ?_
    refine JQ_then ?_
    refine JC_seq ?_
    refine JC_block ?_
    refine JC_draw 85 3 [(0, Slc g1 0 (4*i + j) cp1), (1, Slc g1 0 (4*i + j) cp1), (2, I64 ((i:Int))), (3, I64 (4*(i:Int))), (4, I64 (4*(i:Int) - 16)), (5, I64 ((j:Int))), (6, I64 (4*(i:Int) + (j:Int) - 16)), (7, Ptr g1 (4*i + j - 16)), (8, U8 (g8 u (4*i + j - 16))), (9, Slc nb5 0 4 4), (10, I64 ((j:Int))), (11, Ptr nb5 j), (12, U8 (g8 ([(g8 subsL ((g8 ([g8 ww (4*i - 4), g8 ww (4*i - 3), g8 ww (4*i - 2), g8 ww (4*i - 1)]) 1).toNat)) ^^^ f, g8 subsL ((g8 ([g8 ww (4*i - 4), g8 ww (4*i - 3), g8 ww (4*i - 2), g8 ww (4*i - 1)]) 2).toNat), g8 subsL ((g8 ([g8 ww (4*i - 4), g8 ww (4*i - 3), g8 ww (4*i - 2), g8 ww (4*i - 1)]) 3).toNat), g8 subsL ((g8 ([g8 ww (4*i - 4), g8 ww (4*i - 3), g8 ww (4*i - 2), g8 ww (4*i - 1)]) 0).toNat)]) j)), (13, U8 ((g8 u (4*i + j - 16)) ^^^ (g8 ([(g8 subsL ((g8 ([g8 ww (4*i - 4), g8 ww (4*i - 3), g8 ww (4*i - 2), g8 ww (4*i - 1)]) 1).toNat)) ^^^ f, g8 subsL ((g8 ([g8 ww (4*i - 4), g8 ww (4*i - 3), g8 ww (4*i - 2), g8 ww (4*i - 1)]) 2).toNat), g8 subsL ((g8 ([g8 ww (4*i - 4), g8 ww (4*i - 3), g8 ww (4*i - 2), g8 ww (4*i - 1)]) 3).toNat), g8 subsL ((g8 ([g8 ww (4*i - 4), g8 ww (4*i - 3), g8 ww (4*i - 2), g8 ww (4*i - 1)]) 0).toNat)]) j)))] Tryd.mixed rfl (by decide +kernel) ?_
    refine DP_one ⟨[], [0, 1, 2, 3, 4, 5, 6, 7, 8, 9, 10, 11, 12, 13], [], [0, 1, 2, 3, 4, 5, 6, 7, 8, 9, 10, 11, 12, 13], [14]⟩ 14 _ rfl rfl (by decide +kernel) rfl ⟨⟨_, rfl, Qok_val rfl (Ev_move rfl)⟩, ⟨_, rfl, Qok_val rfl (Ev_move rfl)⟩, ⟨_, rfl, Qok_val rfl (Ev_move rfl)⟩, ⟨_, rfl, Qok_val rfl (Ev_bini rfl rfl fun _ => bin_mul_i _ _ (4*(i:Int)) (by omega) (by omega))⟩, ⟨_, rfl, Qok_val rfl (Ev_bini rfl rfl fun _ => bin_sub_i _ _ (4*(i:Int) - 16) (by omega) (by omega))⟩, ⟨_, rfl, Qok_val rfl (Ev_move rfl)⟩, ⟨_, rfl, Qok_val rfl (Ev_bini rfl rfl fun _ => bin_add_i _ _ (4*(i:Int) + (j:Int) - 16) (by omega) (by omega))⟩, ⟨_, rfl, Qok_val rfl (Ev_indexSl 5 1 (4*i + j - 16) Tryd.underlying22 Tryd.sizeOf5 rfl rfl (by omega) (by omega) (by omega))⟩, ⟨_, rfl, Qok_val rfl (Ev_load rfl (Ld_one Tryd.isAgg5 (MemAt.ent 1 rfl (Seg.left (Seg.get (g8_get (i := (4*i + j - 16)) (by rw [hy3]; omega)))))))⟩, ⟨_, rfl, Qok_val rfl (Ev_move rfl)⟩, ⟨_, rfl, Qok_val rfl (Ev_move rfl)⟩, ⟨_, rfl, Qok_val rfl (Ev_indexSl 5 1 j Tryd.underlying22 Tryd.sizeOf5 rfl rfl (by omega) (by omega) (by omega))⟩, ⟨_, rfl, Qok_val rfl (Ev_load rfl (Ld_one Tryd.isAgg5 (MemAt.ent 0 rfl (Seg.get (g8_get (i := j) (by simp <;> omega))))))⟩, ⟨_, rfl, Qok_val rfl (Ev_bini rfl rfl fun _ => bin_xor_u8 (g8 u (4*i + j - 16)) (g8 ([(g8 subsL ((g8 ([g8 ww (4*i - 4), g8 ww (4*i - 3), g8 ww (4*i - 2), g8 ww (4*i - 1)]) 1).toNat)) ^^^ f, g8 subsL ((g8 ([g8 ww (4*i - 4), g8 ww (4*i - 3), g8 ww (4*i - 2), g8 ww (4*i - 1)]) 2).toNat), g8 subsL ((g8 ([g8 ww (4*i - 4), g8 ww (4*i - 3), g8 ww (4*i - 2), g8 ww (4*i - 1)]) 3).toNat), g8 subsL ((g8 ([g8 ww (4*i - 4), g8 ww (4*i - 3), g8 ww (4*i - 2), g8 ww (4*i - 1)]) 0).toNat)]) j))⟩, trivial⟩ rfl (Cok_step rfl (Step_buildSlice 5 1 _ [(0, U8 ((g8 u (4*i + j - 16)) ^^^ (g8 ([(g8 subsL ((g8 ([g8 ww (4*i - 4), g8 ww (4*i - 3), g8 ww (4*i - 2), g8 ww (4*i - 1)]) 1).toNat)) ^^^ f, g8 subsL ((g8 ([g8 ww (4*i - 4), g8 ww (4*i - 3), g8 ww (4*i - 2), g8 ww (4*i - 1)]) 2).toNat), g8 subsL ((g8 ([g8 ww (4*i - 4), g8 ww (4*i - 3), g8 ww (4*i - 2), g8 ww (4*i - 1)]) 3).toNat), g8 subsL ((g8 ([g8 ww (4*i - 4), g8 ww (4*i - 3), g8 ww (4*i - 2), g8 ww (4*i - 1)]) 0).toNat)]) j)))] (cu8 ([(g8 u (4*i + j - 16)) ^^^ (g8 ([(g8 subsL ((g8 ([g8 ww (4*i - 4), g8 ww (4*i - 3), g8 ww (4*i - 2), g8 ww (4*i - 1)]) 1).toNat)) ^^^ f, g8 subsL ((g8 ([g8 ww (4*i - 4), g8 ww (4*i - 3), g8 ww (4*i - 2), g8 ww (4*i - 1)]) 2).toNat), g8 subsL ((g8 ([g8 ww (4*i - 4), g8 ww (4*i - 3), g8 ww (4*i - 2), g8 ww (4*i - 1)]) 3).toNat), g8 subsL ((g8 ([g8 ww (4*i - 4), g8 ww (4*i - 3), g8 ww (4*i - 2), g8 ww (4*i - 1)]) 0).toNat)]) j)])) Tryd.underlying22 Tryd.sizeOf5 Tryd.zeroValue5 rfl rfl rfl (by kernel_rfl))) ?_
    rintro v1 L1 ⟨nb6, hnb6, rfl, rfl⟩
    refine ⟨[], ?_⟩
    show DP _ _ _ _ _ _ _ _ [⟨nb5, cu8 ([(g8 subsL ((g8 ([g8 ww (4*i - 4), g8 ww (4*i - 3), g8 ww (4*i - 2), g8 ww (4*i - 1)]) 1).toNat)) ^^^ f, g8 subsL ((g8 ([g8 ww (4*i - 4), g8 ww (4*i - 3), g8 ww (4*i - 2), g8 ww (4*i - 1)]) 2).toNat), g8 subsL ((g8 ([g8 ww (4*i - 4), g8 ww (4*i - 3), g8 ww (4*i - 2), g8 ww (4*i - 1)]) 3).toNat), g8 subsL ((g8 ([g8 ww (4*i - 4), g8 ww (4*i - 3), g8 ww (4*i - 2), g8 ww (4*i - 1)]) 0).toNat)]), 5, (0, 0)⟩, ⟨g1, cu8 u ++ sp1, 5, (0, 0)⟩, ⟨nb6, cu8 ([(g8 u (4*i + j - 16)) ^^^ (g8 ([(g8 subsL ((g8 ([g8 ww (4*i - 4), g8 ww (4*i - 3), g8 ww (4*i - 2), g8 ww (4*i - 1)]) 1).toNat)) ^^^ f, g8 subsL ((g8 ([g8 ww (4*i - 4), g8 ww (4*i - 3), g8 ww (4*i - 2), g8 ww (4*i - 1)]) 2).toNat), g8 subsL ((g8 ([g8 ww (4*i - 4), g8 ww (4*i - 3), g8 ww (4*i - 2), g8 ww (4*i - 1)]) 3).toNat), g8 subsL ((g8 ([g8 ww (4*i - 4), g8 ww (4*i - 3), g8 ww (4*i - 2), g8 ww (4*i - 1)]) 0).toNat)]) j)]), 5, (0, 0)⟩]
    refine DP_one ⟨[14], [0, 1, 2, 3, 4, 5, 6, 7, 8, 9, 10, 11, 12, 13], [1, 2, 3, 4, 5, 6, 7, 8, 9, 10, 11, 12, 13], [0], [15]⟩ 15 _ rfl rfl (by decide +kernel) rfl ⟨⟨_, rfl, Qok_val rfl (Ev_move rfl)⟩, trivial⟩ rfl (Cok_step rfl (Step_appM8 22 5 [false, true, false] (Slc g1 0 (4*i + j) cp1) (4*i + j) u ([(g8 u (4*i + j - 16)) ^^^ (g8 ([(g8 subsL ((g8 ([g8 ww (4*i - 4), g8 ww (4*i - 3), g8 ww (4*i - 2), g8 ww (4*i - 1)]) 1).toNat)) ^^^ f, g8 subsL ((g8 ([g8 ww (4*i - 4), g8 ww (4*i - 3), g8 ww (4*i - 2), g8 ww (4*i - 1)]) 2).toNat), g8 subsL ((g8 ([g8 ww (4*i - 4), g8 ww (4*i - 3), g8 ww (4*i - 2), g8 ww (4*i - 1)]) 3).toNat), g8 subsL ((g8 ([g8 ww (4*i - 4), g8 ww (4*i - 3), g8 ww (4*i - 2), g8 ww (4*i - 1)]) 0).toNat)]) j)]) (some ⟨nb6, 0, none⟩) 1 1 (4*i + j + 1) Tryd.underlying22 Tryd.info5 rfl (.inr ⟨g1, sp1, cp1, rfl, rfl, (by first | exact hy3 | simp [hy3]), hy4, (by omega), (by omega)⟩) rfl (by simp) (SrcAt.mem (MemAt.ent 2 rfl (Seg.whole _))) (by omega) (by unfold maxLen; omega) (by omega))) ?_
    rintro v1 L1 ⟨nb7, sp2, cp2, hg2, rfl, rfl, ha5, ha6, ha7, ha8⟩
    refine ⟨[(16, Slc nb7 0 (4*i + j + 1) cp2)], ?_⟩
    show DP _ _ _ _ _ _ _ _ [⟨nb5, cu8 ([(g8 subsL ((g8 ([g8 ww (4*i - 4), g8 ww (4*i - 3), g8 ww (4*i - 2), g8 ww (4*i - 1)]) 1).toNat)) ^^^ f, g8 subsL ((g8 ([g8 ww (4*i - 4), g8 ww (4*i - 3), g8 ww (4*i - 2), g8 ww (4*i - 1)]) 2).toNat), g8 subsL ((g8 ([g8 ww (4*i - 4), g8 ww (4*i - 3), g8 ww (4*i - 2), g8 ww (4*i - 1)]) 3).toNat), g8 subsL ((g8 ([g8 ww (4*i - 4), g8 ww (4*i - 3), g8 ww (4*i - 2), g8 ww (4*i - 1)]) 0).toNat)]), 5, (0, 0)⟩, ⟨nb6, cu8 ([(g8 u (4*i + j - 16)) ^^^ (g8 ([(g8 subsL ((g8 ([g8 ww (4*i - 4), g8 ww (4*i - 3), g8 ww (4*i - 2), g8 ww (4*i - 1)]) 1).toNat)) ^^^ f, g8 subsL ((g8 ([g8 ww (4*i - 4), g8 ww (4*i - 3), g8 ww (4*i - 2), g8 ww (4*i - 1)]) 2).toNat), g8 subsL ((g8 ([g8 ww (4*i - 4), g8 ww (4*i - 3), g8 ww (4*i - 2), g8 ww (4*i - 1)]) 3).toNat), g8 subsL ((g8 ([g8 ww (4*i - 4), g8 ww (4*i - 3), g8 ww (4*i - 2), g8 ww (4*i - 1)]) 0).toNat)]) j)]), 5, (0, 0)⟩, ⟨nb7, cu8 (u ++ ([(g8 u (4*i + j - 16)) ^^^ (g8 ([(g8 subsL ((g8 ([g8 ww (4*i - 4), g8 ww (4*i - 3), g8 ww (4*i - 2), g8 ww (4*i - 1)]) 1).toNat)) ^^^ f, g8 subsL ((g8 ([g8 ww (4*i - 4), g8 ww (4*i - 3), g8 ww (4*i - 2), g8 ww (4*i - 1)]) 2).toNat), g8 subsL ((g8 ([g8 ww (4*i - 4), g8 ww (4*i - 3), g8 ww (4*i - 2), g8 ww (4*i - 1)]) 3).toNat), g8 subsL ((g8 ([g8 ww (4*i - 4), g8 ww (4*i - 3), g8 ww (4*i - 2), g8 ww (4*i - 1)]) 0).toNat)]) j)])) ++ sp2, 5, (0, 0)⟩]
    refine DP_end ⟨[14, 15], [0, 1, 2, 3, 4, 5, 6, 7, 8, 9, 10, 11, 12, 13, 16], [0, 1, 2, 3, 4, 5, 6, 7, 8, 9, 10, 11, 12, 13], [16], []⟩ rfl rfl (by decide +kernel) rfl ⟨⟨_, rfl, Qok_val rfl (Ev_assign rfl)⟩, trivial⟩ ?_
    refine K_sub (F' := [(68, Slc g1 0 (4*i + j) cp1), (69, Slc g1 0 (4*i + j) cp1), (70, I64 ((i:Int))), (71, I64 (4*(i:Int))), (72, I64 (4*(i:Int) - 16)), (73, I64 ((j:Int))), (74, I64 (4*(i:Int) + (j:Int) - 16)), (75, Ptr g1 (4*i + j - 16)), (76, U8 (g8 u (4*i + j - 16))), (77, Slc nb5 0 4 4), (78, I64 ((j:Int))), (79, Ptr nb5 j), (80, U8 (g8 ([(g8 subsL ((g8 ([g8 ww (4*i - 4), g8 ww (4*i - 3), g8 ww (4*i - 2), g8 ww (4*i - 1)]) 1).toNat)) ^^^ f, g8 subsL ((g8 ([g8 ww (4*i - 4), g8 ww (4*i - 3), g8 ww (4*i - 2), g8 ww (4*i - 1)]) 2).toNat), g8 subsL ((g8 ([g8 ww (4*i - 4), g8 ww (4*i - 3), g8 ww (4*i - 2), g8 ww (4*i - 1)]) 3).toNat), g8 subsL ((g8 ([g8 ww (4*i - 4), g8 ww (4*i - 3), g8 ww (4*i - 2), g8 ww (4*i - 1)]) 0).toNat)]) j)), (81, U8 ((g8 u (4*i + j - 16)) ^^^ (g8 ([(g8 subsL ((g8 ([g8 ww (4*i - 4), g8 ww (4*i - 3), g8 ww (4*i - 2), g8 ww (4*i - 1)]) 1).toNat)) ^^^ f, g8 subsL ((g8 ([g8 ww (4*i - 4), g8 ww (4*i - 3), g8 ww (4*i - 2), g8 ww (4*i - 1)]) 2).toNat), g8 subsL ((g8 ([g8 ww (4*i - 4), g8 ww (4*i - 3), g8 ww (4*i - 2), g8 ww (4*i - 1)]) 3).toNat), g8 subsL ((g8 ([g8 ww (4*i - 4), g8 ww (4*i - 3), g8 ww (4*i - 2), g8 ww (4*i - 1)]) 0).toNat)]) j))), (82, Slc nb6 0 1 1), (83, Slc nb7 0 (4*i + j + 1) cp2), (3, Slc nb7 0 (4*i + j + 1) cp2), (2, .slice none 0 0), (4, U8 (rdbl f)), (5, I64 ((i:Int))), (6, Slc nb5 0 4 4), (11, I64 ((i:Int))), (12, .bool (decide (((i:Int)) < (44:Int)))), (15, Slc g0 0 (4*i) cp0), (16, I64 ((i:Int))), (17, I64 (4*(i:Int))), (18, I64 (4*(i:Int) - 4)), (19, Ptr g0 (4*i - 4)), (20, U8 (g8 ww (4*i - 4))), (21, Slc g0 0 (4*i) cp0), (22, I64 ((i:Int))), (23, I64 (4*(i:Int))), (24, I64 (4*(i:Int) - 3)), (25, Ptr g0 (4*i - 3)), (26, U8 (g8 ww (4*i - 3))), (27, Slc g0 0 (4*i) cp0), (28, I64 ((i:Int))), (29, I64 (4*(i:Int))), (30, I64 (4*(i:Int) - 2)), (31, Ptr g0 (4*i - 2)), (32, U8 (g8 ww (4*i - 2))), (33, Slc g0 0 (4*i) cp0), (34, I64 ((i:Int))), (35, I64 (4*(i:Int))), (36, I64 (4*(i:Int) - 1)), (37, Ptr g0 (4*i - 1)), (38, U8 (g8 ww (4*i - 1))), (39, Slc nb4 0 4 4), (40, I64 ((i:Int))), (41, I64 ((i % 4:Int))), (42, .bool (decide (((i % 4:Int)) = (0:Int)))), (43, Slc nb4 0 4 4), (44, Ptr nb4 1), (45, U8 (g8 ([g8 ww (4*i - 4), g8 ww (4*i - 3), g8 ww (4*i - 2), g8 ww (4*i - 1)]) 1)), (46, U8 (g8 subsL ((g8 ([g8 ww (4*i - 4), g8 ww (4*i - 3), g8 ww (4*i - 2), g8 ww (4*i - 1)]) 1).toNat))), (47, U8 f), (48, U8 ((g8 subsL ((g8 ([g8 ww (4*i - 4), g8 ww (4*i - 3), g8 ww (4*i - 2), g8 ww (4*i - 1)]) 1).toNat)) ^^^ f)), (49, Slc nb4 0 4 4), (50, Ptr nb4 2), (51, U8 (g8 ([g8 ww (4*i - 4), g8 ww (4*i - 3), g8 ww (4*i - 2), g8 ww (4*i - 1)]) 2)), (52, U8 (g8 subsL ((g8 ([g8 ww (4*i - 4), g8 ww (4*i - 3), g8 ww (4*i - 2), g8 ww (4*i - 1)]) 2).toNat))), (53, Slc nb4 0 4 4), (54, Ptr nb4 3), (55, U8 (g8 ([g8 ww (4*i - 4), g8 ww (4*i - 3), g8 ww (4*i - 2), g8 ww (4*i - 1)]) 3)), (56, U8 (g8 subsL ((g8 ([g8 ww (4*i - 4), g8 ww (4*i - 3), g8 ww (4*i - 2), g8 ww (4*i - 1)]) 3).toNat))), (57, Slc nb4 0 4 4), (58, Ptr nb4 0), (59, U8 (g8 ([g8 ww (4*i - 4), g8 ww (4*i - 3), g8 ww (4*i - 2), g8 ww (4*i - 1)]) 0)), (60, U8 (g8 subsL ((g8 ([g8 ww (4*i - 4), g8 ww (4*i - 3), g8 ww (4*i - 2), g8 ww (4*i - 1)]) 0).toNat))), (61, Slc nb5 0 4 4), (62, U8 f), (63, U8 (rdbl f)), (7, I64 ((j:Int))), (64, I64 ((j:Int))), (65, .bool (decide (((j:Int)) < (4:Int))))]) (Sub.cons (by kernel_rfl) (Sub.cons (by kernel_rfl) (Sub.cons (by kernel_rfl) (Sub.cons (by kernel_rfl) (Sub.cons (by kernel_rfl) (Sub.cons (by kernel_rfl) (Sub.cons (by kernel_rfl) (Sub.cons (by kernel_rfl) (Sub.cons (by kernel_rfl) (Sub.cons (by kernel_rfl) (Sub.cons (by kernel_rfl) (Sub.cons (by kernel_rfl) (Sub.cons (by kernel_rfl) (Sub.cons (by kernel_rfl) (Sub.cons (by kernel_rfl) (Sub.cons (by kernel_rfl) (Sub.cons (by kernel_rfl) (Sub.cons (by kernel_rfl) (Sub.cons (by kernel_rfl) (Sub.cons (by kernel_rfl) (Sub.cons (by kernel_rfl) (Sub.cons (by kernel_rfl) (Sub.cons (by kernel_rfl) (Sub.cons (by kernel_rfl) (Sub.cons (by kernel_rfl) (Sub.cons (by kernel_rfl) (Sub.cons (by kernel_rfl) (Sub.cons (by kernel_rfl) (Sub.cons (by kernel_rfl) (Sub.cons (by kernel_rfl) (Sub.cons (by kernel_rfl) (Sub.cons (by kernel_rfl) (Sub.cons (by kernel_rfl) (Sub.cons (by kernel_rfl) (Sub.cons (by kernel_rfl) (Sub.cons (by kernel_rfl) (Sub.cons (by kernel_rfl) (Sub.cons (by kernel_rfl) (Sub.cons (by kernel_rfl) (Sub.cons (by kernel_rfl) (Sub.cons (by kernel_rfl) (Sub.cons (by kernel_rfl) (Sub.cons (by kernel_rfl) (Sub.cons (by kernel_rfl) (Sub.cons (by kernel_rfl) (Sub.cons (by kernel_rfl) (Sub.cons (by kernel_rfl) (Sub.cons (by kernel_rfl) (Sub.cons (by kernel_rfl) (Sub.cons (by kernel_rfl) (Sub.cons (by kernel_rfl) (Sub.cons (by kernel_rfl) (Sub.cons (by kernel_rfl) (Sub.cons (by kernel_rfl) (Sub.cons (by kernel_rfl) (Sub.cons (by kernel_rfl) (Sub.cons (by kernel_rfl) (Sub.cons (by kernel_rfl) (Sub.cons (by kernel_rfl) (Sub.cons (by kernel_rfl) (Sub.cons (by kernel_rfl) (Sub.cons (by kernel_rfl) (Sub.cons (by kernel_rfl) (Sub.cons (by kernel_rfl) (Sub.cons (by kernel_rfl) (Sub.cons (by kernel_rfl) (Sub.cons (by kernel_rfl) (Sub.cons (by kernel_rfl) (Sub.cons (by kernel_rfl) (Sub.cons (by kernel_rfl) (Sub.cons (by kernel_rfl) (Sub.cons (by kernel_rfl) (Sub.cons (by kernel_rfl) (Sub.cons (by kernel_rfl) (Sub.cons (by kernel_rfl) (Sub.nil)))))))))))))))))))))))))))))))))))))))))))))))))))))))))))))))))))))))))))) ?_
    show JQ _ _ _ [(68, Slc g1 0 (4*i + j) cp1), (69, Slc g1 0 (4*i + j) cp1), (70, I64 ((i:Int))), (71, I64 (4*(i:Int))), (72, I64 (4*(i:Int) - 16)), (73, I64 ((j:Int))), (74, I64 (4*(i:Int) + (j:Int) - 16)), (75, Ptr g1 (4*i + j - 16)), (76, U8 (g8 u (4*i + j - 16))), (77, Slc nb5 0 4 4), (78, I64 ((j:Int))), (79, Ptr nb5 j), (80, U8 (g8 ([(g8 subsL ((g8 ([g8 ww (4*i - 4), g8 ww (4*i - 3), g8 ww (4*i - 2), g8 ww (4*i - 1)]) 1).toNat)) ^^^ f, g8 subsL ((g8 ([g8 ww (4*i - 4), g8 ww (4*i - 3), g8 ww (4*i - 2), g8 ww (4*i - 1)]) 2).toNat), g8 subsL ((g8 ([g8 ww (4*i - 4), g8 ww (4*i - 3), g8 ww (4*i - 2), g8 ww (4*i - 1)]) 3).toNat), g8 subsL ((g8 ([g8 ww (4*i - 4), g8 ww (4*i - 3), g8 ww (4*i - 2), g8 ww (4*i - 1)]) 0).toNat)]) j)), (81, U8 ((g8 u (4*i + j - 16)) ^^^ (g8 ([(g8 subsL ((g8 ([g8 ww (4*i - 4), g8 ww (4*i - 3), g8 ww (4*i - 2), g8 ww (4*i - 1)]) 1).toNat)) ^^^ f, g8 subsL ((g8 ([g8 ww (4*i - 4), g8 ww (4*i - 3), g8 ww (4*i - 2), g8 ww (4*i - 1)]) 2).toNat), g8 subsL ((g8 ([g8 ww (4*i - 4), g8 ww (4*i - 3), g8 ww (4*i - 2), g8 ww (4*i - 1)]) 3).toNat), g8 subsL ((g8 ([g8 ww (4*i - 4), g8 ww (4*i - 3), g8 ww (4*i - 2), g8 ww (4*i - 1)]) 0).toNat)]) j))), (82, Slc nb6 0 1 1), (83, Slc nb7 0 (4*i + j + 1) cp2), (3, Slc nb7 0 (4*i + j + 1) cp2), (2, .slice none 0 0), (4, U8 (rdbl f)), (5, I64 ((i:Int))), (6, Slc nb5 0 4 4), (11, I64 ((i:Int))), (12, .bool (decide (((i:Int)) < (44:Int)))), (15, Slc g0 0 (4*i) cp0), (16, I64 ((i:Int))), (17, I64 (4*(i:Int))), (18, I64 (4*(i:Int) - 4)), (19, Ptr g0 (4*i - 4)), (20, U8 (g8 ww (4*i - 4))), (21, Slc g0 0 (4*i) cp0), (22, I64 ((i:Int))), (23, I64 (4*(i:Int))), (24, I64 (4*(i:Int) - 3)), (25, Ptr g0 (4*i - 3)), (26, U8 (g8 ww (4*i - 3))), (27, Slc g0 0 (4*i) cp0), (28, I64 ((i:Int))), (29, I64 (4*(i:Int))), (30, I64 (4*(i:Int) - 2)), (31, Ptr g0 (4*i - 2)), (32, U8 (g8 ww (4*i - 2))), (33, Slc g0 0 (4*i) cp0), (34, I64 ((i:Int))), (35, I64 (4*(i:Int))), (36, I64 (4*(i:Int) - 1)), (37, Ptr g0 (4*i - 1)), (38, U8 (g8 ww (4*i - 1))), (39, Slc nb4 0 4 4), (40, I64 ((i:Int))), (41, I64 ((i % 4:Int))), (42, .bool (decide (((i % 4:Int)) = (0:Int)))), (43, Slc nb4 0 4 4), (44, Ptr nb4 1), (45, U8 (g8 ([g8 ww (4*i - 4), g8 ww (4*i - 3), g8 ww (4*i - 2), g8 ww (4*i - 1)]) 1)), (46, U8 (g8 subsL ((g8 ([g8 ww (4*i - 4), g8 ww (4*i - 3), g8 ww (4*i - 2), g8 ww (4*i - 1)]) 1).toNat))), (47, U8 f), (48, U8 ((g8 subsL ((g8 ([g8 ww (4*i - 4), g8 ww (4*i - 3), g8 ww (4*i - 2), g8 ww (4*i - 1)]) 1).toNat)) ^^^ f)), (49, Slc nb4 0 4 4), (50, Ptr nb4 2), (51, U8 (g8 ([g8 ww (4*i - 4), g8 ww (4*i - 3), g8 ww (4*i - 2), g8 ww (4*i - 1)]) 2)), (52, U8 (g8 subsL ((g8 ([g8 ww (4*i - 4), g8 ww (4*i - 3), g8 ww (4*i - 2), g8 ww (4*i - 1)]) 2).toNat))), (53, Slc nb4 0 4 4), (54, Ptr nb4 3), (55, U8 (g8 ([g8 ww (4*i - 4), g8 ww (4*i - 3), g8 ww (4*i - 2), g8 ww (4*i - 1)]) 3)), (56, U8 (g8 subsL ((g8 ([g8 ww (4*i - 4), g8 ww (4*i - 3), g8 ww (4*i - 2), g8 ww (4*i - 1)]) 3).toNat))), (57, Slc nb4 0 4 4), (58, Ptr nb4 0), (59, U8 (g8 ([g8 ww (4*i - 4), g8 ww (4*i - 3), g8 ww (4*i - 2), g8 ww (4*i - 1)]) 0)), (60, U8 (g8 subsL ((g8 ([g8 ww (4*i - 4), g8 ww (4*i - 3), g8 ww (4*i - 2), g8 ww (4*i - 1)]) 0).toNat))), (61, Slc nb5 0 4 4), (62, U8 f), (63, U8 (rdbl f)), (7, I64 ((j:Int))), (64, I64 ((j:Int))), (65, .bool (decide (((j:Int)) < (4:Int))))] _
    refine JQ_in_normal ?_
    refine JQ_then ?_
    refine JC_region ?_
    refine JL_val _ (Ev_move rfl) rfl ?_
    refine JL_val (I64 ((j:Int) + 1)) (Ev_bini rfl rfl fun _ => bin_add_i _ _ ((j:Int) + 1) (by omega) (by omega)) rfl ?_
    refine JL_val _ (Ev_assign rfl) rfl ?_
    refine JL_nil ?_
    refine JQ_thenK ?_
    refine K_mask [true, false, true] ?_
    show K _ _ [⟨nb5, cu8 ([(g8 subsL ((g8 ([g8 ww (4*i - 4), g8 ww (4*i - 3), g8 ww (4*i - 2), g8 ww (4*i - 1)]) 1).toNat)) ^^^ f, g8 subsL ((g8 ([g8 ww (4*i - 4), g8 ww (4*i - 3), g8 ww (4*i - 2), g8 ww (4*i - 1)]) 2).toNat), g8 subsL ((g8 ([g8 ww (4*i - 4), g8 ww (4*i - 3), g8 ww (4*i - 2), g8 ww (4*i - 1)]) 3).toNat), g8 subsL ((g8 ([g8 ww (4*i - 4), g8 ww (4*i - 3), g8 ww (4*i - 2), g8 ww (4*i - 1)]) 0).toNat)]), 5, (0, 0)⟩, ⟨nb7, cu8 (u ++ ([(g8 u (4*i + j - 16)) ^^^ (g8 ([(g8 subsL ((g8 ([g8 ww (4*i - 4), g8 ww (4*i - 3), g8 ww (4*i - 2), g8 ww (4*i - 1)]) 1).toNat)) ^^^ f, g8 subsL ((g8 ([g8 ww (4*i - 4), g8 ww (4*i - 3), g8 ww (4*i - 2), g8 ww (4*i - 1)]) 2).toNat), g8 subsL ((g8 ([g8 ww (4*i - 4), g8 ww (4*i - 3), g8 ww (4*i - 2), g8 ww (4*i - 1)]) 3).toNat), g8 subsL ((g8 ([g8 ww (4*i - 4), g8 ww (4*i - 3), g8 ww (4*i - 2), g8 ww (4*i - 1)]) 0).toNat)]) j)])) ++ sp2, 5, (0, 0)⟩] _
    refine K_next (j + 1, u ++ ([(g8 u (4*i + j - 16)) ^^^ (g8 ([(g8 subsL ((g8 ([g8 ww (4*i - 4), g8 ww (4*i - 3), g8 ww (4*i - 2), g8 ww (4*i - 1)]) 1).toNat)) ^^^ f, g8 subsL ((g8 ([g8 ww (4*i - 4), g8 ww (4*i - 3), g8 ww (4*i - 2), g8 ww (4*i - 1)]) 2).toNat), g8 subsL ((g8 ([g8 ww (4*i - 4), g8 ww (4*i - 3), g8 ww (4*i - 2), g8 ww (4*i - 1)]) 3).toNat), g8 subsL ((g8 ([g8 ww (4*i - 4), g8 ww (4*i - 3), g8 ww (4*i - 2), g8 ww (4*i - 1)]) 0).toNat)]) j)]), nb7, sp2, cp2) ⟨by omega, by rw [rIn, ← hy2], by rw [ha5]; omega, by rw [ha6]; omega, by omega, by omega⟩ (by first | (simp; omega) | simp | (dsimp only; omega) | omega) (Sub.cons rfl (Sub.cons rfl (Sub.cons rfl (Sub.cons rfl (Sub.cons rfl (Sub.cons rfl (Sub.cons rfl (Sub.cons rfl (Sub.cons rfl (Sub.cons rfl (Sub.cons rfl (Sub.cons rfl (Sub.cons rfl (Sub.cons rfl (Sub.cons rfl (Sub.cons rfl (Sub.cons rfl (Sub.cons rfl (Sub.cons rfl (Sub.cons rfl (Sub.cons rfl (Sub.cons rfl (Sub.cons rfl (Sub.cons rfl (Sub.cons rfl (Sub.cons rfl (Sub.cons rfl (Sub.cons rfl (Sub.cons rfl (Sub.cons rfl (Sub.cons rfl (Sub.cons rfl (Sub.cons rfl (Sub.cons rfl (Sub.cons rfl (Sub.cons rfl (Sub.cons rfl (Sub.cons rfl (Sub.cons rfl (Sub.cons rfl (Sub.cons rfl (Sub.cons rfl (Sub.cons rfl (Sub.cons rfl (Sub.cons rfl (Sub.cons rfl (Sub.cons rfl (Sub.cons rfl (Sub.cons rfl (Sub.cons rfl (Sub.cons rfl (Sub.cons rfl (Sub.cons rfl (Sub.cons rfl (Sub.cons rfl (Sub.cons (some_slc (by omega)) (Sub.cons rfl (Sub.nil)))))))))))))))))))))))))))))))))))))))))))))))))))))))))) rfl
   ·
    have hp3 : ¬ (((j:Int)) < (4:Int)) := of_decide_eq_false hb3
    refine JC_exit ?_
    refine JQ_then_exit ?_
    refine JQ_then_exit ?_
    refine JQ_in_same ?_
    refine JQ_in_normal ?_
    refine JQ_then ?_
    refine JC_region ?_
    refine JL_val _ (Ev_move rfl) rfl ?_
    refine JL_val (I64 ((i:Int) + 1)) (Ev_bini rfl rfl fun _ => bin_add_i _ _ ((i:Int) + 1) (by omega) (by omega)) rfl ?_
    refine JL_val _ (Ev_assign rfl) rfl ?_
    refine JL_nil ?_
    refine JQ_thenK ?_
    refine K_mask [false, true] ?_
    show K _ _ [⟨g1, cu8 u ++ sp1, 5, (0, 0)⟩] _
    refine K_next (i + 1, rdbl f, u, g1, sp1, cp1) ⟨by omega, by omega, by rw [show i + 1 - 4 = (i - 4) + 1 from by omega, rN, ← hx3]; simp only [rStep, show i - 4 + 4 = i from by omega]; rw [if_pos (by omega), hy2, show j = 4 from by omega]; rfl, by omega, by omega, by omega, hy6⟩ (by first | (simp; omega) | simp | (dsimp only; omega) | omega) (Sub.cons rfl (Sub.cons (some_slc (by omega)) (Sub.cons rfl (Sub.cons rfl (Sub.nil))))) rfl
  ·
   have hp2 : ¬ (((i % 4:Int)) = (0:Int)) := of_decide_eq_false hb2
   refine JC_skip ?_
   refine JQ_then ?_
   refine JC_seq ?_
   refine JC_region ?_
   refine JL_val _ (Ev_assign rfl) rfl ?_
   refine JL_nil ?_
   refine JQ_then ?_
   refine JC_block ?_
   refine K_pick [1, 0] (by decide) ?_
   show JC _ _ _ _ [⟨nb4, cu8 ([g8 ww (4*i - 4), g8 ww (4*i - 3), g8 ww (4*i - 2), g8 ww (4*i - 1)]), 5, (0, 0)⟩, ⟨g0, cu8 ww ++ sp0, 5, (0, 0)⟩]
   refine JC_loop (ι := Nat × List UInt8 × Nat × List Value × Nat) (fun ⟨j, u, g1, sp1, cp1⟩ => [(2, .slice none 0 0), (4, U8 f), (5, I64 ((i:Int))), (6, Slc nb4 0 4 4), (11, I64 ((i:Int))), (12, .bool (decide (((i:Int)) < (44:Int)))), (15, Slc g0 0 (4*i) cp0), (16, I64 ((i:Int))), (17, I64 (4*(i:Int))), (18, I64 (4*(i:Int) - 4)), (19, Ptr g0 (4*i - 4)), (20, U8 (g8 ww (4*i - 4))), (21, Slc g0 0 (4*i) cp0), (22, I64 ((i:Int))), (23, I64 (4*(i:Int))), (24, I64 (4*(i:Int) - 3)), (25, Ptr g0 (4*i - 3)), (26, U8 (g8 ww (4*i - 3))), (27, Slc g0 0 (4*i) cp0), (28, I64 ((i:Int))), (29, I64 (4*(i:Int))), (30, I64 (4*(i:Int) - 2)), (31, Ptr g0 (4*i - 2)), (32, U8 (g8 ww (4*i - 2))), (33, Slc g0 0 (4*i) cp0), (34, I64 ((i:Int))), (35, I64 (4*(i:Int))), (36, I64 (4*(i:Int) - 1)), (37, Ptr g0 (4*i - 1)), (38, U8 (g8 ww (4*i - 1))), (39, Slc nb4 0 4 4), (40, I64 ((i:Int))), (41, I64 ((i % 4:Int))), (42, .bool (decide (((i % 4:Int)) = (0:Int)))), (3, Slc g1 0 (4*i + j) cp1), (7, I64 ((j:Int)))]) (fun ⟨j, u, g1, sp1, cp1⟩ => [⟨nb4, cu8 ([g8 ww (4*i - 4), g8 ww (4*i - 3), g8 ww (4*i - 2), g8 ww (4*i - 1)]), 5, (0, 0)⟩, ⟨g1, cu8 u ++ sp1, 5, (0, 0)⟩]) (fun ⟨j, u, g1, sp1, cp1⟩ => j ≤ 4 ∧ u = rIn ww i ([g8 ww (4*i - 4), g8 ww (4*i - 3), g8 ww (4*i - 2), g8 ww (4*i - 1)]) j ∧ u.length = 4*i + j ∧ sp1.length = cp1 - (4*i + j) ∧ 4*i + j ≤ cp1 ∧ cp1 ≤ maxLen) (fun ⟨j, u, g1, sp1, cp1⟩ => 4 - j) (0, ww, g0, sp0, cp0) ⟨by omega, rfl, by omega, by omega, by omega, hx7⟩ (Sub.cons rfl (Sub.cons rfl (Sub.cons rfl (Sub.cons rfl (Sub.cons rfl (Sub.cons rfl (Sub.cons rfl (Sub.cons rfl (Sub.cons rfl (Sub.cons rfl (Sub.cons rfl (Sub.cons rfl (Sub.cons rfl (Sub.cons rfl (Sub.cons rfl (Sub.cons rfl (Sub.cons rfl (Sub.cons rfl (Sub.cons rfl (Sub.cons rfl (Sub.cons rfl (Sub.cons rfl (Sub.cons rfl (Sub.cons rfl (Sub.cons rfl (Sub.cons rfl (Sub.cons rfl (Sub.cons rfl (Sub.cons rfl (Sub.cons rfl (Sub.cons rfl (Sub.cons rfl (Sub.cons rfl (Sub.cons rfl (Sub.cons rfl (Sub.cons rfl (Sub.nil))))))))))))))))))))))))))))))))))))) rfl ?_
   rintro ⟨j, u, g1, sp1, cp1⟩ ⟨hy1, hy2, hy3, hy4, hy5, hy6⟩
   show JC _ _ _ [(2, .slice none 0 0), (4, U8 f), (5, I64 ((i:Int))), (6, Slc nb4 0 4 4), (11, I64 ((i:Int))), (12, .bool (decide (((i:Int)) < (44:Int)))), (15, Slc g0 0 (4*i) cp0), (16, I64 ((i:Int))), (17, I64 (4*(i:Int))), (18, I64 (4*(i:Int) - 4)), (19, Ptr g0 (4*i - 4)), (20, U8 (g8 ww (4*i - 4))), (21, Slc g0 0 (4*i) cp0), (22, I64 ((i:Int))), (23, I64 (4*(i:Int))), (24, I64 (4*(i:Int) - 3)), (25, Ptr g0 (4*i - 3)), (26, U8 (g8 ww (4*i - 3))), (27, Slc g0 0 (4*i) cp0), (28, I64 ((i:Int))), (29, I64 (4*(i:Int))), (30, I64 (4*(i:Int) - 2)), (31, Ptr g0 (4*i - 2)), (32, U8 (g8 ww (4*i - 2))), (33, Slc g0 0 (4*i) cp0), (34, I64 ((i:Int))), (35, I64 (4*(i:Int))), (36, I64 (4*(i:Int) - 1)), (37, Ptr g0 (4*i - 1)), (38, U8 (g8 ww (4*i - 1))), (39, Slc nb4 0 4 4), (40, I64 ((i:Int))), (41, I64 ((i % 4:Int))), (42, .bool (decide (((i % 4:Int)) = (0:Int)))), (3, Slc g1 0 (4*i + j) cp1), (7, I64 ((j:Int)))] [⟨nb4, cu8 ([g8 ww (4*i - 4), g8 ww (4*i - 3), g8 ww (4*i - 2), g8 ww (4*i - 1)]), 5, (0, 0)⟩, ⟨g1, cu8 u ++ sp1, 5, (0, 0)⟩]
   refine JC_seq ?_
   refine JC_seq ?_
   refine JC_region ?_
   refine JL_val _ (Ev_move rfl) rfl ?_
   refine JL_val (.bool (decide (((j:Int)) < (4:Int)))) (Ev_bini rfl rfl fun _ => bin_lss_i _ _) rfl ?_
   refine JL_nil ?_
   refine JQ_then ?_
   refine JC_cond (decide (((j:Int)) < (4:Int))) rfl (fun hb4 => ?_) (fun hb4 => ?_)
   ·
    have hp4 : ((j:Int)) < (4:Int) := of_decide_eq_true hb4
    refine JC_skip ?_
    refine JQ_then ?_
    refine JC_seq ?_
    refine JC_block ?_
    refine JC_draw 85 3 [(0, Slc g1 0 (4*i + j) cp1), (1, Slc g1 0 (4*i + j) cp1), (2, I64 ((i:Int))), (3, I64 (4*(i:Int))), (4, I64 (4*(i:Int) - 16)), (5, I64 ((j:Int))), (6, I64 (4*(i:Int) + (j:Int) - 16)), (7, Ptr g1 (4*i + j - 16)), (8, U8 (g8 u (4*i + j - 16))), (9, Slc nb4 0 4 4), (10, I64 ((j:Int))), (11, Ptr nb4 j), (12, U8 (g8 ([g8 ww (4*i - 4), g8 ww (4*i - 3), g8 ww (4*i - 2), g8 ww (4*i - 1)]) j)), (13, U8 ((g8 u (4*i + j - 16)) ^^^ (g8 ([g8 ww (4*i - 4), g8 ww (4*i - 3), g8 ww (4*i - 2), g8 ww (4*i - 1)]) j)))] Tryd.mixed rfl (by decide +kernel) ?_
    refine DP_one ⟨[], [0, 1, 2, 3, 4, 5, 6, 7, 8, 9, 10, 11, 12, 13], [], [0, 1, 2, 3, 4, 5, 6, 7, 8, 9, 10, 11, 12, 13], [14]⟩ 14 _ rfl rfl (by decide +kernel) rfl ⟨⟨_, rfl, Qok_val rfl (Ev_move rfl)⟩, ⟨_, rfl, Qok_val rfl (Ev_move rfl)⟩, ⟨_, rfl, Qok_val rfl (Ev_move rfl)⟩, ⟨_, rfl, Qok_val rfl (Ev_bini rfl rfl fun _ => bin_mul_i _ _ (4*(i:Int)) (by omega) (by omega))⟩, ⟨_, rfl, Qok_val rfl (Ev_bini rfl rfl fun _ => bin_sub_i _ _ (4*(i:Int) - 16) (by omega) (by omega))⟩, ⟨_, rfl, Qok_val rfl (Ev_move rfl)⟩, ⟨_, rfl, Qok_val rfl (Ev_bini rfl rfl fun _ => bin_add_i _ _ (4*(i:Int) + (j:Int) - 16) (by omega) (by omega))⟩, ⟨_, rfl, Qok_val rfl (Ev_indexSl 5 1 (4*i + j - 16) Tryd.underlying22 Tryd.sizeOf5 rfl rfl (by omega) (by omega) (by omega))⟩, ⟨_, rfl, Qok_val rfl (Ev_load rfl (Ld_one Tryd.isAgg5 (MemAt.ent 1 rfl (Seg.left (Seg.get (g8_get (i := (4*i + j - 16)) (by rw [hy3]; omega)))))))⟩, ⟨_, rfl, Qok_val rfl (Ev_move rfl)⟩, ⟨_, rfl, Qok_val rfl (Ev_move rfl)⟩, ⟨_, rfl, Qok_val rfl (Ev_indexSl 5 1 j Tryd.underlying22 Tryd.sizeOf5 rfl rfl (by omega) (by omega) (by omega))⟩, ⟨_, rfl, Qok_val rfl (Ev_load rfl (Ld_one Tryd.isAgg5 (MemAt.ent 0 rfl (Seg.get (g8_get (i := j) (by simp <;> omega))))))⟩, ⟨_, rfl, Qok_val rfl (Ev_bini rfl rfl fun _ => bin_xor_u8 (g8 u (4*i + j - 16)) (g8 ([g8 ww (4*i - 4), g8 ww (4*i - 3), g8 ww (4*i - 2), g8 ww (4*i - 1)]) j))⟩, trivial⟩ rfl (Cok_step rfl (Step_buildSlice 5 1 _ [(0, U8 ((g8 u (4*i + j - 16)) ^^^ (g8 ([g8 ww (4*i - 4), g8 ww (4*i - 3), g8 ww (4*i - 2), g8 ww (4*i - 1)]) j)))] (cu8 ([(g8 u (4*i + j - 16)) ^^^ (g8 ([g8 ww (4*i - 4), g8 ww (4*i - 3), g8 ww (4*i - 2), g8 ww (4*i - 1)]) j)])) Tryd.underlying22 Tryd.sizeOf5 Tryd.zeroValue5 rfl rfl rfl (by kernel_rfl))) ?_
    rintro v1 L1 ⟨nb8, hnb8, rfl, rfl⟩
    refine ⟨[], ?_⟩
    show DP _ _ _ _ _ _ _ _ [⟨nb4, cu8 ([g8 ww (4*i - 4), g8 ww (4*i - 3), g8 ww (4*i - 2), g8 ww (4*i - 1)]), 5, (0, 0)⟩, ⟨g1, cu8 u ++ sp1, 5, (0, 0)⟩, ⟨nb8, cu8 ([(g8 u (4*i + j - 16)) ^^^ (g8 ([g8 ww (4*i - 4), g8 ww (4*i - 3), g8 ww (4*i - 2), g8 ww (4*i - 1)]) j)]), 5, (0, 0)⟩]
    refine DP_one ⟨[14], [0, 1, 2, 3, 4, 5, 6, 7, 8, 9, 10, 11, 12, 13], [1, 2, 3, 4, 5, 6, 7, 8, 9, 10, 11, 12, 13], [0], [15]⟩ 15 _ rfl rfl (by decide +kernel) rfl ⟨⟨_, rfl, Qok_val rfl (Ev_move rfl)⟩, trivial⟩ rfl (Cok_step rfl (Step_appM8 22 5 [false, true, false] (Slc g1 0 (4*i + j) cp1) (4*i + j) u ([(g8 u (4*i + j - 16)) ^^^ (g8 ([g8 ww (4*i - 4), g8 ww (4*i - 3), g8 ww (4*i - 2), g8 ww (4*i - 1)]) j)]) (some ⟨nb8, 0, none⟩) 1 1 (4*i + j + 1) Tryd.underlying22 Tryd.info5 rfl (.inr ⟨g1, sp1, cp1, rfl, rfl, (by first | exact hy3 | simp [hy3]), hy4, (by omega), (by omega)⟩) rfl (by simp) (SrcAt.mem (MemAt.ent 2 rfl (Seg.whole _))) (by omega) (by unfold maxLen; omega) (by omega))) ?_
    rintro v1 L1 ⟨nb9, sp3, cp3, hg3, rfl, rfl, ha9, ha10, ha11, ha12⟩
    refine ⟨[(16, Slc nb9 0 (4*i + j + 1) cp3)], ?_⟩
    show DP _ _ _ _ _ _ _ _ [⟨nb4, cu8 ([g8 ww (4*i - 4), g8 ww (4*i - 3), g8 ww (4*i - 2), g8 ww (4*i - 1)]), 5, (0, 0)⟩, ⟨nb8, cu8 ([(g8 u (4*i + j - 16)) ^^^ (g8 ([g8 ww (4*i - 4), g8 ww (4*i - 3), g8 ww (4*i - 2), g8 ww (4*i - 1)]) j)]), 5, (0, 0)⟩, ⟨nb9, cu8 (u ++ ([(g8 u (4*i + j - 16)) ^^^ (g8 ([g8 ww (4*i - 4), g8 ww (4*i - 3), g8 ww (4*i - 2), g8 ww (4*i - 1)]) j)])) ++ sp3, 5, (0, 0)⟩]
    refine DP_end ⟨[14, 15], [0, 1, 2, 3, 4, 5, 6, 7, 8, 9, 10, 11, 12, 13, 16], [0, 1, 2, 3, 4, 5, 6, 7, 8, 9, 10, 11, 12, 13], [16], []⟩ rfl rfl (by decide +kernel) rfl ⟨⟨_, rfl, Qok_val rfl (Ev_assign rfl)⟩, trivial⟩ ?_
    refine K_sub (F' := [(68, Slc g1 0 (4*i + j) cp1), (69, Slc g1 0 (4*i + j) cp1), (70, I64 ((i:Int))), (71, I64 (4*(i:Int))), (72, I64 (4*(i:Int) - 16)), (73, I64 ((j:Int))), (74, I64 (4*(i:Int) + (j:Int) - 16)), (75, Ptr g1 (4*i + j - 16)), (76, U8 (g8 u (4*i + j - 16))), (77, Slc nb4 0 4 4), (78, I64 ((j:Int))), (79, Ptr nb4 j), (80, U8 (g8 ([g8 ww (4*i - 4), g8 ww (4*i - 3), g8 ww (4*i - 2), g8 ww (4*i - 1)]) j)), (81, U8 ((g8 u (4*i + j - 16)) ^^^ (g8 ([g8 ww (4*i - 4), g8 ww (4*i - 3), g8 ww (4*i - 2), g8 ww (4*i - 1)]) j))), (82, Slc nb8 0 1 1), (83, Slc nb9 0 (4*i + j + 1) cp3), (3, Slc nb9 0 (4*i + j + 1) cp3), (2, .slice none 0 0), (4, U8 f), (5, I64 ((i:Int))), (6, Slc nb4 0 4 4), (11, I64 ((i:Int))), (12, .bool (decide (((i:Int)) < (44:Int)))), (15, Slc g0 0 (4*i) cp0), (16, I64 ((i:Int))), (17, I64 (4*(i:Int))), (18, I64 (4*(i:Int) - 4)), (19, Ptr g0 (4*i - 4)), (20, U8 (g8 ww (4*i - 4))), (21, Slc g0 0 (4*i) cp0), (22, I64 ((i:Int))), (23, I64 (4*(i:Int))), (24, I64 (4*(i:Int) - 3)), (25, Ptr g0 (4*i - 3)), (26, U8 (g8 ww (4*i - 3))), (27, Slc g0 0 (4*i) cp0), (28, I64 ((i:Int))), (29, I64 (4*(i:Int))), (30, I64 (4*(i:Int) - 2)), (31, Ptr g0 (4*i - 2)), (32, U8 (g8 ww (4*i - 2))), (33, Slc g0 0 (4*i) cp0), (34, I64 ((i:Int))), (35, I64 (4*(i:Int))), (36, I64 (4*(i:Int) - 1)), (37, Ptr g0 (4*i - 1)), (38, U8 (g8 ww (4*i - 1))), (39, Slc nb4 0 4 4), (40, I64 ((i:Int))), (41, I64 ((i % 4:Int))), (42, .bool (decide (((i % 4:Int)) = (0:Int)))), (7, I64 ((j:Int))), (64, I64 ((j:Int))), (65, .bool (decide (((j:Int)) < (4:Int))))]) (Sub.cons (by kernel_rfl) (Sub.cons (by kernel_rfl) (Sub.cons (by kernel_rfl) (Sub.cons (by kernel_rfl) (Sub.cons (by kernel_rfl) (Sub.cons (by kernel_rfl) (Sub.cons (by kernel_rfl) (Sub.cons (by kernel_rfl) (Sub.cons (by kernel_rfl) (Sub.cons (by kernel_rfl) (Sub.cons (by kernel_rfl) (Sub.cons (by kernel_rfl) (Sub.cons (by kernel_rfl) (Sub.cons (by kernel_rfl) (Sub.cons (by kernel_rfl) (Sub.cons (by kernel_rfl) (Sub.cons (by kernel_rfl) (Sub.cons (by kernel_rfl) (Sub.cons (by kernel_rfl) (Sub.cons (by kernel_rfl) (Sub.cons (by kernel_rfl) (Sub.cons (by kernel_rfl) (Sub.cons (by kernel_rfl) (Sub.cons (by kernel_rfl) (Sub.cons (by kernel_rfl) (Sub.cons (by kernel_rfl) (Sub.cons (by kernel_rfl) (Sub.cons (by kernel_rfl) (Sub.cons (by kernel_rfl) (Sub.cons (by kernel_rfl) (Sub.cons (by kernel_rfl) (Sub.cons (by kernel_rfl) (Sub.cons (by kernel_rfl) (Sub.cons (by kernel_rfl) (Sub.cons (by kernel_rfl) (Sub.cons (by kernel_rfl) (Sub.cons (by kernel_rfl) (Sub.cons (by kernel_rfl) (Sub.cons (by kernel_rfl) (Sub.cons (by kernel_rfl) (Sub.cons (by kernel_rfl) (Sub.cons (by kernel_rfl) (Sub.cons (by kernel_rfl) (Sub.cons (by kernel_rfl) (Sub.cons (by kernel_rfl) (Sub.cons (by kernel_rfl) (Sub.cons (by kernel_rfl) (Sub.cons (by kernel_rfl) (Sub.cons (by kernel_rfl) (Sub.cons (by kernel_rfl) (Sub.cons (by kernel_rfl) (Sub.cons (by kernel_rfl) (Sub.cons (by kernel_rfl) (Sub.cons (by kernel_rfl) (Sub.nil))))))))))))))))))))))))))))))))))))))))))))))))))))))) ?_
    show JQ _ _ _ [(68, Slc g1 0 (4*i + j) cp1), (69, Slc g1 0 (4*i + j) cp1), (70, I64 ((i:Int))), (71, I64 (4*(i:Int))), (72, I64 (4*(i:Int) - 16)), (73, I64 ((j:Int))), (74, I64 (4*(i:Int) + (j:Int) - 16)), (75, Ptr g1 (4*i + j - 16)), (76, U8 (g8 u (4*i + j - 16))), (77, Slc nb4 0 4 4), (78, I64 ((j:Int))), (79, Ptr nb4 j), (80, U8 (g8 ([g8 ww (4*i - 4), g8 ww (4*i - 3), g8 ww (4*i - 2), g8 ww (4*i - 1)]) j)), (81, U8 ((g8 u (4*i + j - 16)) ^^^ (g8 ([g8 ww (4*i - 4), g8 ww (4*i - 3), g8 ww (4*i - 2), g8 ww (4*i - 1)]) j))), (82, Slc nb8 0 1 1), (83, Slc nb9 0 (4*i + j + 1) cp3), (3, Slc nb9 0 (4*i + j + 1) cp3), (2, .slice none 0 0), (4, U8 f), (5, I64 ((i:Int))), (6, Slc nb4 0 4 4), (11, I64 ((i:Int))), (12, .bool (decide (((i:Int)) < (44:Int)))), (15, Slc g0 0 (4*i) cp0), (16, I64 ((i:Int))), (17, I64 (4*(i:Int))), (18, I64 (4*(i:Int) - 4)), (19, Ptr g0 (4*i - 4)), (20, U8 (g8 ww (4*i - 4))), (21, Slc g0 0 (4*i) cp0), (22, I64 ((i:Int))), (23, I64 (4*(i:Int))), (24, I64 (4*(i:Int) - 3)), (25, Ptr g0 (4*i - 3)), (26, U8 (g8 ww (4*i - 3))), (27, Slc g0 0 (4*i) cp0), (28, I64 ((i:Int))), (29, I64 (4*(i:Int))), (30, I64 (4*(i:Int) - 2)), (31, Ptr g0 (4*i - 2)), (32, U8 (g8 ww (4*i - 2))), (33, Slc g0 0 (4*i) cp0), (34, I64 ((i:Int))), (35, I64 (4*(i:Int))), (36, I64 (4*(i:Int) - 1)), (37, Ptr g0 (4*i - 1)), (38, U8 (g8 ww (4*i - 1))), (39, Slc nb4 0 4 4), (40, I64 ((i:Int))), (41, I64 ((i % 4:Int))), (42, .bool (decide (((i % 4:Int)) = (0:Int)))), (7, I64 ((j:Int))), (64, I64 ((j:Int))), (65, .bool (decide (((j:Int)) < (4:Int))))] _
    refine JQ_in_normal ?_
    refine JQ_then ?_
    refine JC_region ?_
    refine JL_val _ (Ev_move rfl) rfl ?_
    refine JL_val (I64 ((j:Int) + 1)) (Ev_bini rfl rfl fun _ => bin_add_i _ _ ((j:Int) + 1) (by omega) (by omega)) rfl ?_
    refine JL_val _ (Ev_assign rfl) rfl ?_
    refine JL_nil ?_
    refine JQ_thenK ?_
    refine K_mask [true, false, true] ?_
    show K _ _ [⟨nb4, cu8 ([g8 ww (4*i - 4), g8 ww (4*i - 3), g8 ww (4*i - 2), g8 ww (4*i - 1)]), 5, (0, 0)⟩, ⟨nb9, cu8 (u ++ ([(g8 u (4*i + j - 16)) ^^^ (g8 ([g8 ww (4*i - 4), g8 ww (4*i - 3), g8 ww (4*i - 2), g8 ww (4*i - 1)]) j)])) ++ sp3, 5, (0, 0)⟩] _
    refine K_next (j + 1, u ++ ([(g8 u (4*i + j - 16)) ^^^ (g8 ([g8 ww (4*i - 4), g8 ww (4*i - 3), g8 ww (4*i - 2), g8 ww (4*i - 1)]) j)]), nb9, sp3, cp3) ⟨by omega, by rw [rIn, ← hy2], by rw [ha9]; omega, by rw [ha10]; omega, by omega, by omega⟩ (by first | (simp; omega) | simp | (dsimp only; omega) | omega) (Sub.cons rfl (Sub.cons rfl (Sub.cons rfl (Sub.cons rfl (Sub.cons rfl (Sub.cons rfl (Sub.cons rfl (Sub.cons rfl (Sub.cons rfl (Sub.cons rfl (Sub.cons rfl (Sub.cons rfl (Sub.cons rfl (Sub.cons rfl (Sub.cons rfl (Sub.cons rfl (Sub.cons rfl (Sub.cons rfl (Sub.cons rfl (Sub.cons rfl (Sub.cons rfl (Sub.cons rfl (Sub.cons rfl (Sub.cons rfl (Sub.cons rfl (Sub.cons rfl (Sub.cons rfl (Sub.cons rfl (Sub.cons rfl (Sub.cons rfl (Sub.cons rfl (Sub.cons rfl (Sub.cons rfl (Sub.cons rfl (Sub.cons (some_slc (by omega)) (Sub.cons rfl (Sub.nil))))))))))))))))))))))))))))))))))))) rfl
   ·
    have hp4 : ¬ (((j:Int)) < (4:Int)) := of_decide_eq_false hb4
    refine JC_exit ?_
    refine JQ_then_exit ?_
    refine JQ_then_exit ?_
    refine JQ_in_same ?_
    refine JQ_in_normal ?_
    refine JQ_then ?_
    refine JC_region ?_
    refine JL_val _ (Ev_move rfl) rfl ?_
    refine JL_val (I64 ((i:Int) + 1)) (Ev_bini rfl rfl fun _ => bin_add_i _ _ ((i:Int) + 1) (by omega) (by omega)) rfl ?_
    refine JL_val _ (Ev_assign rfl) rfl ?_
    refine JL_nil ?_
    refine JQ_thenK ?_
    refine K_mask [false, true] ?_
    show K _ _ [⟨g1, cu8 u ++ sp1, 5, (0, 0)⟩] _
    refine K_next (i + 1, f, u, g1, sp1, cp1) ⟨by omega, by omega, by rw [show i + 1 - 4 = (i - 4) + 1 from by omega, rN, ← hx3]; simp only [rStep, show i - 4 + 4 = i from by omega]; rw [if_neg (by omega), hy2, show j = 4 from by omega], by omega, by omega, by omega, hy6⟩ (by first | (simp; omega) | simp | (dsimp only; omega) | omega) (Sub.cons rfl (Sub.cons (some_slc (by omega)) (Sub.cons rfl (Sub.cons rfl (Sub.nil))))) rfl
 ·
  have hp1 : ¬ (((i:Int)) < (44:Int)) := of_decide_eq_false hb1
  refine JC_exit ?_
  refine JQ_then_exit ?_
  refine JQ_then_exit ?_
  refine JQ_in_same ?_
  refine JQ_then ?_
  refine JC_seq ?_
  refine JC_region ?_
  refine JL_val _ (Ev_move rfl) rfl ?_
  refine JL_val _ (Ev_assign rfl) rfl ?_
  refine JL_nil ?_
  refine JQ_then ?_
  refine JC_ret ?_
  refine JQ_ret (Slc g0 0 (4*i) cp0) (res1 Tryd.results127 (RV_tmp rfl)) fun w1 hw1 => ?_
  have e1 : i = 44 := by omega
  subst e1
  have e3 : ww = rkeysL key := by rw [rkeysL, ← hx3]
  rw [e3] at hw1
  exact ⟨_, _, rfl, ⟨g0, sp0, cp0, hx6, hx5, rfl, rfl⟩, hw1⟩
theorem radd_c (b ks : List UInt8) (c cap n : Nat) (w : World) (hb : b.length = 16) (hks : ks.length = 176) (hn : n ≤ 10) (hm : RdA w c 0 (cu8 ks)) : Calls Tryd.prog 145 #[.agg (cu8 b).toArray, Slc c 0 176 cap, I64 ((n:Int))] w (Post w [] (fun v L => v = .agg (cu8 (raddL ks n b)).toArray ∧ L = [])) := by
 refine enter w [] 26 [] [.agg (cu8 b).toArray, Slc c 0 176 cap, I64 ((n:Int))] Tryd.func145 rfl rfl (by simp) (Hp.start (by simp) (by simp) (by simp)) ?_
 show JC _ _ _ [(0, .agg (cu8 b).toArray), (1, Slc c 0 176 cap), (2, I64 ((n:Int)))] _
 refine JC_seq ?_
 refine JC_region ?_
 refine JL_step (Step_box (.agg (cu8 b).toArray) (cu8 b) rfl (by first | rfl | simp)) rfl ?_
 rintro v1 L1 ⟨nb1, hnb1, rfl, rfl⟩
 show JL _ _ _ _ ((3, Ptr nb1 0) :: _) [⟨nb1, cu8 b, 54, (0, 0)⟩]
 refine JL_step (Step_alloc _ (cu8 (zr8 16)) Tryd.zeroValue54 (by kernel_rfl)) rfl ?_
 rintro v1 L1 ⟨nb2, hnb2, rfl, rfl⟩
 show JL _ _ _ _ ((6, Ptr nb2 0) :: _) [⟨nb1, cu8 b, 54, (0, 0)⟩, ⟨nb2, cu8 (zr8 16), 54, (0, 0)⟩]
 refine JL_nil ?_
 refine JQ_then ?_
 refine JC_seq ?_
 refine JC_seq ?_
 refine JC_region ?_
 refine JL_val _ (Ev_assign rfl) rfl ?_
 refine JL_nil ?_
 refine JQ_then ?_
 refine JC_block ?_
 refine JC_loop (ι := Nat × List UInt8) (fun ⟨k, s⟩ => [(1, Slc c 0 176 cap), (2, I64 ((n:Int))), (3, Ptr nb1 0), (6, Ptr nb2 0), (7, I64 ((k:Int)))]) (fun ⟨k, s⟩ => [⟨nb1, cu8 s, 54, (0, 0)⟩, ⟨nb2, cu8 (zr8 16), 54, (0, 0)⟩]) (fun ⟨k, s⟩ => k ≤ 16 ∧ s = raddN ks n b k ∧ s.length = 16) (fun ⟨k, s⟩ => 16 - k) (0, b) ⟨by omega, rfl, hb⟩ (Sub.cons rfl (Sub.cons rfl (Sub.cons rfl (Sub.cons rfl (Sub.cons rfl (Sub.nil)))))) rfl ?_
 rintro ⟨k, s⟩ ⟨hx1, hx2, hs⟩
 show JC _ _ _ [(1, Slc c 0 176 cap), (2, I64 ((n:Int))), (3, Ptr nb1 0), (6, Ptr nb2 0), (7, I64 ((k:Int)))] [⟨nb1, cu8 s, 54, (0, 0)⟩, ⟨nb2, cu8 (zr8 16), 54, (0, 0)⟩]
 refine JC_seq ?_
 refine JC_seq ?_
 refine JC_region ?_
 refine JL_val _ (Ev_move rfl) rfl ?_
 refine JL_val (.bool (decide (((k:Int)) < (16:Int)))) (Ev_bini rfl rfl fun _ => bin_lss_i _ _) rfl ?_
 refine JL_nil ?_
 refine JQ_then ?_
 refine JC_cond (decide (((k:Int)) < (16:Int))) rfl (fun hb1 => ?_) (fun hb1 => ?_)
 ·
  have hp1 : ((k:Int)) < (16:Int) := of_decide_eq_true hb1
  refine JC_skip ?_
  refine JQ_then ?_
  refine JC_seq ?_
  refine JC_block ?_
  refine JC_draw 26 2 [(0, I64 ((k:Int))), (1, I64 ((k:Int))), (2, Ptr nb1 k), (3, U8 (g8 s k)), (4, Slc c 0 176 cap), (5, I64 ((n:Int))), (6, I64 (16*(n:Int))), (7, I64 ((k:Int))), (8, I64 ((k:Int) + 16*(n:Int))), (9, Ptr c (k + 16*n)), (10, U8 (g8 ks (k + 16*n))), (11, U8 ((g8 s k) ^^^ (g8 ks (k + 16*n)))), (12, Ptr nb1 k)] Tryd.mixed rfl (by decide +kernel) ?_
  have hl1 : (s.set k ((g8 s k) ^^^ (g8 ks (k + 16*n)))).length = 16 := by first | (rw [List.length_set]; exact hs) | simp [hs]
  refine DP_one ⟨[], [0, 1, 2, 3, 4, 5, 6, 7, 8, 9, 10, 11, 12], [], [0, 1, 2, 3, 4, 5, 6, 7, 8, 9, 10, 11, 12], [13]⟩ 13 _ rfl rfl (by decide +kernel) rfl ⟨⟨_, rfl, Qok_val rfl (Ev_move rfl)⟩, ⟨_, rfl, Qok_val rfl (Ev_move rfl)⟩, ⟨_, rfl, Qok_val rfl (Ev_indexArr 16 5 1 k Tryd.underlying54 Tryd.sizeOf5 rfl rfl (by omega) (by omega) (by omega))⟩, ⟨_, rfl, Qok_val rfl (Ev_load rfl (Ld_one Tryd.isAgg5 (MemAt.ent 0 rfl (Seg.get (g8_get (i := k) (by rw [hs]; omega))))))⟩, ⟨_, rfl, Qok_val rfl (Ev_move rfl)⟩, ⟨_, rfl, Qok_val rfl (Ev_move rfl)⟩, ⟨_, rfl, Qok_val rfl (Ev_bini rfl rfl fun _ => bin_mul_i _ _ (16*(n:Int)) (by omega) (by omega))⟩, ⟨_, rfl, Qok_val rfl (Ev_move rfl)⟩, ⟨_, rfl, Qok_val rfl (Ev_bini rfl rfl fun _ => bin_add_i _ _ ((k:Int) + 16*(n:Int)) (by omega) (by omega))⟩, ⟨_, rfl, Qok_val rfl (Ev_indexSl 5 1 (k + 16*n) Tryd.underlying22 Tryd.sizeOf5 rfl rfl (by omega) (by omega) (by omega))⟩, ⟨_, rfl, Qok_val rfl (Ev_load rfl (Ld_one Tryd.isAgg5 (MemAt.seg (hm.mem (by simp)) (Seg.get (g8_get (i := (k + 16*n)) (by rw [hks]; omega))) (by omega))))⟩, ⟨_, rfl, Qok_val rfl (Ev_bini rfl rfl fun _ => bin_xor_u8 (g8 s k) (g8 ks (k + 16*n)))⟩, ⟨_, rfl, Qok_val rfl (Ev_indexArr 16 5 1 k Tryd.underlying54 Tryd.sizeOf5 rfl rfl (by omega) (by omega) (by omega))⟩, trivial⟩ rfl (Cok_step rfl (Step_store 0 nb1 k 1 (cu8 s) 54 (U8 ((g8 s k) ^^^ (g8 ks (k + 16*n)))) ([U8 ((g8 s k) ^^^ (g8 ks (k + 16*n)))]) (cu8 (s.set k ((g8 s k) ^^^ (g8 ks (k + 16*n))))) rfl rfl rfl rfl Tryd.sizeOf5 rfl (by simp [Value.oneCell']) (by simp [hs]; try omega) (lay8 _ _ _ (by rw [hs]; omega)))) ?_
  rintro v1 L1 ⟨rfl, rfl⟩
  refine ⟨[], ?_⟩
  show DP _ _ _ _ _ _ _ _ [⟨nb1, cu8 (s.set k ((g8 s k) ^^^ (g8 ks (k + 16*n)))), 54, (0, 0)⟩, ⟨nb2, cu8 (zr8 16), 54, (0, 0)⟩]
  refine DP_end ⟨[13], [0, 1, 2, 3, 4, 5, 6, 7, 8, 9, 10, 11, 12], [0, 1, 2, 3, 4, 5, 6, 7, 8, 9, 10, 11, 12], [], []⟩ rfl rfl (by decide +kernel) rfl trivial ?_
  refine K_sub (F' := [(12, I64 ((k:Int))), (13, I64 ((k:Int))), (14, Ptr nb1 k), (15, U8 (g8 s k)), (16, Slc c 0 176 cap), (17, I64 ((n:Int))), (18, I64 (16*(n:Int))), (19, I64 ((k:Int))), (20, I64 ((k:Int) + 16*(n:Int))), (21, Ptr c (k + 16*n)), (22, U8 (g8 ks (k + 16*n))), (23, U8 ((g8 s k) ^^^ (g8 ks (k + 16*n)))), (24, Ptr nb1 k), (1, Slc c 0 176 cap), (2, I64 ((n:Int))), (3, Ptr nb1 0), (6, Ptr nb2 0), (7, I64 ((k:Int))), (8, I64 ((k:Int))), (9, .bool (decide (((k:Int)) < (16:Int))))]) (Sub.cons (by kernel_rfl) (Sub.cons (by kernel_rfl) (Sub.cons (by kernel_rfl) (Sub.cons (by kernel_rfl) (Sub.cons (by kernel_rfl) (Sub.cons (by kernel_rfl) (Sub.cons (by kernel_rfl) (Sub.cons (by kernel_rfl) (Sub.cons (by kernel_rfl) (Sub.cons (by kernel_rfl) (Sub.cons (by kernel_rfl) (Sub.cons (by kernel_rfl) (Sub.cons (by kernel_rfl) (Sub.cons (by kernel_rfl) (Sub.cons (by kernel_rfl) (Sub.cons (by kernel_rfl) (Sub.cons (by kernel_rfl) (Sub.cons (by kernel_rfl) (Sub.cons (by kernel_rfl) (Sub.cons (by kernel_rfl) (Sub.nil))))))))))))))))))))) ?_
  show JQ _ _ _ [(12, I64 ((k:Int))), (13, I64 ((k:Int))), (14, Ptr nb1 k), (15, U8 (g8 s k)), (16, Slc c 0 176 cap), (17, I64 ((n:Int))), (18, I64 (16*(n:Int))), (19, I64 ((k:Int))), (20, I64 ((k:Int) + 16*(n:Int))), (21, Ptr c (k + 16*n)), (22, U8 (g8 ks (k + 16*n))), (23, U8 ((g8 s k) ^^^ (g8 ks (k + 16*n)))), (24, Ptr nb1 k), (1, Slc c 0 176 cap), (2, I64 ((n:Int))), (3, Ptr nb1 0), (6, Ptr nb2 0), (7, I64 ((k:Int))), (8, I64 ((k:Int))), (9, .bool (decide (((k:Int)) < (16:Int))))] _
  refine JQ_in_normal ?_
  refine JQ_then ?_
  refine JC_region ?_
  refine JL_val _ (Ev_move rfl) rfl ?_
  refine JL_val (I64 ((k:Int) + 1)) (Ev_bini rfl rfl fun _ => bin_add_i _ _ ((k:Int) + 1) (by omega) (by omega)) rfl ?_
  refine JL_val _ (Ev_assign rfl) rfl ?_
  refine JL_nil ?_
  refine JQ_thenK ?_
  refine K_next (k + 1, s.set k ((g8 s k) ^^^ (g8 ks (k + 16*n)))) ⟨by omega, by rw [raddN, ← hx2], hl1⟩ (by first | (simp; omega) | simp | (dsimp only; omega) | omega) (Sub.cons rfl (Sub.cons rfl (Sub.cons rfl (Sub.cons rfl (Sub.cons rfl (Sub.nil)))))) rfl
 ·
  have hp1 : ¬ (((k:Int)) < (16:Int)) := of_decide_eq_false hb1
  refine JC_exit ?_
  refine JQ_then_exit ?_
  refine JQ_then_exit ?_
  refine JQ_in_same ?_
  refine JQ_then ?_
  refine JC_seq ?_
  refine JC_region ?_
  refine JL_val (.agg (cu8 s).toArray) (Ev_load rfl (Ld_agg Tryd.isAgg54 Tryd.sizeOf54 (len_cu8 hs) (MemAt.ent 0 rfl (Seg.whole _)))) rfl ?_
  refine JL_step (Step_store 1 nb2 0 16 (cu8 (zr8 16)) 54 (.agg (cu8 s).toArray) (cu8 s) (cu8 s) rfl rfl rfl (by first | rfl | simp) Tryd.sizeOf54 (len_cu8 hs) (by first | exact one_u8 | exact one_u32 | exact one_u64 | (simp [cu8, cu32, cu64, Value.oneCell']; done)) (by simp [(zr8_len 16)]) (lay_whole (by simp [(zr8_len 16), hs]))) rfl ?_
  rintro v1 L1 ⟨rfl, rfl⟩
  show JL _ _ _ _ _ [⟨nb1, cu8 s, 54, (0, 0)⟩, ⟨nb2, cu8 s, 54, (0, 0)⟩]
  refine JL_nil ?_
  refine JQ_then ?_
  refine JC_ret ?_
  refine JQ_ret (.agg (cu8 s).toArray) (res1 Tryd.results145 (RV_cell rfl (Ld_agg Tryd.isAgg54 Tryd.sizeOf54 (len_cu8 hs) (MemAt.ent 1 rfl (Seg.whole _))))) fun w1 hw1 => ?_
  have e1 : k = 16 := by omega
  subst e1
  rw [show s = raddL ks n b from by rw [raddL]; exact hx2]
  exact ⟨_, [], rfl, ⟨rfl, rfl⟩, hw1.sub (by simp) (by simp)⟩
theorem renc_c (b ks : List UInt8) (c cap : Nat) (w : World) (hb : b.length = 16) (hks : ks.length = 176) (hm : RdA w c 0 (cu8 ks)) : Calls Tryd.prog 140 #[Slc c 0 176 cap, .agg (cu8 b).toArray] w (Post w [] (fun v L => v = .agg (cu8 (rencL ks b)).toArray ∧ L = [])) := by
 refine enter w [] 135 [] [Slc c 0 176 cap, .agg (cu8 b).toArray] Tryd.func140 rfl rfl (by simp) (Hp.start (by simp) (by simp) (by simp)) ?_
 show JC _ _ _ [(0, Slc c 0 176 cap), (1, .agg (cu8 b).toArray)] _
 refine JC_seq ?_
 refine JC_region ?_
 refine JL_step (Step_box (.agg (cu8 b).toArray) (cu8 b) rfl (by first | rfl | simp)) rfl ?_
 rintro v1 L1 ⟨nb1, hnb1, rfl, rfl⟩
 show JL _ _ _ _ ((3, Ptr nb1 0) :: _) [⟨nb1, cu8 b, 54, (0, 0)⟩]
 refine JL_step (Step_alloc _ (cu8 (zr8 16)) Tryd.zeroValue54 (by kernel_rfl)) rfl ?_
 rintro v1 L1 ⟨nb2, hnb2, rfl, rfl⟩
 show JL _ _ _ _ ((4, Ptr nb2 0) :: _) [⟨nb1, cu8 b, 54, (0, 0)⟩, ⟨nb2, cu8 (zr8 16), 54, (0, 0)⟩]
 refine JL_nil ?_
 refine JQ_then ?_
 refine JC_seq ?_
 refine JC_region ?_
 refine JL_val (.agg (cu8 b).toArray) (Ev_load rfl (Ld_agg Tryd.isAgg54 Tryd.sizeOf54 (len_cu8 hb) (MemAt.ent 0 rfl (Seg.whole _)))) rfl ?_
 refine JL_val _ (Ev_move rfl) rfl ?_
 refine JL_step (Step_callP 145 [.agg (cu8 b).toArray, Slc c 0 176 cap, I64 (0:Int)] (.agg (cu8 (raddL ks 0 b)).toArray) (Cl_func [.agg (cu8 b).toArray, Slc c 0 176 cap, I64 (0:Int)] Tryd.call145 rfl) (fun w1 hw1 => radd_c b ks c cap 0 w1 hb hks (by omega) (RdA.of hw1 (MemAt.seg (hm.mem (by simp)) (Seg.whole _) (by omega)) (by simp [hks])))) rfl ?_
 rintro v1 L1 ⟨rfl, rfl⟩
 show JL _ _ _ _ ((17, .agg (cu8 (raddL ks 0 b)).toArray) :: _) [⟨nb1, cu8 b, 54, (0, 0)⟩, ⟨nb2, cu8 (zr8 16), 54, (0, 0)⟩]
 refine JL_step (Step_alloc _ (cu8 (zr8 16)) Tryd.zeroValue54 (by kernel_rfl)) rfl ?_
 rintro v1 L1 ⟨nb3, hnb3, rfl, rfl⟩
 show JL _ _ _ _ ((5, Ptr nb3 0) :: _) [⟨nb1, cu8 b, 54, (0, 0)⟩, ⟨nb2, cu8 (zr8 16), 54, (0, 0)⟩, ⟨nb3, cu8 (zr8 16), 54, (0, 0)⟩]
 refine JL_step (Step_store 2 nb3 0 16 (cu8 (zr8 16)) 54 (.agg (cu8 (raddL ks 0 b)).toArray) (cu8 (raddL ks 0 b)) (cu8 (raddL ks 0 b)) rfl rfl rfl (by first | rfl | simp) Tryd.sizeOf54 (len_cu8 (raddL_len hb)) (by first | exact one_u8 | exact one_u32 | exact one_u64 | (simp [cu8, cu32, cu64, Value.oneCell']; done)) (by simp [(zr8_len 16)]) (lay_whole (by simp [(zr8_len 16), (raddL_len hb)]))) rfl ?_
 rintro v1 L1 ⟨rfl, rfl⟩
 show JL _ _ _ _ _ [⟨nb1, cu8 b, 54, (0, 0)⟩, ⟨nb2, cu8 (zr8 16), 54, (0, 0)⟩, ⟨nb3, cu8 (raddL ks 0 b), 54, (0, 0)⟩]
 refine JL_nil ?_
 refine JQ_then ?_
 refine JC_seq ?_
 refine JC_seq ?_
 refine JC_region ?_
 refine JL_val _ (Ev_assign rfl) rfl ?_
 refine JL_nil ?_
 refine JQ_then ?_
 refine JC_block ?_
 refine K_mask [false, true, true] ?_
 show JC _ _ _ _ [⟨nb2, cu8 (zr8 16), 54, (0, 0)⟩, ⟨nb3, cu8 (raddL ks 0 b), 54, (0, 0)⟩]
 refine JC_loop (ι := Nat × List UInt8) (fun ⟨n, s⟩ => [(0, Slc c 0 176 cap), (4, Ptr nb2 0), (5, Ptr nb3 0), (6, I64 ((n:Int)))]) (fun ⟨n, s⟩ => [⟨nb2, cu8 (zr8 16), 54, (0, 0)⟩, ⟨nb3, cu8 s, 54, (0, 0)⟩]) (fun ⟨n, s⟩ => 1 ≤ n ∧ n ≤ 11 ∧ s = rencN ks b (n - 1) ∧ s.length = 16) (fun ⟨n, s⟩ => 11 - n) (1, raddL ks 0 b) ⟨by omega, by omega, rfl, raddL_len hb⟩ (Sub.cons rfl (Sub.cons rfl (Sub.cons rfl (Sub.cons rfl (Sub.nil))))) rfl ?_
 rintro ⟨n, s⟩ ⟨hx1, hx2, hx3, hs⟩
 show JC _ _ _ [(0, Slc c 0 176 cap), (4, Ptr nb2 0), (5, Ptr nb3 0), (6, I64 ((n:Int)))] [⟨nb2, cu8 (zr8 16), 54, (0, 0)⟩, ⟨nb3, cu8 s, 54, (0, 0)⟩]
 refine JC_seq ?_
 refine JC_seq ?_
 refine JC_region ?_
 refine JL_val _ (Ev_move rfl) rfl ?_
 refine JL_val (.bool (decide (((n:Int)) ≤ (10:Int)))) (Ev_bini rfl rfl fun _ => bin_leq_i _ _) rfl ?_
 refine JL_nil ?_
 refine JQ_then ?_
 refine JC_cond (decide (((n:Int)) ≤ (10:Int))) rfl (fun hb1 => ?_) (fun hb1 => ?_)
 ·
  have hp1 : ((n:Int)) ≤ (10:Int) := of_decide_eq_true hb1
  refine JC_skip ?_
  refine JQ_then ?_
  refine JC_seq ?_
  refine JC_block ?_
  refine JC_seq ?_
  refine JC_region ?_
  refine JL_step (Step_alloc _ (cu8 (zr8 16)) Tryd.zeroValue54 (by kernel_rfl)) rfl ?_
  rintro v1 L1 ⟨nb4, hnb4, rfl, rfl⟩
  show JL _ _ _ _ ((7, Ptr nb4 0) :: _) [⟨nb2, cu8 (zr8 16), 54, (0, 0)⟩, ⟨nb3, cu8 s, 54, (0, 0)⟩, ⟨nb4, cu8 (zr8 16), 54, (0, 0)⟩]
  refine JL_nil ?_
  refine JQ_then ?_
  refine JC_seq ?_
  refine JC_seq ?_
  refine JC_region ?_
  refine JL_val _ (Ev_assign rfl) rfl ?_
  refine JL_nil ?_
  refine JQ_then ?_
  refine JC_block ?_
  refine JC_loop (ι := Nat × List UInt8) (fun ⟨cc, t⟩ => [(0, Slc c 0 176 cap), (4, Ptr nb2 0), (5, Ptr nb3 0), (6, I64 ((n:Int))), (7, Ptr nb4 0), (18, I64 ((n:Int))), (19, .bool (decide (((n:Int)) ≤ (10:Int)))), (8, I64 ((cc:Int)))]) (fun ⟨cc, t⟩ => [⟨nb2, cu8 (zr8 16), 54, (0, 0)⟩, ⟨nb3, cu8 s, 54, (0, 0)⟩, ⟨nb4, cu8 t, 54, (0, 0)⟩]) (fun ⟨cc, t⟩ => cc ≤ 4 ∧ t = rshN s cc ∧ t.length = 16) (fun ⟨cc, t⟩ => 4 - cc) (0, zr8 16) ⟨by omega, by rw [rshN], zr8_len 16⟩ (Sub.cons rfl (Sub.cons rfl (Sub.cons rfl (Sub.cons rfl (Sub.cons rfl (Sub.cons rfl (Sub.cons rfl (Sub.cons rfl (Sub.nil))))))))) rfl ?_
  rintro ⟨cc, t⟩ ⟨hy1, hy2, ht⟩
  show JC _ _ _ [(0, Slc c 0 176 cap), (4, Ptr nb2 0), (5, Ptr nb3 0), (6, I64 ((n:Int))), (7, Ptr nb4 0), (18, I64 ((n:Int))), (19, .bool (decide (((n:Int)) ≤ (10:Int)))), (8, I64 ((cc:Int)))] [⟨nb2, cu8 (zr8 16), 54, (0, 0)⟩, ⟨nb3, cu8 s, 54, (0, 0)⟩, ⟨nb4, cu8 t, 54, (0, 0)⟩]
  refine JC_seq ?_
  refine JC_seq ?_
  refine JC_region ?_
  refine JL_val _ (Ev_move rfl) rfl ?_
  refine JL_val (.bool (decide (((cc:Int)) < (4:Int)))) (Ev_bini rfl rfl fun _ => bin_lss_i _ _) rfl ?_
  refine JL_nil ?_
  refine JQ_then ?_
  refine JC_cond (decide (((cc:Int)) < (4:Int))) rfl (fun hb2 => ?_) (fun hb2 => ?_)
  ·
   have hp2 : ((cc:Int)) < (4:Int) := of_decide_eq_true hb2
   refine JC_skip ?_
   refine JQ_then ?_
   refine JC_seq ?_
   refine JC_block ?_
   refine JC_seq ?_
   refine JC_region ?_
   refine JL_val _ (Ev_assign rfl) rfl ?_
   refine JL_nil ?_
   refine JQ_then ?_
   refine JC_block ?_
   refine JC_loop (ι := Nat × List UInt8) (fun ⟨r, u⟩ => [(0, Slc c 0 176 cap), (4, Ptr nb2 0), (5, Ptr nb3 0), (6, I64 ((n:Int))), (7, Ptr nb4 0), (8, I64 ((cc:Int))), (18, I64 ((n:Int))), (19, .bool (decide (((n:Int)) ≤ (10:Int)))), (22, I64 ((cc:Int))), (23, .bool (decide (((cc:Int)) < (4:Int)))), (9, I64 ((r:Int)))]) (fun ⟨r, u⟩ => [⟨nb2, cu8 (zr8 16), 54, (0, 0)⟩, ⟨nb3, cu8 s, 54, (0, 0)⟩, ⟨nb4, cu8 u, 54, (0, 0)⟩]) (fun ⟨r, u⟩ => r ≤ 4 ∧ u = rshIn s t cc r ∧ u.length = 16) (fun ⟨r, u⟩ => 4 - r) (0, t) ⟨by omega, by rw [rshIn], ht⟩ (Sub.cons rfl (Sub.cons rfl (Sub.cons rfl (Sub.cons rfl (Sub.cons rfl (Sub.cons rfl (Sub.cons rfl (Sub.cons rfl (Sub.cons rfl (Sub.cons rfl (Sub.cons rfl (Sub.nil)))))))))))) rfl ?_
   rintro ⟨r, u⟩ ⟨hz1, hz2, hu⟩
   show JC _ _ _ [(0, Slc c 0 176 cap), (4, Ptr nb2 0), (5, Ptr nb3 0), (6, I64 ((n:Int))), (7, Ptr nb4 0), (8, I64 ((cc:Int))), (18, I64 ((n:Int))), (19, .bool (decide (((n:Int)) ≤ (10:Int)))), (22, I64 ((cc:Int))), (23, .bool (decide (((cc:Int)) < (4:Int)))), (9, I64 ((r:Int)))] [⟨nb2, cu8 (zr8 16), 54, (0, 0)⟩, ⟨nb3, cu8 s, 54, (0, 0)⟩, ⟨nb4, cu8 u, 54, (0, 0)⟩]
   refine JC_seq ?_
   refine JC_seq ?_
   refine JC_region ?_
   refine JL_val _ (Ev_move rfl) rfl ?_
   refine JL_val (.bool (decide (((r:Int)) < (4:Int)))) (Ev_bini rfl rfl fun _ => bin_lss_i _ _) rfl ?_
   refine JL_nil ?_
   refine JQ_then ?_
   refine JC_cond (decide (((r:Int)) < (4:Int))) rfl (fun hb3 => ?_) (fun hb3 => ?_)
   ·
    have hp3 : ((r:Int)) < (4:Int) := of_decide_eq_true hb3
    refine JC_skip ?_
    refine JQ_then ?_
    refine JC_seq ?_
    refine JC_block ?_
    refine JC_region ?_
    refine JL_val _ (Ev_move rfl) rfl ?_
    refine JL_val (I64 (4*(cc:Int))) (Ev_bini rfl rfl fun _ => bin_mul_i _ _ (4*(cc:Int)) (by omega) (by omega)) rfl ?_
    refine JL_val _ (Ev_move rfl) rfl ?_
    refine JL_val (I64 (4*(cc:Int) + (r:Int))) (Ev_bini rfl rfl fun _ => bin_add_i _ _ (4*(cc:Int) + (r:Int)) (by omega) (by omega)) rfl ?_
    refine JL_val _ (Ev_move rfl) rfl ?_
    refine JL_val _ (Ev_move rfl) rfl ?_
    refine JL_val (I64 ((cc:Int) + (r:Int))) (Ev_bini rfl rfl fun _ => bin_add_i _ _ ((cc:Int) + (r:Int)) (by omega) (by omega)) rfl ?_
    obtain ⟨dq1, hdq1, hdq1a, hdq1b⟩ : ∃ q : Nat, q = (cc + r) % 4 ∧ (q : Int) = ((cc:Int) + (r:Int)) % 4 ∧ (q < 4) := ⟨_, rfl, by first | rfl | omega, by omega⟩
    refine JL_val (I64 ((dq1:Int))) (Ev_bini rfl rfl fun _ => bin_rem_i _ _ ((dq1:Int)) (by omega) (by omega) (by omega)) rfl ?_
    refine JL_val (I64 (4*(dq1:Int))) (Ev_bini rfl rfl fun _ => bin_mul_i _ _ (4*(dq1:Int)) (by omega) (by omega)) rfl ?_
    refine JL_val _ (Ev_move rfl) rfl ?_
    refine JL_val (I64 (4*(dq1:Int) + (r:Int))) (Ev_bini rfl rfl fun _ => bin_add_i _ _ (4*(dq1:Int) + (r:Int)) (by omega) (by omega)) rfl ?_
    refine JL_val (Ptr nb3 (4*dq1 + r)) (Ev_indexArr 16 5 1 (4*dq1 + r) Tryd.underlying54 Tryd.sizeOf5 rfl rfl (by omega) (by omega) (by omega)) rfl ?_
    refine JL_val (U8 (g8 s (4*dq1 + r))) (Ev_load rfl (Ld_one Tryd.isAgg5 (MemAt.ent 1 rfl (Seg.get (g8_get (i := (4*dq1 + r)) (by rw [hs]; omega)))))) rfl ?_
    refine JL_val (U8 (g8 subsL ((g8 s (4*dq1 + r)).toNat))) (Ev_indexStrL subsL ((g8 s (4*dq1 + r)).toNat) Tryd.underlying9 rfl rfl (by have := UInt8.toNat_lt (g8 s (4*dq1 + r)); omega) (by rw [subsL_len]; have := UInt8.toNat_lt (g8 s (4*dq1 + r)); omega)) rfl ?_
    refine JL_val (Ptr nb4 (4*cc + r)) (Ev_indexArr 16 5 1 (4*cc + r) Tryd.underlying54 Tryd.sizeOf5 rfl rfl (by omega) (by omega) (by omega)) rfl ?_
    have hl1 : (u.set (4*cc + r) (g8 subsL ((g8 s (4*dq1 + r)).toNat))).length = 16 := by first | (rw [List.length_set]; exact hu) | simp [hu]
    refine JL_step (Step_store 2 nb4 (4*cc + r) 1 (cu8 u) 54 (U8 (g8 subsL ((g8 s (4*dq1 + r)).toNat))) ([U8 (g8 subsL ((g8 s (4*dq1 + r)).toNat))]) (cu8 (u.set (4*cc + r) (g8 subsL ((g8 s (4*dq1 + r)).toNat)))) rfl rfl rfl rfl Tryd.sizeOf5 rfl (by simp [Value.oneCell']) (by simp [hu]; try omega) (lay8 _ _ _ (by rw [hu]; omega))) rfl ?_
    rintro v1 L1 ⟨rfl, rfl⟩
    show JL _ _ _ _ _ [⟨nb2, cu8 (zr8 16), 54, (0, 0)⟩, ⟨nb3, cu8 s, 54, (0, 0)⟩, ⟨nb4, cu8 (u.set (4*cc + r) (g8 subsL ((g8 s (4*dq1 + r)).toNat))), 54, (0, 0)⟩]
    refine JL_nil ?_
    refine JQ_in_normal ?_
    refine JQ_then ?_
    refine JC_region ?_
    refine JL_val _ (Ev_move rfl) rfl ?_
    refine JL_val (I64 ((r:Int) + 1)) (Ev_bini rfl rfl fun _ => bin_add_i _ _ ((r:Int) + 1) (by omega) (by omega)) rfl ?_
    refine JL_val _ (Ev_assign rfl) rfl ?_
    refine JL_nil ?_
    refine JQ_thenK ?_
    refine K_next (r + 1, u.set (4*cc + r) (g8 subsL ((g8 s (4*dq1 + r)).toNat))) ⟨by omega, by (try subst hdq1); rw [rshIn, ← hz2], hl1⟩ (by first | (simp; omega) | simp | (dsimp only; omega) | omega) (Sub.cons rfl (Sub.cons rfl (Sub.cons rfl (Sub.cons rfl (Sub.cons rfl (Sub.cons rfl (Sub.cons rfl (Sub.cons rfl (Sub.cons rfl (Sub.cons rfl (Sub.cons rfl (Sub.nil)))))))))))) rfl
   ·
    have hp3 : ¬ (((r:Int)) < (4:Int)) := of_decide_eq_false hb3
    refine JC_exit ?_
    refine JQ_then_exit ?_
    refine JQ_then_exit ?_
    refine JQ_in_same ?_
    refine JQ_in_normal ?_
    refine JQ_then ?_
    refine JC_region ?_
    refine JL_val _ (Ev_move rfl) rfl ?_
    refine JL_val (I64 ((cc:Int) + 1)) (Ev_bini rfl rfl fun _ => bin_add_i _ _ ((cc:Int) + 1) (by omega) (by omega)) rfl ?_
    refine JL_val _ (Ev_assign rfl) rfl ?_
    refine JL_nil ?_
    refine JQ_thenK ?_
    refine K_next (cc + 1, u) ⟨by omega, by rw [rshN, ← hy2, hz2, show r = 4 from by omega], hu⟩ (by first | (simp; omega) | simp | (dsimp only; omega) | omega) (Sub.cons rfl (Sub.cons rfl (Sub.cons rfl (Sub.cons rfl (Sub.cons rfl (Sub.cons rfl (Sub.cons rfl (Sub.cons rfl (Sub.nil))))))))) rfl
  ·
   have hp2 : ¬ (((cc:Int)) < (4:Int)) := of_decide_eq_false hb2
   refine JC_exit ?_
   refine JQ_then_exit ?_
   refine JQ_then_exit ?_
   refine JQ_in_same ?_
   refine JQ_then ?_
   refine JC_seq ?_
   refine JC_region ?_
   refine JL_val (.agg (cu8 t).toArray) (Ev_load rfl (Ld_agg Tryd.isAgg54 Tryd.sizeOf54 (len_cu8 ht) (MemAt.ent 2 rfl (Seg.whole _)))) rfl ?_
   refine JL_step (Step_store 1 nb3 0 16 (cu8 s) 54 (.agg (cu8 t).toArray) (cu8 t) (cu8 t) rfl rfl rfl (by first | rfl | simp) Tryd.sizeOf54 (len_cu8 ht) (by first | exact one_u8 | exact one_u32 | exact one_u64 | (simp [cu8, cu32, cu64, Value.oneCell']; done)) (by simp [hs]) (lay_whole (by simp [hs, ht]))) rfl ?_
   rintro v1 L1 ⟨rfl, rfl⟩
   show JL _ _ _ _ _ [⟨nb2, cu8 (zr8 16), 54, (0, 0)⟩, ⟨nb3, cu8 t, 54, (0, 0)⟩, ⟨nb4, cu8 t, 54, (0, 0)⟩]
   refine JL_nil ?_
   refine JQ_then ?_
   refine JC_seq ?_
   refine JC_seq ?_
   refine JC_region ?_
   refine JL_val _ (Ev_move rfl) rfl ?_
   refine JL_val (.bool (decide (((n:Int)) < (10:Int)))) (Ev_bini rfl rfl fun _ => bin_lss_i _ _) rfl ?_
   refine JL_nil ?_
   refine JQ_then ?_
   refine JC_cond (decide (((n:Int)) < (10:Int))) rfl (fun hb4 => ?_) (fun hb4 => ?_)
   ·
    have hp4 : ((n:Int)) < (10:Int) := of_decide_eq_true hb4
    refine JC_seq ?_
    refine JC_region ?_
    refine JL_val _ (Ev_assign rfl) rfl ?_
    refine JL_nil ?_
    refine JQ_then ?_
    refine JC_block ?_
    refine JC_loop (ι := Nat × List UInt8) (fun ⟨d, m⟩ => [(0, Slc c 0 176 cap), (4, Ptr nb2 0), (5, Ptr nb3 0), (6, I64 ((n:Int))), (7, Ptr nb4 0), (8, I64 ((cc:Int))), (18, I64 ((n:Int))), (19, .bool (decide (((n:Int)) ≤ (10:Int)))), (22, I64 ((cc:Int))), (23, .bool (decide (((cc:Int)) < (4:Int)))), (45, .agg (cu8 t).toArray), (46, I64 ((n:Int))), (47, .bool (decide (((n:Int)) < (10:Int)))), (10, I64 ((d:Int)))]) (fun ⟨d, m⟩ => [⟨nb2, cu8 (zr8 16), 54, (0, 0)⟩, ⟨nb3, cu8 m, 54, (0, 0)⟩, ⟨nb4, cu8 t, 54, (0, 0)⟩]) (fun ⟨d, m⟩ => d ≤ 4 ∧ m = rmxN t d ∧ m.length = 16) (fun ⟨d, m⟩ => 4 - d) (0, t) ⟨by omega, by rw [rmxN], ht⟩ (Sub.cons rfl (Sub.cons rfl (Sub.cons rfl (Sub.cons rfl (Sub.cons rfl (Sub.cons rfl (Sub.cons rfl (Sub.cons rfl (Sub.cons rfl (Sub.cons rfl (Sub.cons rfl (Sub.cons rfl (Sub.cons rfl (Sub.cons rfl (Sub.nil))))))))))))))) rfl ?_
    rintro ⟨d, m⟩ ⟨hv1, hv2, hm2⟩
    show JC _ _ _ [(0, Slc c 0 176 cap), (4, Ptr nb2 0), (5, Ptr nb3 0), (6, I64 ((n:Int))), (7, Ptr nb4 0), (8, I64 ((cc:Int))), (18, I64 ((n:Int))), (19, .bool (decide (((n:Int)) ≤ (10:Int)))), (22, I64 ((cc:Int))), (23, .bool (decide (((cc:Int)) < (4:Int)))), (45, .agg (cu8 t).toArray), (46, I64 ((n:Int))), (47, .bool (decide (((n:Int)) < (10:Int)))), (10, I64 ((d:Int)))] [⟨nb2, cu8 (zr8 16), 54, (0, 0)⟩, ⟨nb3, cu8 m, 54, (0, 0)⟩, ⟨nb4, cu8 t, 54, (0, 0)⟩]
    refine JC_seq ?_
    refine JC_seq ?_
    refine JC_region ?_
    refine JL_val _ (Ev_move rfl) rfl ?_
    refine JL_val (.bool (decide (((d:Int)) < (4:Int)))) (Ev_bini rfl rfl fun _ => bin_lss_i _ _) rfl ?_
    refine JL_nil ?_
    refine JQ_then ?_
    refine JC_cond (decide (((d:Int)) < (4:Int))) rfl (fun hb5 => ?_) (fun hb5 => ?_)
    ·
     have hp5 : ((d:Int)) < (4:Int) := of_decide_eq_true hb5
     refine JC_skip ?_
     refine JQ_then ?_
     refine JC_seq ?_
     refine JC_block ?_
     refine JC_seq ?_
     refine JC_draw 135 1 [(0, I64 ((d:Int))), (1, I64 (4*(d:Int))), (2, Ptr nb4 (4*d)), (3, U8 (g8 t (4*d))), (4, I64 ((d:Int))), (5, I64 (4*(d:Int))), (6, I64 (4*(d:Int) + 1)), (7, Ptr nb4 (4*d + 1)), (8, U8 (g8 t (4*d + 1))), (9, I64 ((d:Int))), (10, I64 (4*(d:Int))), (11, I64 (4*(d:Int) + 2)), (12, Ptr nb4 (4*d + 2)), (13, U8 (g8 t (4*d + 2))), (14, I64 ((d:Int))), (15, I64 (4*(d:Int))), (16, I64 (4*(d:Int) + 3)), (17, Ptr nb4 (4*d + 3)), (18, U8 (g8 t (4*d + 3))), (19, U8 (g8 t (4*d))), (20, U8 (g8 t (4*d + 1))), (21, U8 (g8 t (4*d + 2))), (22, U8 (g8 t (4*d + 3)))] Tryd.mixed rfl (by decide +kernel) ?_
     refine DP_end ⟨[], [0, 1, 2, 3, 4, 5, 6, 7, 8, 9, 10, 11, 12, 13, 14, 15, 16, 17, 18, 19, 20, 21, 22], [], [0, 1, 2, 3, 4, 5, 6, 7, 8, 9, 10, 11, 12, 13, 14, 15, 16, 17, 18, 19, 20, 21, 22], []⟩ rfl rfl (by decide +kernel) rfl ⟨⟨_, rfl, Qok_val rfl (Ev_move rfl)⟩, ⟨_, rfl, Qok_val rfl (Ev_bini rfl rfl fun _ => bin_mul_i _ _ (4*(d:Int)) (by omega) (by omega))⟩, ⟨_, rfl, Qok_val rfl (Ev_indexArr 16 5 1 (4*d) Tryd.underlying54 Tryd.sizeOf5 rfl rfl (by omega) (by omega) (by omega))⟩, ⟨_, rfl, Qok_val rfl (Ev_load rfl (Ld_one Tryd.isAgg5 (MemAt.ent 2 rfl (Seg.get (g8_get (i := (4*d)) (by rw [ht]; omega))))))⟩, ⟨_, rfl, Qok_val rfl (Ev_move rfl)⟩, ⟨_, rfl, Qok_val rfl (Ev_bini rfl rfl fun _ => bin_mul_i _ _ (4*(d:Int)) (by omega) (by omega))⟩, ⟨_, rfl, Qok_val rfl (Ev_bini rfl rfl fun _ => bin_add_i _ _ (4*(d:Int) + 1) (by omega) (by omega))⟩, ⟨_, rfl, Qok_val rfl (Ev_indexArr 16 5 1 (4*d + 1) Tryd.underlying54 Tryd.sizeOf5 rfl rfl (by omega) (by omega) (by omega))⟩, ⟨_, rfl, Qok_val rfl (Ev_load rfl (Ld_one Tryd.isAgg5 (MemAt.ent 2 rfl (Seg.get (g8_get (i := (4*d + 1)) (by rw [ht]; omega))))))⟩, ⟨_, rfl, Qok_val rfl (Ev_move rfl)⟩, ⟨_, rfl, Qok_val rfl (Ev_bini rfl rfl fun _ => bin_mul_i _ _ (4*(d:Int)) (by omega) (by omega))⟩, ⟨_, rfl, Qok_val rfl (Ev_bini rfl rfl fun _ => bin_add_i _ _ (4*(d:Int) + 2) (by omega) (by omega))⟩, ⟨_, rfl, Qok_val rfl (Ev_indexArr 16 5 1 (4*d + 2) Tryd.underlying54 Tryd.sizeOf5 rfl rfl (by omega) (by omega) (by omega))⟩, ⟨_, rfl, Qok_val rfl (Ev_load rfl (Ld_one Tryd.isAgg5 (MemAt.ent 2 rfl (Seg.get (g8_get (i := (4*d + 2)) (by rw [ht]; omega))))))⟩, ⟨_, rfl, Qok_val rfl (Ev_move rfl)⟩, ⟨_, rfl, Qok_val rfl (Ev_bini rfl rfl fun _ => bin_mul_i _ _ (4*(d:Int)) (by omega) (by omega))⟩, ⟨_, rfl, Qok_val rfl (Ev_bini rfl rfl fun _ => bin_add_i _ _ (4*(d:Int) + 3) (by omega) (by omega))⟩, ⟨_, rfl, Qok_val rfl (Ev_indexArr 16 5 1 (4*d + 3) Tryd.underlying54 Tryd.sizeOf5 rfl rfl (by omega) (by omega) (by omega))⟩, ⟨_, rfl, Qok_val rfl (Ev_load rfl (Ld_one Tryd.isAgg5 (MemAt.ent 2 rfl (Seg.get (g8_get (i := (4*d + 3)) (by rw [ht]; omega))))))⟩, ⟨_, rfl, Qok_val rfl (Ev_assign rfl)⟩, ⟨_, rfl, Qok_val rfl (Ev_assign rfl)⟩, ⟨_, rfl, Qok_val rfl (Ev_assign rfl)⟩, ⟨_, rfl, Qok_val rfl (Ev_assign rfl)⟩, trivial⟩ ?_
     refine K_sub (F' := [(52, I64 ((d:Int))), (53, I64 (4*(d:Int))), (54, Ptr nb4 (4*d)), (55, U8 (g8 t (4*d))), (56, I64 ((d:Int))), (57, I64 (4*(d:Int))), (58, I64 (4*(d:Int) + 1)), (59, Ptr nb4 (4*d + 1)), (60, U8 (g8 t (4*d + 1))), (61, I64 ((d:Int))), (62, I64 (4*(d:Int))), (63, I64 (4*(d:Int) + 2)), (64, Ptr nb4 (4*d + 2)), (65, U8 (g8 t (4*d + 2))), (66, I64 ((d:Int))), (67, I64 (4*(d:Int))), (68, I64 (4*(d:Int) + 3)), (69, Ptr nb4 (4*d + 3)), (70, U8 (g8 t (4*d + 3))), (11, U8 (g8 t (4*d))), (12, U8 (g8 t (4*d + 1))), (13, U8 (g8 t (4*d + 2))), (14, U8 (g8 t (4*d + 3))), (0, Slc c 0 176 cap), (4, Ptr nb2 0), (5, Ptr nb3 0), (6, I64 ((n:Int))), (7, Ptr nb4 0), (8, I64 ((cc:Int))), (18, I64 ((n:Int))), (19, .bool (decide (((n:Int)) ≤ (10:Int)))), (22, I64 ((cc:Int))), (23, .bool (decide (((cc:Int)) < (4:Int)))), (45, .agg (cu8 t).toArray), (46, I64 ((n:Int))), (47, .bool (decide (((n:Int)) < (10:Int)))), (10, I64 ((d:Int))), (48, I64 ((d:Int))), (49, .bool (decide (((d:Int)) < (4:Int))))]) (Sub.cons (by kernel_rfl) (Sub.cons (by kernel_rfl) (Sub.cons (by kernel_rfl) (Sub.cons (by kernel_rfl) (Sub.cons (by kernel_rfl) (Sub.cons (by kernel_rfl) (Sub.cons (by kernel_rfl) (Sub.cons (by kernel_rfl) (Sub.cons (by kernel_rfl) (Sub.cons (by kernel_rfl) (Sub.cons (by kernel_rfl) (Sub.cons (by kernel_rfl) (Sub.cons (by kernel_rfl) (Sub.cons (by kernel_rfl) (Sub.cons (by kernel_rfl) (Sub.cons (by kernel_rfl) (Sub.cons (by kernel_rfl) (Sub.cons (by kernel_rfl) (Sub.cons (by kernel_rfl) (Sub.cons (by kernel_rfl) (Sub.cons (by kernel_rfl) (Sub.cons (by kernel_rfl) (Sub.cons (by kernel_rfl) (Sub.cons (by kernel_rfl) (Sub.cons (by kernel_rfl) (Sub.cons (by kernel_rfl) (Sub.cons (by kernel_rfl) (Sub.cons (by kernel_rfl) (Sub.cons (by kernel_rfl) (Sub.cons (by kernel_rfl) (Sub.cons (by kernel_rfl) (Sub.cons (by kernel_rfl) (Sub.cons (by kernel_rfl) (Sub.cons (by kernel_rfl) (Sub.cons (by kernel_rfl) (Sub.cons (by kernel_rfl) (Sub.cons (by kernel_rfl) (Sub.cons (by kernel_rfl) (Sub.cons (by kernel_rfl) (Sub.nil)))))))))))))))))))))))))))))))))))))))) ?_
     show JQ _ _ _ [(52, I64 ((d:Int))), (53, I64 (4*(d:Int))), (54, Ptr nb4 (4*d)), (55, U8 (g8 t (4*d))), (56, I64 ((d:Int))), (57, I64 (4*(d:Int))), (58, I64 (4*(d:Int) + 1)), (59, Ptr nb4 (4*d + 1)), (60, U8 (g8 t (4*d + 1))), (61, I64 ((d:Int))), (62, I64 (4*(d:Int))), (63, I64 (4*(d:Int) + 2)), (64, Ptr nb4 (4*d + 2)), (65, U8 (g8 t (4*d + 2))), (66, I64 ((d:Int))), (67, I64 (4*(d:Int))), (68, I64 (4*(d:Int) + 3)), (69, Ptr nb4 (4*d + 3)), (70, U8 (g8 t (4*d + 3))), (11, U8 (g8 t (4*d))), (12, U8 (g8 t (4*d + 1))), (13, U8 (g8 t (4*d + 2))), (14, U8 (g8 t (4*d + 3))), (0, Slc c 0 176 cap), (4, Ptr nb2 0), (5, Ptr nb3 0), (6, I64 ((n:Int))), (7, Ptr nb4 0), (8, I64 ((cc:Int))), (18, I64 ((n:Int))), (19, .bool (decide (((n:Int)) ≤ (10:Int)))), (22, I64 ((cc:Int))), (23, .bool (decide (((cc:Int)) < (4:Int)))), (45, .agg (cu8 t).toArray), (46, I64 ((n:Int))), (47, .bool (decide (((n:Int)) < (10:Int)))), (10, I64 ((d:Int))), (48, I64 ((d:Int))), (49, .bool (decide (((d:Int)) < (4:Int))))] _
     refine JQ_then ?_
     refine JC_seq ?_
     refine JC_region ?_
     refine JL_val _ (Ev_move rfl) rfl ?_
     refine JL_val (I64 (4*(d:Int))) (Ev_bini rfl rfl fun _ => bin_mul_i _ _ (4*(d:Int)) (by omega) (by omega)) rfl ?_
     refine JL_val _ (Ev_move rfl) rfl ?_
     refine JL_step (Step_callP 135 [U8 (g8 t (4*d))] (U8 (rdbl (g8 t (4*d)))) (Cl_func [U8 (g8 t (4*d))] Tryd.call135 rfl) (fun w1 _ => rdouble_c (g8 t (4*d)) w1)) rfl ?_
     rintro v1 L1 ⟨rfl, rfl⟩
     show JL _ _ _ _ ((74, U8 (rdbl (g8 t (4*d)))) :: _) [⟨nb2, cu8 (zr8 16), 54, (0, 0)⟩, ⟨nb3, cu8 m, 54, (0, 0)⟩, ⟨nb4, cu8 t, 54, (0, 0)⟩]
     refine JL_val _ (Ev_move rfl) rfl ?_
     refine JL_step (Step_callP 135 [U8 (g8 t (4*d + 1))] (U8 (rdbl (g8 t (4*d + 1)))) (Cl_func [U8 (g8 t (4*d + 1))] Tryd.call135 rfl) (fun w1 _ => rdouble_c (g8 t (4*d + 1)) w1)) rfl ?_
     rintro v1 L1 ⟨rfl, rfl⟩
     show JL _ _ _ _ ((76, U8 (rdbl (g8 t (4*d + 1)))) :: _) [⟨nb2, cu8 (zr8 16), 54, (0, 0)⟩, ⟨nb3, cu8 m, 54, (0, 0)⟩, ⟨nb4, cu8 t, 54, (0, 0)⟩]
     refine JL_val (U8 ((rdbl (g8 t (4*d))) ^^^ (rdbl (g8 t (4*d + 1))))) (Ev_bini rfl rfl fun _ => bin_xor_u8 (rdbl (g8 t (4*d))) (rdbl (g8 t (4*d + 1)))) rfl ?_
     refine JL_val _ (Ev_move rfl) rfl ?_
     refine JL_val (U8 (((rdbl (g8 t (4*d))) ^^^ (rdbl (g8 t (4*d + 1)))) ^^^ (g8 t (4*d + 1)))) (Ev_bini rfl rfl fun _ => bin_xor_u8 ((rdbl (g8 t (4*d))) ^^^ (rdbl (g8 t (4*d + 1)))) (g8 t (4*d + 1))) rfl ?_
     refine JL_val _ (Ev_move rfl) rfl ?_
     refine JL_val (U8 ((((rdbl (g8 t (4*d))) ^^^ (rdbl (g8 t (4*d + 1)))) ^^^ (g8 t (4*d + 1))) ^^^ (g8 t (4*d + 2)))) (Ev_bini rfl rfl fun _ => bin_xor_u8 (((rdbl (g8 t (4*d))) ^^^ (rdbl (g8 t (4*d + 1)))) ^^^ (g8 t (4*d + 1))) (g8 t (4*d + 2))) rfl ?_
     refine JL_val _ (Ev_move rfl) rfl ?_
     refine JL_val (U8 (((((rdbl (g8 t (4*d))) ^^^ (rdbl (g8 t (4*d + 1)))) ^^^ (g8 t (4*d + 1))) ^^^ (g8 t (4*d + 2))) ^^^ (g8 t (4*d + 3)))) (Ev_bini rfl rfl fun _ => bin_xor_u8 ((((rdbl (g8 t (4*d))) ^^^ (rdbl (g8 t (4*d + 1)))) ^^^ (g8 t (4*d + 1))) ^^^ (g8 t (4*d + 2))) (g8 t (4*d + 3))) rfl ?_
     refine JL_val (Ptr nb3 (4*d)) (Ev_indexArr 16 5 1 (4*d) Tryd.underlying54 Tryd.sizeOf5 rfl rfl (by omega) (by omega) (by omega)) rfl ?_
     have hl2 : (m.set (4*d) (((((rdbl (g8 t (4*d))) ^^^ (rdbl (g8 t (4*d + 1)))) ^^^ (g8 t (4*d + 1))) ^^^ (g8 t (4*d + 2))) ^^^ (g8 t (4*d + 3)))).length = 16 := by first | (rw [List.length_set]; exact hm2) | simp [hm2]
     refine JL_step (Step_store 1 nb3 (4*d) 1 (cu8 m) 54 (U8 (((((rdbl (g8 t (4*d))) ^^^ (rdbl (g8 t (4*d + 1)))) ^^^ (g8 t (4*d + 1))) ^^^ (g8 t (4*d + 2))) ^^^ (g8 t (4*d + 3)))) ([U8 (((((rdbl (g8 t (4*d))) ^^^ (rdbl (g8 t (4*d + 1)))) ^^^ (g8 t (4*d + 1))) ^^^ (g8 t (4*d + 2))) ^^^ (g8 t (4*d + 3)))]) (cu8 (m.set (4*d) (((((rdbl (g8 t (4*d))) ^^^ (rdbl (g8 t (4*d + 1)))) ^^^ (g8 t (4*d + 1))) ^^^ (g8 t (4*d + 2))) ^^^ (g8 t (4*d + 3))))) rfl rfl rfl rfl Tryd.sizeOf5 rfl (by simp [Value.oneCell']) (by simp [hm2]; try omega) (lay8 _ _ _ (by rw [hm2]; omega))) rfl ?_
     rintro v1 L1 ⟨rfl, rfl⟩
     show JL _ _ _ _ _ [⟨nb2, cu8 (zr8 16), 54, (0, 0)⟩, ⟨nb3, cu8 (m.set (4*d) (((((rdbl (g8 t (4*d))) ^^^ (rdbl (g8 t (4*d + 1)))) ^^^ (g8 t (4*d + 1))) ^^^ (g8 t (4*d + 2))) ^^^ (g8 t (4*d + 3)))), 54, (0, 0)⟩, ⟨nb4, cu8 t, 54, (0, 0)⟩]
     refine JL_nil ?_
     refine JQ_then ?_
     refine JC_seq ?_
     refine JC_region ?_
     refine JL_val _ (Ev_move rfl) rfl ?_
     refine JL_val (I64 (4*(d:Int))) (Ev_bini rfl rfl fun _ => bin_mul_i _ _ (4*(d:Int)) (by omega) (by omega)) rfl ?_
     refine JL_val (I64 (4*(d:Int) + 1)) (Ev_bini rfl rfl fun _ => bin_add_i _ _ (4*(d:Int) + 1) (by omega) (by omega)) rfl ?_
     refine JL_val _ (Ev_move rfl) rfl ?_
     refine JL_val _ (Ev_move rfl) rfl ?_
     refine JL_step (Step_callP 135 [U8 (g8 t (4*d + 1))] (U8 (rdbl (g8 t (4*d + 1)))) (Cl_func [U8 (g8 t (4*d + 1))] Tryd.call135 rfl) (fun w1 _ => rdouble_c (g8 t (4*d + 1)) w1)) rfl ?_
     rintro v1 L1 ⟨rfl, rfl⟩
     show JL _ _ _ _ ((90, U8 (rdbl (g8 t (4*d + 1)))) :: _) [⟨nb2, cu8 (zr8 16), 54, (0, 0)⟩, ⟨nb3, cu8 (m.set (4*d) (((((rdbl (g8 t (4*d))) ^^^ (rdbl (g8 t (4*d + 1)))) ^^^ (g8 t (4*d + 1))) ^^^ (g8 t (4*d + 2))) ^^^ (g8 t (4*d + 3)))), 54, (0, 0)⟩, ⟨nb4, cu8 t, 54, (0, 0)⟩]
     refine JL_val (U8 ((g8 t (4*d)) ^^^ (rdbl (g8 t (4*d + 1))))) (Ev_bini rfl rfl fun _ => bin_xor_u8 (g8 t (4*d)) (rdbl (g8 t (4*d + 1)))) rfl ?_
     refine JL_val _ (Ev_move rfl) rfl ?_
     refine JL_step (Step_callP 135 [U8 (g8 t (4*d + 2))] (U8 (rdbl (g8 t (4*d + 2)))) (Cl_func [U8 (g8 t (4*d + 2))] Tryd.call135 rfl) (fun w1 _ => rdouble_c (g8 t (4*d + 2)) w1)) rfl ?_
     rintro v1 L1 ⟨rfl, rfl⟩
     show JL _ _ _ _ ((93, U8 (rdbl (g8 t (4*d + 2)))) :: _) [⟨nb2, cu8 (zr8 16), 54, (0, 0)⟩, ⟨nb3, cu8 (m.set (4*d) (((((rdbl (g8 t (4*d))) ^^^ (rdbl (g8 t (4*d + 1)))) ^^^ (g8 t (4*d + 1))) ^^^ (g8 t (4*d + 2))) ^^^ (g8 t (4*d + 3)))), 54, (0, 0)⟩, ⟨nb4, cu8 t, 54, (0, 0)⟩]
     refine JL_val (U8 (((g8 t (4*d)) ^^^ (rdbl (g8 t (4*d + 1)))) ^^^ (rdbl (g8 t (4*d + 2))))) (Ev_bini rfl rfl fun _ => bin_xor_u8 ((g8 t (4*d)) ^^^ (rdbl (g8 t (4*d + 1)))) (rdbl (g8 t (4*d + 2)))) rfl ?_
     refine JL_val _ (Ev_move rfl) rfl ?_
     refine JL_val (U8 ((((g8 t (4*d)) ^^^ (rdbl (g8 t (4*d + 1)))) ^^^ (rdbl (g8 t (4*d + 2)))) ^^^ (g8 t (4*d + 2)))) (Ev_bini rfl rfl fun _ => bin_xor_u8 (((g8 t (4*d)) ^^^ (rdbl (g8 t (4*d + 1)))) ^^^ (rdbl (g8 t (4*d + 2)))) (g8 t (4*d + 2))) rfl ?_
     refine JL_val _ (Ev_move rfl) rfl ?_
     refine JL_val (U8 (((((g8 t (4*d)) ^^^ (rdbl (g8 t (4*d + 1)))) ^^^ (rdbl (g8 t (4*d + 2)))) ^^^ (g8 t (4*d + 2))) ^^^ (g8 t (4*d + 3)))) (Ev_bini rfl rfl fun _ => bin_xor_u8 ((((g8 t (4*d)) ^^^ (rdbl (g8 t (4*d + 1)))) ^^^ (rdbl (g8 t (4*d + 2)))) ^^^ (g8 t (4*d + 2))) (g8 t (4*d + 3))) rfl ?_
     refine JL_val (Ptr nb3 (4*d + 1)) (Ev_indexArr 16 5 1 (4*d + 1) Tryd.underlying54 Tryd.sizeOf5 rfl rfl (by omega) (by omega) (by omega)) rfl ?_
     have hl3 : ((m.set (4*d) (((((rdbl (g8 t (4*d))) ^^^ (rdbl (g8 t (4*d + 1)))) ^^^ (g8 t (4*d + 1))) ^^^ (g8 t (4*d + 2))) ^^^ (g8 t (4*d + 3)))).set (4*d + 1) (((((g8 t (4*d)) ^^^ (rdbl (g8 t (4*d + 1)))) ^^^ (rdbl (g8 t (4*d + 2)))) ^^^ (g8 t (4*d + 2))) ^^^ (g8 t (4*d + 3)))).length = 16 := by first | (rw [List.length_set]; exact hl2) | simp [hl2]
     refine JL_step (Step_store 1 nb3 (4*d + 1) 1 (cu8 (m.set (4*d) (((((rdbl (g8 t (4*d))) ^^^ (rdbl (g8 t (4*d + 1)))) ^^^ (g8 t (4*d + 1))) ^^^ (g8 t (4*d + 2))) ^^^ (g8 t (4*d + 3))))) 54 (U8 (((((g8 t (4*d)) ^^^ (rdbl (g8 t (4*d + 1)))) ^^^ (rdbl (g8 t (4*d + 2)))) ^^^ (g8 t (4*d + 2))) ^^^ (g8 t (4*d + 3)))) ([U8 (((((g8 t (4*d)) ^^^ (rdbl (g8 t (4*d + 1)))) ^^^ (rdbl (g8 t (4*d + 2)))) ^^^ (g8 t (4*d + 2))) ^^^ (g8 t (4*d + 3)))]) (cu8 ((m.set (4*d) (((((rdbl (g8 t (4*d))) ^^^ (rdbl (g8 t (4*d + 1)))) ^^^ (g8 t (4*d + 1))) ^^^ (g8 t (4*d + 2))) ^^^ (g8 t (4*d + 3)))).set (4*d + 1) (((((g8 t (4*d)) ^^^ (rdbl (g8 t (4*d + 1)))) ^^^ (rdbl (g8 t (4*d + 2)))) ^^^ (g8 t (4*d + 2))) ^^^ (g8 t (4*d + 3))))) rfl rfl rfl rfl Tryd.sizeOf5 rfl (by simp [Value.oneCell']) (by simp [hl2]; try omega) (lay8 _ _ _ (by rw [hl2]; omega))) rfl ?_
     rintro v1 L1 ⟨rfl, rfl⟩
     show JL _ _ _ _ _ [⟨nb2, cu8 (zr8 16), 54, (0, 0)⟩, ⟨nb3, cu8 ((m.set (4*d) (((((rdbl (g8 t (4*d))) ^^^ (rdbl (g8 t (4*d + 1)))) ^^^ (g8 t (4*d + 1))) ^^^ (g8 t (4*d + 2))) ^^^ (g8 t (4*d + 3)))).set (4*d + 1) (((((g8 t (4*d)) ^^^ (rdbl (g8 t (4*d + 1)))) ^^^ (rdbl (g8 t (4*d + 2)))) ^^^ (g8 t (4*d + 2))) ^^^ (g8 t (4*d + 3)))), 54, (0, 0)⟩, ⟨nb4, cu8 t, 54, (0, 0)⟩]
     refine JL_nil ?_
     refine JQ_then ?_
     refine JC_seq ?_
     refine JC_region ?_
     refine JL_val _ (Ev_move rfl) rfl ?_
     refine JL_val (I64 (4*(d:Int))) (Ev_bini rfl rfl fun _ => bin_mul_i _ _ (4*(d:Int)) (by omega) (by omega)) rfl ?_
     refine JL_val (I64 (4*(d:Int) + 2)) (Ev_bini rfl rfl fun _ => bin_add_i _ _ (4*(d:Int) + 2) (by omega) (by omega)) rfl ?_
     refine JL_val _ (Ev_move rfl) rfl ?_
     refine JL_val _ (Ev_move rfl) rfl ?_
     refine JL_val (U8 ((g8 t (4*d)) ^^^ (g8 t (4*d + 1)))) (Ev_bini rfl rfl fun _ => bin_xor_u8 (g8 t (4*d)) (g8 t (4*d + 1))) rfl ?_
     refine JL_val _ (Ev_move rfl) rfl ?_
     refine JL_step (Step_callP 135 [U8 (g8 t (4*d + 2))] (U8 (rdbl (g8 t (4*d + 2)))) (Cl_func [U8 (g8 t (4*d + 2))] Tryd.call135 rfl) (fun w1 _ => rdouble_c (g8 t (4*d + 2)) w1)) rfl ?_
     rintro v1 L1 ⟨rfl, rfl⟩
     show JL _ _ _ _ ((107, U8 (rdbl (g8 t (4*d + 2)))) :: _) [⟨nb2, cu8 (zr8 16), 54, (0, 0)⟩, ⟨nb3, cu8 ((m.set (4*d) (((((rdbl (g8 t (4*d))) ^^^ (rdbl (g8 t (4*d + 1)))) ^^^ (g8 t (4*d + 1))) ^^^ (g8 t (4*d + 2))) ^^^ (g8 t (4*d + 3)))).set (4*d + 1) (((((g8 t (4*d)) ^^^ (rdbl (g8 t (4*d + 1)))) ^^^ (rdbl (g8 t (4*d + 2)))) ^^^ (g8 t (4*d + 2))) ^^^ (g8 t (4*d + 3)))), 54, (0, 0)⟩, ⟨nb4, cu8 t, 54, (0, 0)⟩]
     refine JL_val (U8 (((g8 t (4*d)) ^^^ (g8 t (4*d + 1))) ^^^ (rdbl (g8 t (4*d + 2))))) (Ev_bini rfl rfl fun _ => bin_xor_u8 ((g8 t (4*d)) ^^^ (g8 t (4*d + 1))) (rdbl (g8 t (4*d + 2)))) rfl ?_
     refine JL_val _ (Ev_move rfl) rfl ?_
     refine JL_step (Step_callP 135 [U8 (g8 t (4*d + 3))] (U8 (rdbl (g8 t (4*d + 3)))) (Cl_func [U8 (g8 t (4*d + 3))] Tryd.call135 rfl) (fun w1 _ => rdouble_c (g8 t (4*d + 3)) w1)) rfl ?_
     rintro v1 L1 ⟨rfl, rfl⟩
     show JL _ _ _ _ ((110, U8 (rdbl (g8 t (4*d + 3)))) :: _) [⟨nb2, cu8 (zr8 16), 54, (0, 0)⟩, ⟨nb3, cu8 ((m.set (4*d) (((((rdbl (g8 t (4*d))) ^^^ (rdbl (g8 t (4*d + 1)))) ^^^ (g8 t (4*d + 1))) ^^^ (g8 t (4*d + 2))) ^^^ (g8 t (4*d + 3)))).set (4*d + 1) (((((g8 t (4*d)) ^^^ (rdbl (g8 t (4*d + 1)))) ^^^ (rdbl (g8 t (4*d + 2)))) ^^^ (g8 t (4*d + 2))) ^^^ (g8 t (4*d + 3)))), 54, (0, 0)⟩, ⟨nb4, cu8 t, 54, (0, 0)⟩]
     refine JL_val (U8 ((((g8 t (4*d)) ^^^ (g8 t (4*d + 1))) ^^^ (rdbl (g8 t (4*d + 2)))) ^^^ (rdbl (g8 t (4*d + 3))))) (Ev_bini rfl rfl fun _ => bin_xor_u8 (((g8 t (4*d)) ^^^ (g8 t (4*d + 1))) ^^^ (rdbl (g8 t (4*d + 2)))) (rdbl (g8 t (4*d + 3)))) rfl ?_
     refine JL_val _ (Ev_move rfl) rfl ?_
     refine JL_val (U8 (((((g8 t (4*d)) ^^^ (g8 t (4*d + 1))) ^^^ (rdbl (g8 t (4*d + 2)))) ^^^ (rdbl (g8 t (4*d + 3)))) ^^^ (g8 t (4*d + 3)))) (Ev_bini rfl rfl fun _ => bin_xor_u8 ((((g8 t (4*d)) ^^^ (g8 t (4*d + 1))) ^^^ (rdbl (g8 t (4*d + 2)))) ^^^ (rdbl (g8 t (4*d + 3)))) (g8 t (4*d + 3))) rfl ?_
     refine JL_val (Ptr nb3 (4*d + 2)) (Ev_indexArr 16 5 1 (4*d + 2) Tryd.underlying54 Tryd.sizeOf5 rfl rfl (by omega) (by omega) (by omega)) rfl ?_
     have hl4 : (((m.set (4*d) (((((rdbl (g8 t (4*d))) ^^^ (rdbl (g8 t (4*d + 1)))) ^^^ (g8 t (4*d + 1))) ^^^ (g8 t (4*d + 2))) ^^^ (g8 t (4*d + 3)))).set (4*d + 1) (((((g8 t (4*d)) ^^^ (rdbl (g8 t (4*d + 1)))) ^^^ (rdbl (g8 t (4*d + 2)))) ^^^ (g8 t (4*d + 2))) ^^^ (g8 t (4*d + 3)))).set (4*d + 2) (((((g8 t (4*d)) ^^^ (g8 t (4*d + 1))) ^^^ (rdbl (g8 t (4*d + 2)))) ^^^ (rdbl (g8 t (4*d + 3)))) ^^^ (g8 t (4*d + 3)))).length = 16 := by first | (rw [List.length_set]; exact hl3) | simp [hl3]
     refine JL_step (Step_store 1 nb3 (4*d + 2) 1 (cu8 ((m.set (4*d) (((((rdbl (g8 t (4*d))) ^^^ (rdbl (g8 t (4*d + 1)))) ^^^ (g8 t (4*d + 1))) ^^^ (g8 t (4*d + 2))) ^^^ (g8 t (4*d + 3)))).set (4*d + 1) (((((g8 t (4*d)) ^^^ (rdbl (g8 t (4*d + 1)))) ^^^ (rdbl (g8 t (4*d + 2)))) ^^^ (g8 t (4*d + 2))) ^^^ (g8 t (4*d + 3))))) 54 (U8 (((((g8 t (4*d)) ^^^ (g8 t (4*d + 1))) ^^^ (rdbl (g8 t (4*d + 2)))) ^^^ (rdbl (g8 t (4*d + 3)))) ^^^ (g8 t (4*d + 3)))) ([U8 (((((g8 t (4*d)) ^^^ (g8 t (4*d + 1))) ^^^ (rdbl (g8 t (4*d + 2)))) ^^^ (rdbl (g8 t (4*d + 3)))) ^^^ (g8 t (4*d + 3)))]) (cu8 (((m.set (4*d) (((((rdbl (g8 t (4*d))) ^^^ (rdbl (g8 t (4*d + 1)))) ^^^ (g8 t (4*d + 1))) ^^^ (g8 t (4*d + 2))) ^^^ (g8 t (4*d + 3)))).set (4*d + 1) (((((g8 t (4*d)) ^^^ (rdbl (g8 t (4*d + 1)))) ^^^ (rdbl (g8 t (4*d + 2)))) ^^^ (g8 t (4*d + 2))) ^^^ (g8 t (4*d + 3)))).set (4*d + 2) (((((g8 t (4*d)) ^^^ (g8 t (4*d + 1))) ^^^ (rdbl (g8 t (4*d + 2)))) ^^^ (rdbl (g8 t (4*d + 3)))) ^^^ (g8 t (4*d + 3))))) rfl rfl rfl rfl Tryd.sizeOf5 rfl (by simp [Value.oneCell']) (by simp [hl3]; try omega) (lay8 _ _ _ (by rw [hl3]; omega))) rfl ?_
     rintro v1 L1 ⟨rfl, rfl⟩
     show JL _ _ _ _ _ [⟨nb2, cu8 (zr8 16), 54, (0, 0)⟩, ⟨nb3, cu8 (((m.set (4*d) (((((rdbl (g8 t (4*d))) ^^^ (rdbl (g8 t (4*d + 1)))) ^^^ (g8 t (4*d + 1))) ^^^ (g8 t (4*d + 2))) ^^^ (g8 t (4*d + 3)))).set (4*d + 1) (((((g8 t (4*d)) ^^^ (rdbl (g8 t (4*d + 1)))) ^^^ (rdbl (g8 t (4*d + 2)))) ^^^ (g8 t (4*d + 2))) ^^^ (g8 t (4*d + 3)))).set (4*d + 2) (((((g8 t (4*d)) ^^^ (g8 t (4*d + 1))) ^^^ (rdbl (g8 t (4*d + 2)))) ^^^ (rdbl (g8 t (4*d + 3)))) ^^^ (g8 t (4*d + 3)))), 54, (0, 0)⟩, ⟨nb4, cu8 t, 54, (0, 0)⟩]
     refine JL_nil ?_
     refine JQ_then ?_
     refine JC_region ?_
     refine JL_val _ (Ev_move rfl) rfl ?_
     refine JL_val (I64 (4*(d:Int))) (Ev_bini rfl rfl fun _ => bin_mul_i _ _ (4*(d:Int)) (by omega) (by omega)) rfl ?_
     refine JL_val (I64 (4*(d:Int) + 3)) (Ev_bini rfl rfl fun _ => bin_add_i _ _ (4*(d:Int) + 3) (by omega) (by omega)) rfl ?_
     refine JL_val _ (Ev_move rfl) rfl ?_
     refine JL_step (Step_callP 135 [U8 (g8 t (4*d))] (U8 (rdbl (g8 t (4*d)))) (Cl_func [U8 (g8 t (4*d))] Tryd.call135 rfl) (fun w1 _ => rdouble_c (g8 t (4*d)) w1)) rfl ?_
     rintro v1 L1 ⟨rfl, rfl⟩
     show JL _ _ _ _ ((119, U8 (rdbl (g8 t (4*d)))) :: _) [⟨nb2, cu8 (zr8 16), 54, (0, 0)⟩, ⟨nb3, cu8 (((m.set (4*d) (((((rdbl (g8 t (4*d))) ^^^ (rdbl (g8 t (4*d + 1)))) ^^^ (g8 t (4*d + 1))) ^^^ (g8 t (4*d + 2))) ^^^ (g8 t (4*d + 3)))).set (4*d + 1) (((((g8 t (4*d)) ^^^ (rdbl (g8 t (4*d + 1)))) ^^^ (rdbl (g8 t (4*d + 2)))) ^^^ (g8 t (4*d + 2))) ^^^ (g8 t (4*d + 3)))).set (4*d + 2) (((((g8 t (4*d)) ^^^ (g8 t (4*d + 1))) ^^^ (rdbl (g8 t (4*d + 2)))) ^^^ (rdbl (g8 t (4*d + 3)))) ^^^ (g8 t (4*d + 3)))), 54, (0, 0)⟩, ⟨nb4, cu8 t, 54, (0, 0)⟩]
     refine JL_val _ (Ev_move rfl) rfl ?_
     refine JL_val (U8 ((rdbl (g8 t (4*d))) ^^^ (g8 t (4*d)))) (Ev_bini rfl rfl fun _ => bin_xor_u8 (rdbl (g8 t (4*d))) (g8 t (4*d))) rfl ?_
     refine JL_val _ (Ev_move rfl) rfl ?_
     refine JL_val (U8 (((rdbl (g8 t (4*d))) ^^^ (g8 t (4*d))) ^^^ (g8 t (4*d + 1)))) (Ev_bini rfl rfl fun _ => bin_xor_u8 ((rdbl (g8 t (4*d))) ^^^ (g8 t (4*d))) (g8 t (4*d + 1))) rfl ?_
     refine JL_val _ (Ev_move rfl) rfl ?_
     refine JL_val (U8 ((((rdbl (g8 t (4*d))) ^^^ (g8 t (4*d))) ^^^ (g8 t (4*d + 1))) ^^^ (g8 t (4*d + 2)))) (Ev_bini rfl rfl fun _ => bin_xor_u8 (((rdbl (g8 t (4*d))) ^^^ (g8 t (4*d))) ^^^ (g8 t (4*d + 1))) (g8 t (4*d + 2))) rfl ?_
     refine JL_val _ (Ev_move rfl) rfl ?_
     refine JL_step (Step_callP 135 [U8 (g8 t (4*d + 3))] (U8 (rdbl (g8 t (4*d + 3)))) (Cl_func [U8 (g8 t (4*d + 3))] Tryd.call135 rfl) (fun w1 _ => rdouble_c (g8 t (4*d + 3)) w1)) rfl ?_
     rintro v1 L1 ⟨rfl, rfl⟩
     show JL _ _ _ _ ((127, U8 (rdbl (g8 t (4*d + 3)))) :: _) [⟨nb2, cu8 (zr8 16), 54, (0, 0)⟩, ⟨nb3, cu8 (((m.set (4*d) (((((rdbl (g8 t (4*d))) ^^^ (rdbl (g8 t (4*d + 1)))) ^^^ (g8 t (4*d + 1))) ^^^ (g8 t (4*d + 2))) ^^^ (g8 t (4*d + 3)))).set (4*d + 1) (((((g8 t (4*d)) ^^^ (rdbl (g8 t (4*d + 1)))) ^^^ (rdbl (g8 t (4*d + 2)))) ^^^ (g8 t (4*d + 2))) ^^^ (g8 t (4*d + 3)))).set (4*d + 2) (((((g8 t (4*d)) ^^^ (g8 t (4*d + 1))) ^^^ (rdbl (g8 t (4*d + 2)))) ^^^ (rdbl (g8 t (4*d + 3)))) ^^^ (g8 t (4*d + 3)))), 54, (0, 0)⟩, ⟨nb4, cu8 t, 54, (0, 0)⟩]
     refine JL_val (U8 (((((rdbl (g8 t (4*d))) ^^^ (g8 t (4*d))) ^^^ (g8 t (4*d + 1))) ^^^ (g8 t (4*d + 2))) ^^^ (rdbl (g8 t (4*d + 3))))) (Ev_bini rfl rfl fun _ => bin_xor_u8 ((((rdbl (g8 t (4*d))) ^^^ (g8 t (4*d))) ^^^ (g8 t (4*d + 1))) ^^^ (g8 t (4*d + 2))) (rdbl (g8 t (4*d + 3)))) rfl ?_
     refine JL_val (Ptr nb3 (4*d + 3)) (Ev_indexArr 16 5 1 (4*d + 3) Tryd.underlying54 Tryd.sizeOf5 rfl rfl (by omega) (by omega) (by omega)) rfl ?_
     have hl5 : ((((m.set (4*d) (((((rdbl (g8 t (4*d))) ^^^ (rdbl (g8 t (4*d + 1)))) ^^^ (g8 t (4*d + 1))) ^^^ (g8 t (4*d + 2))) ^^^ (g8 t (4*d + 3)))).set (4*d + 1) (((((g8 t (4*d)) ^^^ (rdbl (g8 t (4*d + 1)))) ^^^ (rdbl (g8 t (4*d + 2)))) ^^^ (g8 t (4*d + 2))) ^^^ (g8 t (4*d + 3)))).set (4*d + 2) (((((g8 t (4*d)) ^^^ (g8 t (4*d + 1))) ^^^ (rdbl (g8 t (4*d + 2)))) ^^^ (rdbl (g8 t (4*d + 3)))) ^^^ (g8 t (4*d + 3)))).set (4*d + 3) (((((rdbl (g8 t (4*d))) ^^^ (g8 t (4*d))) ^^^ (g8 t (4*d + 1))) ^^^ (g8 t (4*d + 2))) ^^^ (rdbl (g8 t (4*d + 3))))).length = 16 := by first | (rw [List.length_set]; exact hl4) | simp [hl4]
     refine JL_step (Step_store 1 nb3 (4*d + 3) 1 (cu8 (((m.set (4*d) (((((rdbl (g8 t (4*d))) ^^^ (rdbl (g8 t (4*d + 1)))) ^^^ (g8 t (4*d + 1))) ^^^ (g8 t (4*d + 2))) ^^^ (g8 t (4*d + 3)))).set (4*d + 1) (((((g8 t (4*d)) ^^^ (rdbl (g8 t (4*d + 1)))) ^^^ (rdbl (g8 t (4*d + 2)))) ^^^ (g8 t (4*d + 2))) ^^^ (g8 t (4*d + 3)))).set (4*d + 2) (((((g8 t (4*d)) ^^^ (g8 t (4*d + 1))) ^^^ (rdbl (g8 t (4*d + 2)))) ^^^ (rdbl (g8 t (4*d + 3)))) ^^^ (g8 t (4*d + 3))))) 54 (U8 (((((rdbl (g8 t (4*d))) ^^^ (g8 t (4*d))) ^^^ (g8 t (4*d + 1))) ^^^ (g8 t (4*d + 2))) ^^^ (rdbl (g8 t (4*d + 3))))) ([U8 (((((rdbl (g8 t (4*d))) ^^^ (g8 t (4*d))) ^^^ (g8 t (4*d + 1))) ^^^ (g8 t (4*d + 2))) ^^^ (rdbl (g8 t (4*d + 3))))]) (cu8 ((((m.set (4*d) (((((rdbl (g8 t (4*d))) ^^^ (rdbl (g8 t (4*d + 1)))) ^^^ (g8 t (4*d + 1))) ^^^ (g8 t (4*d + 2))) ^^^ (g8 t (4*d + 3)))).set (4*d + 1) (((((g8 t (4*d)) ^^^ (rdbl (g8 t (4*d + 1)))) ^^^ (rdbl (g8 t (4*d + 2)))) ^^^ (g8 t (4*d + 2))) ^^^ (g8 t (4*d + 3)))).set (4*d + 2) (((((g8 t (4*d)) ^^^ (g8 t (4*d + 1))) ^^^ (rdbl (g8 t (4*d + 2)))) ^^^ (rdbl (g8 t (4*d + 3)))) ^^^ (g8 t (4*d + 3)))).set (4*d + 3) (((((rdbl (g8 t (4*d))) ^^^ (g8 t (4*d))) ^^^ (g8 t (4*d + 1))) ^^^ (g8 t (4*d + 2))) ^^^ (rdbl (g8 t (4*d + 3)))))) rfl rfl rfl rfl Tryd.sizeOf5 rfl (by simp [Value.oneCell']) (by simp [hl4]; try omega) (lay8 _ _ _ (by rw [hl4]; omega))) rfl ?_
     rintro v1 L1 ⟨rfl, rfl⟩
     show JL _ _ _ _ _ [⟨nb2, cu8 (zr8 16), 54, (0, 0)⟩, ⟨nb3, cu8 ((((m.set (4*d) (((((rdbl (g8 t (4*d))) ^^^ (rdbl (g8 t (4*d + 1)))) ^^^ (g8 t (4*d + 1))) ^^^ (g8 t (4*d + 2))) ^^^ (g8 t (4*d + 3)))).set (4*d + 1) (((((g8 t (4*d)) ^^^ (rdbl (g8 t (4*d + 1)))) ^^^ (rdbl (g8 t (4*d + 2)))) ^^^ (g8 t (4*d + 2))) ^^^ (g8 t (4*d + 3)))).set (4*d + 2) (((((g8 t (4*d)) ^^^ (g8 t (4*d + 1))) ^^^ (rdbl (g8 t (4*d + 2)))) ^^^ (rdbl (g8 t (4*d + 3)))) ^^^ (g8 t (4*d + 3)))).set (4*d + 3) (((((rdbl (g8 t (4*d))) ^^^ (g8 t (4*d))) ^^^ (g8 t (4*d + 1))) ^^^ (g8 t (4*d + 2))) ^^^ (rdbl (g8 t (4*d + 3))))), 54, (0, 0)⟩, ⟨nb4, cu8 t, 54, (0, 0)⟩]
     refine JL_nil ?_
     refine JQ_in_normal ?_
     refine JQ_then ?_
     refine JC_region ?_
     refine JL_val _ (Ev_move rfl) rfl ?_
     refine JL_val (I64 ((d:Int) + 1)) (Ev_bini rfl rfl fun _ => bin_add_i _ _ ((d:Int) + 1) (by omega) (by omega)) rfl ?_
     refine JL_val _ (Ev_assign rfl) rfl ?_
     refine JL_nil ?_
     refine JQ_thenK ?_
     refine K_next (d + 1, (((m.set (4*d) (((((rdbl (g8 t (4*d))) ^^^ (rdbl (g8 t (4*d + 1)))) ^^^ (g8 t (4*d + 1))) ^^^ (g8 t (4*d + 2))) ^^^ (g8 t (4*d + 3)))).set (4*d + 1) (((((g8 t (4*d)) ^^^ (rdbl (g8 t (4*d + 1)))) ^^^ (rdbl (g8 t (4*d + 2)))) ^^^ (g8 t (4*d + 2))) ^^^ (g8 t (4*d + 3)))).set (4*d + 2) (((((g8 t (4*d)) ^^^ (g8 t (4*d + 1))) ^^^ (rdbl (g8 t (4*d + 2)))) ^^^ (rdbl (g8 t (4*d + 3)))) ^^^ (g8 t (4*d + 3)))).set (4*d + 3) (((((rdbl (g8 t (4*d))) ^^^ (g8 t (4*d))) ^^^ (g8 t (4*d + 1))) ^^^ (g8 t (4*d + 2))) ^^^ (rdbl (g8 t (4*d + 3))))) ⟨by omega, by rw [rmxN, ← hv2], hl5⟩ (by first | (simp; omega) | simp | (dsimp only; omega) | omega) (Sub.cons rfl (Sub.cons rfl (Sub.cons rfl (Sub.cons rfl (Sub.cons rfl (Sub.cons rfl (Sub.cons rfl (Sub.cons rfl (Sub.cons rfl (Sub.cons rfl (Sub.cons rfl (Sub.cons rfl (Sub.cons rfl (Sub.cons rfl (Sub.nil))))))))))))))) rfl
    ·
     have hp5 : ¬ (((d:Int)) < (4:Int)) := of_decide_eq_false hb5
     refine JC_exit ?_
     refine JQ_then_exit ?_
     refine JQ_then_exit ?_
     refine JQ_in_same ?_
     refine JQ_then ?_
     refine JC_region ?_
     refine JL_val (.agg (cu8 m).toArray) (Ev_load rfl (Ld_agg Tryd.isAgg54 Tryd.sizeOf54 (len_cu8 hm2) (MemAt.ent 1 rfl (Seg.whole _)))) rfl ?_
     refine JL_val _ (Ev_move rfl) rfl ?_
     refine JL_val _ (Ev_move rfl) rfl ?_
     refine JL_step (Step_callP 145 [.agg (cu8 m).toArray, Slc c 0 176 cap, I64 ((n:Int))] (.agg (cu8 (raddL ks n m)).toArray) (Cl_func [.agg (cu8 m).toArray, Slc c 0 176 cap, I64 ((n:Int))] Tryd.call145 rfl) (fun w1 hw1 => radd_c m ks c cap n w1 hm2 hks (by omega) (RdA.of hw1 (MemAt.seg (hm.mem (by simp)) (Seg.whole _) (by omega)) (by simp [hks])))) rfl ?_
     rintro v1 L1 ⟨rfl, rfl⟩
     show JL _ _ _ _ ((133, .agg (cu8 (raddL ks n m)).toArray) :: _) [⟨nb2, cu8 (zr8 16), 54, (0, 0)⟩, ⟨nb3, cu8 m, 54, (0, 0)⟩, ⟨nb4, cu8 t, 54, (0, 0)⟩]
     refine JL_step (Step_store 1 nb3 0 16 (cu8 m) 54 (.agg (cu8 (raddL ks n m)).toArray) (cu8 (raddL ks n m)) (cu8 (raddL ks n m)) rfl rfl rfl (by first | rfl | simp) Tryd.sizeOf54 (len_cu8 (raddL_len hm2)) (by first | exact one_u8 | exact one_u32 | exact one_u64 | (simp [cu8, cu32, cu64, Value.oneCell']; done)) (by simp [hm2]) (lay_whole (by simp [hm2, (raddL_len hm2)]))) rfl ?_
     rintro v1 L1 ⟨rfl, rfl⟩
     show JL _ _ _ _ _ [⟨nb2, cu8 (zr8 16), 54, (0, 0)⟩, ⟨nb3, cu8 (raddL ks n m), 54, (0, 0)⟩, ⟨nb4, cu8 t, 54, (0, 0)⟩]
     refine JL_nil ?_
     refine JQ_in_normal ?_
     refine JQ_then ?_
     refine JC_region ?_
     refine JL_val _ (Ev_move rfl) rfl ?_
     refine JL_val (I64 ((n:Int) + 1)) (Ev_bini rfl rfl fun _ => bin_add_i _ _ ((n:Int) + 1) (by omega) (by omega)) rfl ?_
     refine JL_val _ (Ev_assign rfl) rfl ?_
     refine JL_nil ?_
     refine JQ_thenK ?_
     refine K_mask [true, true, false] ?_
     show K _ _ [⟨nb2, cu8 (zr8 16), 54, (0, 0)⟩, ⟨nb3, cu8 (raddL ks n m), 54, (0, 0)⟩] _
     refine K_next (n + 1, raddL ks n m) ⟨by omega, by omega, by rw [show n + 1 - 1 = (n - 1) + 1 from by omega, rencN, ← hx3]; simp only [rRound, show n - 1 + 1 = n from by omega]; rw [if_pos (by omega), hv2, hy2, show d = 4 from by omega, show cc = 4 from by omega], (raddL_len hm2)⟩ (by first | (simp; omega) | simp | (dsimp only; omega) | omega) (Sub.cons rfl (Sub.cons rfl (Sub.cons rfl (Sub.cons rfl (Sub.nil))))) rfl
   ·
    have hp4 : ¬ (((n:Int)) < (10:Int)) := of_decide_eq_false hb4
    refine JC_skip ?_
    refine JQ_then ?_
    refine JC_region ?_
    refine JL_val (.agg (cu8 t).toArray) (Ev_load rfl (Ld_agg Tryd.isAgg54 Tryd.sizeOf54 (len_cu8 ht) (MemAt.ent 1 rfl (Seg.whole _)))) rfl ?_
    refine JL_val _ (Ev_move rfl) rfl ?_
    refine JL_val _ (Ev_move rfl) rfl ?_
    refine JL_step (Step_callP 145 [.agg (cu8 t).toArray, Slc c 0 176 cap, I64 ((n:Int))] (.agg (cu8 (raddL ks n t)).toArray) (Cl_func [.agg (cu8 t).toArray, Slc c 0 176 cap, I64 ((n:Int))] Tryd.call145 rfl) (fun w1 hw1 => radd_c t ks c cap n w1 ht hks (by omega) (RdA.of hw1 (MemAt.seg (hm.mem (by simp)) (Seg.whole _) (by omega)) (by simp [hks])))) rfl ?_
    rintro v1 L1 ⟨rfl, rfl⟩
    show JL _ _ _ _ ((133, .agg (cu8 (raddL ks n t)).toArray) :: _) [⟨nb2, cu8 (zr8 16), 54, (0, 0)⟩, ⟨nb3, cu8 t, 54, (0, 0)⟩, ⟨nb4, cu8 t, 54, (0, 0)⟩]
    refine JL_step (Step_store 1 nb3 0 16 (cu8 t) 54 (.agg (cu8 (raddL ks n t)).toArray) (cu8 (raddL ks n t)) (cu8 (raddL ks n t)) rfl rfl rfl (by first | rfl | simp) Tryd.sizeOf54 (len_cu8 (raddL_len ht)) (by first | exact one_u8 | exact one_u32 | exact one_u64 | (simp [cu8, cu32, cu64, Value.oneCell']; done)) (by simp [ht]) (lay_whole (by simp [ht, (raddL_len ht)]))) rfl ?_
    rintro v1 L1 ⟨rfl, rfl⟩
    show JL _ _ _ _ _ [⟨nb2, cu8 (zr8 16), 54, (0, 0)⟩, ⟨nb3, cu8 (raddL ks n t), 54, (0, 0)⟩, ⟨nb4, cu8 t, 54, (0, 0)⟩]
    refine JL_nil ?_
    refine JQ_in_normal ?_
    refine JQ_then ?_
    refine JC_region ?_
    refine JL_val _ (Ev_move rfl) rfl ?_
    refine JL_val (I64 ((n:Int) + 1)) (Ev_bini rfl rfl fun _ => bin_add_i _ _ ((n:Int) + 1) (by omega) (by omega)) rfl ?_
    refine JL_val _ (Ev_assign rfl) rfl ?_
    refine JL_nil ?_
    refine JQ_thenK ?_
    refine K_mask [true, true, false] ?_
    show K _ _ [⟨nb2, cu8 (zr8 16), 54, (0, 0)⟩, ⟨nb3, cu8 (raddL ks n t), 54, (0, 0)⟩] _
    refine K_next (n + 1, raddL ks n t) ⟨by omega, by omega, by rw [show n + 1 - 1 = (n - 1) + 1 from by omega, rencN, ← hx3]; simp only [rRound, show n - 1 + 1 = n from by omega]; rw [if_neg (by omega), hy2, show cc = 4 from by omega], (raddL_len ht)⟩ (by first | (simp; omega) | simp | (dsimp only; omega) | omega) (Sub.cons rfl (Sub.cons rfl (Sub.cons rfl (Sub.cons rfl (Sub.nil))))) rfl
 ·
  have hp1 : ¬ (((n:Int)) ≤ (10:Int)) := of_decide_eq_false hb1
  refine JC_exit ?_
  refine JQ_then_exit ?_
  refine JQ_then_exit ?_
  refine JQ_in_same ?_
  refine JQ_then ?_
  refine JC_seq ?_
  refine JC_region ?_
  refine JL_val (.agg (cu8 s).toArray) (Ev_load rfl (Ld_agg Tryd.isAgg54 Tryd.sizeOf54 (len_cu8 hs) (MemAt.ent 1 rfl (Seg.whole _)))) rfl ?_
  refine JL_step (Step_store 0 nb2 0 16 (cu8 (zr8 16)) 54 (.agg (cu8 s).toArray) (cu8 s) (cu8 s) rfl rfl rfl (by first | rfl | simp) Tryd.sizeOf54 (len_cu8 hs) (by first | exact one_u8 | exact one_u32 | exact one_u64 | (simp [cu8, cu32, cu64, Value.oneCell']; done)) (by simp [(zr8_len 16)]) (lay_whole (by simp [(zr8_len 16), hs]))) rfl ?_
  rintro v1 L1 ⟨rfl, rfl⟩
  show JL _ _ _ _ _ [⟨nb2, cu8 s, 54, (0, 0)⟩, ⟨nb3, cu8 s, 54, (0, 0)⟩]
  refine JL_nil ?_
  refine JQ_then ?_
  refine JC_ret ?_
  refine JQ_ret (.agg (cu8 s).toArray) (res1 Tryd.results140 (RV_cell rfl (Ld_agg Tryd.isAgg54 Tryd.sizeOf54 (len_cu8 hs) (MemAt.ent 0 rfl (Seg.whole _))))) fun w1 hw1 => ?_
  have e1 : n = 11 := by omega
  subst e1
  rw [show s = rencL ks b from hx3]
  exact ⟨_, [], rfl, ⟨rfl, rfl⟩, hw1.sub (by simp) (by simp)⟩
end Go.Proofs.YtncoifiafklkjaaDoor
namespace Go.Proofs.YtncoifiafklkjaaDoor
open Go Go.Sx
set_option linter.unusedVariables false
set_option linter.unusedSimpArgs false
set_option maxRecDepth 100000
theorem rIn_len (w : List UInt8) (i : Nat) (t : List UInt8) : ∀ k, (rIn w i t k).length = w.length + k
 | 0 => rfl
 | k + 1 => by simp [rIn, rIn_len w i t k]; omega
theorem rN_len (key : List UInt8) (hk : key.length = 16) : ∀ m, (rN key m).2.length = 16 + 4*m
 | 0 => by simp [rN, hk]
 | m + 1 => by
  have h := rN_len key hk m
  rw [rN]; unfold rStep
  split <;> (simp only [rIn_len, h]; omega)
theorem rkeysL_len (key : List UInt8) (hk : key.length = 16) : (rkeysL key).length = 176 := by rw [rkeysL, rN_len key hk]
theorem rshIn_len (s t : List UInt8) (c : Nat) : ∀ r, (rshIn s t c r).length = t.length
 | 0 => rfl
 | r + 1 => by simp [rshIn, rshIn_len s t c r]
theorem rshN_len (s : List UInt8) : ∀ c, (rshN s c).length = 16
 | 0 => zr8_len 16
 | c + 1 => by rw [rshN, rshIn_len, rshN_len s c]
theorem rmxN_len (t : List UInt8) : ∀ d, (rmxN t d).length = t.length
 | 0 => rfl
 | d + 1 => by simp [rmxN, rmxN_len t d]
theorem rencN_len (ks b : List UInt8) (hb : b.length = 16) : ∀ n, (rencN ks b n).length = 16
  | 0 => raddL_len hb
  | n + 1 => by
    rw [rencN]; unfold rRound
    split
    · exact raddL_len (by rw [rmxN_len, rshN_len])
    · exact raddL_len (rshN_len _ _)
theorem rencL_len (ks b : List UInt8) (hb : b.length = 16) : (rencL ks b).length = 16 := rencN_len ks b hb 10
theorem ksN_get (ws : List UInt8) (h : ws.length = 176) : ∀ j, j ≤ 44 → ∀ p, p < 4*j → g8 (ksN ws j) p = g8 ws p
  | 0, _, p, hp => by omega
  | j + 1, hj, p, hp => by
    have h1 := ksN_len ws h j (by omega)
    have h2 : (mid ws (4*j) 4).length = 4 := mid_len (by omega)
    rw [ksN, show 4*(j % 4) + 16*(j / 4) = 4*j from by omega, g8_spl (by rw [h2, h1]; omega), h2]
    split
    · rename_i hc
      rw [g8_mid (by omega)]; congr 1; omega
    · exact ksN_get ws h j (by omega) p (by omega)
theorem ksN_all (ws : List UInt8) (h : ws.length = 176) : ksN ws 44 = ws :=
 ext8 (by rw [ksN_len ws h 44 (by omega), h]) fun j hj => ksN_get ws h 44 (by omega) j (by rw [ksN_len ws h 44 (by omega)] at hj; omega)
theorem wsIn_old (ws : List UInt8) (i : Nat) (w : List UInt8) (h : 4*i + 4 ≤ ws.length) : ∀ k, k ≤ 4 → ∀ p, p < 4*i → g8 (wsIn ws i w k) p = g8 ws p
 | 0, _, p, hp => rfl
 | k + 1, hk, p, hp => by
  rw [wsIn, g8_set _ _ _ _ (by rw [wsIn_len]; omega), if_neg (by omega)]
  exact wsIn_old ws i w h k (by omega) p hp
theorem wsIn_new (ws : List UInt8) (i : Nat) (w : List UInt8) (hi : 4 ≤ i) (h : 4*i + 4 ≤ ws.length) : ∀ k, k ≤ 4 → ∀ j, j < k → g8 (wsIn ws i w k) (4*i + j) = g8 ws (4*i + j - 16) ^^^ g8 w j
  | 0, _, j, hj => by omega
  | k + 1, hk, j, hj => by
    rw [wsIn, g8_set _ _ _ _ (by rw [wsIn_len]; omega)]
    split
    · have : k = j := by omega
      subst this
      rw [wsIn_old ws i w h k (by omega) _ (by omega)]
    · exact wsIn_new ws i w hi h k (by omega) j (by omega)
theorem rIn_old (w : List UInt8) (i : Nat) (t : List UInt8) : ∀ k p, p < w.length → g8 (rIn w i t k) p = g8 w p
 | 0, p, hp => rfl
 | k + 1, p, hp => by
  rw [rIn, g8_app, if_pos (by rw [rIn_len]; omega)]
  exact rIn_old w i t k p hp
theorem rIn_new (w : List UInt8) (i : Nat) (t : List UInt8) (hi : 4 ≤ i) (h : w.length = 4*i) : ∀ k, k ≤ 4 → ∀ j, j < k → g8 (rIn w i t k) (4*i + j) = g8 w (4*i + j - 16) ^^^ g8 t j
  | 0, _, j, hj => by omega
  | k + 1, hk, j, hj => by
    rw [rIn, g8_app]
    split
    · rename_i hc
      rw [rIn_len] at hc
      exact rIn_new w i t hi h k (by omega) j (by omega)
    · rename_i hc
      rw [rIn_len] at hc
      have : k = j := by omega
      subst this
      rw [rIn_len, show 4*i + k - (w.length + k) = 0 from by omega, rIn_old w i t k _ (by omega)]
      rfl
theorem there_subs (a : UInt8) : g8 thereL a.toNat = g8 subsL a.toNat := by rw [there_get, subs_subst]
theorem ltq4 {p : Nat → Prop} (h0 : p 0) (h1 : p 1) (h2 : p 2) (h3 : p 3) : ∀ j, j < 4 → p j
 | 0, _ => h0
 | 1, _ => h1
 | 2, _ => h2
 | 3, _ => h3
theorem ws_first (key : List UInt8) (hk : key.length = 16) : ∀ i, i ≤ 4 → (wsN key i).1 = 1 ∧ ∀ p, p < 4*i → g8 (wsN key i).2 p = g8 key p
  | 0, _ => ⟨rfl, fun p hp => by omega⟩
  | i + 1, hi => by
    have ih := ws_first key hk i (by omega)
    have hl := wsN_len key hk i
    have h2 : (mid key (4*i) 4).length = 4 := mid_len (by omega)
    rw [wsN]; unfold wsStep
    rw [if_pos (by omega)]
    refine ⟨ih.1, fun p hp => ?_⟩
    show g8 (spl _ _ _) p = _
    rw [g8_spl (by rw [h2, hl]; omega), h2]
    split
    · rw [g8_mid (by omega)]; congr 1; omega
    · exact ih.2 p (by omega)
theorem ws_rN (key : List UInt8) (hk : key.length = 16) : ∀ m, m ≤ 40 → (wsN key (m + 4)).1 = (rN key m).1 ∧ ∀ p, p < 4*(m + 4) → g8 (wsN key (m + 4)).2 p = g8 (rN key m).2 p
  | 0, _ => by
    have h := ws_first key hk 4 (by omega)
    exact ⟨h.1, h.2⟩
  | m + 1, hm => by
    obtain ⟨ih1, ih2⟩ := ws_rN key hk m (by omega)
    have hl := wsN_len key hk (m + 4)
    have hr := rN_len key hk m
    have hmid : ∀ j, j < 4 → g8 (mid (wsN key (m + 4)).2 (4*(m + 4) - 4) 4) j = g8 (rN key m).2 (4*(m + 4) - 4 + j) := fun j hj => by
      rw [g8_mid hj]; exact ih2 _ (by omega)
    rw [show m + 1 + 4 = (m + 4) + 1 from by omega, wsN, rN]
    unfold wsStep rStep
    rw [if_neg (by omega)]
    dsimp only
    have step : ∀ (w t : List UInt8), (∀ j, j < 4 → g8 w j = g8 t j) → ∀ p, p < 4*(m + 4 + 1) → g8 (wsIn (wsN key (m + 4)).2 (m + 4) w 4) p = g8 (rIn (rN key m).2 (m + 4) t 4) p := by
      intro w t hwt p hp
      by_cases hc : p < 4*(m + 4)
      · rw [wsIn_old _ _ _ (by omega) 4 (by omega) p hc, rIn_old _ _ _ 4 p (by omega)]
        exact ih2 p hc
      · obtain ⟨j, rfl⟩ : ∃ j, p = 4*(m + 4) + j := ⟨p - 4*(m + 4), by omega⟩
        rw [wsIn_new _ _ _ (by omega) (by omega) 4 (by omega) j (by omega), rIn_new _ _ _ (by omega) (by omega) 4 (by omega) j (by omega)]
        rw [hwt j (by omega), ih2 _ (by omega)]
    split
    · refine ⟨by rw [rdbl_eq]; exact congrArg dbl ih1, step _ _ (ltq4 ?_ ?_ ?_ ?_)⟩
      · show g8 thereL _ ^^^ _ = g8 subsL _ ^^^ _
        rw [there_subs, ih1, hmid 1 (by omega)]
        rw [show 4*(m + 4) - 4 + 1 = 4*(m + 4) - 3 from by omega]
      · show g8 thereL _ = g8 subsL _
        rw [there_subs, hmid 2 (by omega)]
        rw [show 4*(m + 4) - 4 + 2 = 4*(m + 4) - 2 from by omega]
      · show g8 thereL _ = g8 subsL _
        rw [there_subs, hmid 3 (by omega)]
        rw [show 4*(m + 4) - 4 + 3 = 4*(m + 4) - 1 from by omega]
      · show g8 thereL _ = g8 subsL _
        rw [there_subs, hmid 0 (by omega)]; rfl
    · refine ⟨ih1, step _ _ (ltq4 ?_ ?_ ?_ ?_)⟩
      · rw [hmid 0 (by omega)]; rfl
      · rw [hmid 1 (by omega), show 4*(m + 4) - 4 + 1 = 4*(m + 4) - 3 from by omega]; rfl
      · rw [hmid 2 (by omega), show 4*(m + 4) - 4 + 2 = 4*(m + 4) - 2 from by omega]; rfl
      · rw [hmid 3 (by omega), show 4*(m + 4) - 4 + 3 = 4*(m + 4) - 1 from by omega]; rfl
theorem rkeys_rk (key : List UInt8) (hk : key.length = 16) : rkeysL key = rkL key := by
 rw [rkL, ksN_all _ (wsN_len key hk 44)]
 refine ext8 (by rw [rkeysL_len key hk, wsN_len key hk]) fun j hj => ?_
 rw [rkeysL_len key hk] at hj
 exact ((ws_rN key hk 40 (by omega)).2 j (by omega)).symm
theorem raddN_get (ks : List UInt8) (n : Nat) (b : List UInt8) : ∀ k, k ≤ b.length → ∀ p, g8 (raddN ks n b k) p = if p < k then g8 b p ^^^ g8 ks (p + 16*n) else g8 b p
  | 0, _, p => rfl
  | k + 1, hk, p => by
    rw [raddN, g8_set _ _ _ _ (by rw [raddN_len]; omega)]
    split
    · rename_i h; subst h
      rw [raddN_get ks n b k (by omega), if_neg (by omega), if_pos (by omega)]
    · rw [raddN_get ks n b k (by omega)]
      by_cases h : p < k
      · rw [if_pos h, if_pos (by omega)]
      · rw [if_neg h, if_neg (by omega)]
theorem radd_add {ks b : List UInt8} (n : Nat) (hb : b.length = 16) : raddL ks n b = addL b (mid ks (16*n) 16) := by
 refine ext8 (by rw [raddL_len hb, addL_len hb]) fun j hj => ?_
 rw [raddL_len hb] at hj
 rw [addL_get hb hj, g8_mid hj, raddL, raddN_get ks n b 16 (by omega), if_pos hj, Nat.add_comm]
theorem rshIn_get (s t : List UInt8) (c : Nat) (h : 4*c + 4 ≤ t.length) : ∀ r, r ≤ 4 → ∀ p, g8 (rshIn s t c r) p = if 4*c ≤ p ∧ p < 4*c + r then g8 subsL (g8 s (4*((c + (p - 4*c)) % 4) + (p - 4*c))).toNat else g8 t p
  | 0, _, p => by rw [if_neg (by omega)]; rfl
  | r + 1, hr, p => by
    rw [rshIn, g8_set _ _ _ _ (by rw [rshIn_len]; omega)]
    split
    · rename_i h; subst h
      rw [if_pos (by omega), Nat.add_sub_cancel_left]
    · rw [rshIn_get s t c h r (by omega)]
      by_cases h : 4*c ≤ p ∧ p < 4*c + r
      · rw [if_pos h, if_pos (by omega)]
      · rw [if_neg h, if_neg (by omega)]
theorem rshN_get (s : List UInt8) : ∀ c, c ≤ 4 → ∀ p, p < 4*c → g8 (rshN s c) p = g8 subsL (g8 s (4*((p / 4 + p % 4) % 4) + p % 4)).toNat
  | 0, _, p, hp => by omega
  | c + 1, hc, p, hp => by
    rw [rshN, rshIn_get s _ c (by rw [rshN_len]; omega) 4 (by omega)]
    split
    · rename_i h
      have e1 : p / 4 = c := by omega
      have e2 : p % 4 = p - 4*c := by omega
      rw [e1, e2]
    · exact rshN_get s c (by omega) p (by omega)
theorem rsh_sh (s : List UInt8) : rshN s 4 = sh1L thereL s := by
 refine ext8 (by rw [rshN_len, sh1L_len]) fun p hp => ?_
 rw [rshN_len] at hp
 rw [rshN_get s 4 (by omega) p (by omega), sh1L, sh1N_get _ _ 16 (by omega) p hp, there_subs, Nat.add_comm (p / 4)]
end Go.Proofs.YtncoifiafklkjaaDoor
namespace Go.Proofs.YtncoifiafklkjaaDoor
open Go Go.Sx
set_option linter.unusedVariables false
set_option linter.unusedSimpArgs false
set_option maxRecDepth 100000
theorem gmul2 (x : UInt8) : gmul 2 x = rdbl x := by revert x; apply u8_all; decide +kernel
theorem gmul3 (x : UInt8) : gmul 3 x = rdbl x ^^^ x := by revert x; apply u8_all; decide +kernel
theorem rmxN_get (t : List UInt8) (ht : t.length = 16) : ∀ d, d ≤ 4 → ∀ p, p < 4*d → g8 (rmxN t d) p = mixAt t [2, 3, 1, 1] p
  | 0, _, p, hp => by omega
  | d + 1, hd, p, hp => by
    have hl := rmxN_len t d
    by_cases h : p < 4*d
    · simp only [rmxN]
      rw [g8_set _ _ _ _ (by simp; omega), if_neg (by omega), g8_set _ _ _ _ (by simp; omega), if_neg (by omega), g8_set _ _ _ _ (by simp; omega), if_neg (by omega), g8_set _ _ _ _ (by omega), if_neg (by omega)]
      exact rmxN_get t ht d (by omega) p h
    · have hc : p = 4*d ∨ p = 4*d + 1 ∨ p = 4*d + 2 ∨ p = 4*d + 3 := by omega
      simp only [rmxN]
      rcases hc with rfl | rfl | rfl | rfl
      · rw [g8_set _ _ _ _ (by simp; omega), if_neg (by omega), g8_set _ _ _ _ (by simp; omega), if_neg (by omega), g8_set _ _ _ _ (by simp; omega), if_neg (by omega), g8_set _ _ _ _ (by omega), if_pos rfl, mixAt0]
        simp only [g8, List.getD_cons_zero, List.getD_cons_succ, gmul2, gmul3, one_gmul]
        ac_rfl
      · rw [g8_set _ _ _ _ (by simp; omega), if_neg (by omega), g8_set _ _ _ _ (by simp; omega), if_neg (by omega), g8_set _ _ _ _ (by simp; omega), if_pos rfl, mixAt1]
        simp only [g8, List.getD_cons_zero, List.getD_cons_succ, gmul2, gmul3, one_gmul]
        ac_rfl
      · rw [g8_set _ _ _ _ (by simp; omega), if_neg (by omega), g8_set _ _ _ _ (by simp; omega), if_pos rfl, mixAt2]
        simp only [g8, List.getD_cons_zero, List.getD_cons_succ, gmul2, gmul3, one_gmul]
        ac_rfl
      · rw [g8_set _ _ _ _ (by simp; omega), if_pos rfl, mixAt3]
        simp only [g8, List.getD_cons_zero, List.getD_cons_succ, gmul2, gmul3, one_gmul]
        ac_rfl
theorem rmx_mix (t : List UInt8) (ht : t.length = 16) : rmxN t 4 = mixL t [2, 3, 1, 1] := by
 refine ext8 (by rw [rmxN_len, mixL_len, ht]) fun p hp => ?_
 rw [rmxN_len, ht] at hp
 rw [rmxN_get t ht 4 (by omega) p (by omega), mixL_get _ _ hp]
theorem rencN_enc (ks b : List UInt8) (hb : b.length = 16) : ∀ j, j ≤ 9 → rencN ks b j = encN ks b j
 | 0, _ => by rw [rencN, encN, radd_add 0 hb]
 | j + 1, hj => by
  rw [rencN, encN, rencN_enc ks b hb j (by omega)]
  unfold rRound
  rw [if_pos (by omega), rsh_sh, rmx_mix _ (sh1L_len _ _), radd_add _ (mixL_len _ _)]
  rfl
theorem renc_enc (key b : List UInt8) (hk : key.length = 16) (hb : b.length = 16) : encL (rkL key) b = rencL (rkeysL key) b := by
 rw [rkeys_rk key hk, rencL, rencN, rencN_enc _ b hb 9 (by omega), encL]
 unfold rRound
 rw [if_neg (by omega), rsh_sh, radd_add _ (sh1L_len _ _)]
end Go.Proofs.YtncoifiafklkjaaDoor
namespace Go.Sx
def rvN (c : List UInt8) : Nat → UInt64 × UInt64
 | 0 => (0, 0)
 | k + 1 => ((rvN c k).1 * 256 + (g8 c (k + 8)).toUInt64, (rvN c k).2 * 256 + (g8 c k).toUInt64)
def rwN (c : List UInt8) (lo hi : UInt64) : Nat → List UInt8 × UInt64 × UInt64
 | 0 => (c, lo, hi)
 | k + 1 => (((rwN c lo hi k).1.set (7 - k) (rwN c lo hi k).2.2.toUInt8).set (15 - k) (rwN c lo hi k).2.1.toUInt8, (rwN c lo hi k).2.1 / 256, (rwN c lo hi k).2.2 / 256)
def rnextL (c : List UInt8) (n : UInt64) : List UInt8 :=
 (rwN c ((rvN c 8).1 + n) (if (rvN c 8).1 + n < (rvN c 8).1 then (rvN c 8).2 + 1 else (rvN c 8).2) 8).1
theorem rwN_len (c : List UInt8) (lo hi : UInt64) : ∀ k, (rwN c lo hi k).1.length = c.length
 | 0 => rfl
 | k + 1 => by simp [rwN, rwN_len c lo hi k]
theorem rnextL_len {c : List UInt8} {n : UInt64} (h : c.length = 16) : (rnextL c n).length = 16 := by rw [rnextL, rwN_len, h]
def lowV (c : List UInt8) : Nat → Nat
 | 0 => 0
 | k + 1 => lowV c k + 256 ^ k * (g8 c (15 - k)).toNat
theorem lowV_set {c : List UInt8} (h : c.length = 16) (i : Nat) (v : UInt8) : ∀ k, k ≤ i → i ≤ 15 → lowV (c.set (15 - i) v) k = lowV c k
 | 0, _, _ => rfl
 | k + 1, hk, hi => by
  rw [lowV, lowV, lowV_set h i v k (by omega) hi, g8_set _ _ _ _ (by omega), if_neg (by omega)]
theorem lowV_lt {c : List UInt8} : ∀ k, lowV c k < 256 ^ k
 | 0 => by simp [lowV]
 | k + 1 => by
  have h1 := @lowV_lt c k
  have h2 := (g8 c (15 - k)).toNat_lt
  have h3 : 256 ^ k * (g8 c (15 - k)).toNat ≤ 256 ^ k * 255 := Nat.mul_le_mul_left _ (by omega)
  rw [lowV, Nat.pow_succ]; omega
theorem lowV_inj {a b : List UInt8} (ha : a.length = 16) (hb : b.length = 16) (h : lowV a 16 = lowV b 16) : a = b := by
  have key : ∀ k, k ≤ 16 → lowV a k = lowV b k → ∀ j, j < k → g8 a (15 - j) = g8 b (15 - j) := by
    intro k
    induction k with
    | zero => intro _ _ j hj; omega
    | succ k ih =>
      intro hk h j hj
      rw [lowV, lowV] at h
      have h1 := @lowV_lt a k
      have h2 := @lowV_lt b k
      have e1 : (g8 a (15 - k)).toNat = (g8 b (15 - k)).toNat := by
        have hp : 0 < 256 ^ k := Nat.pow_pos (by omega)
        have := congrArg (· / 256 ^ k) h
        simpa [Nat.add_mul_div_left _ _ hp, Nat.div_eq_of_lt h1, Nat.div_eq_of_lt h2] using this
      have e2 : lowV a k = lowV b k := by rw [e1] at h; omega
      by_cases hjk : j = k
      · subst hjk; exact UInt8.toNat_inj.1 e1
      · exact ih (by omega) e2 j (by omega)
  refine ext8 (by omega) fun j hj => ?_
  have := key 16 (by omega) h (15 - j) (by omega)
  rwa [show 15 - (15 - j) = j from by omega] at this
theorem nxN_far (c : List UInt8) (n : UInt64) (h : c.length = 16) : ∀ k, k ≤ 16 → ∀ j, k ≤ j → j ≤ 15 → g8 (nxN c n k).2.1 (15 - j) = g8 c (15 - j)
 | 0, _, j, _, _ => rfl
 | k + 1, hk, j, hj, hj2 => by
  show g8 ((nxN c n k).2.1.set (15 - k) _) (15 - j) = _
  rw [g8_set _ _ _ _ (by rw [nxN_len]; omega), if_neg (by omega)]
  exact nxN_far c n h k (by omega) j (by omega) hj2
theorem nxN_n (c : List UInt8) (n : UInt64) : ∀ k, (nxN c n k).2.2.toNat = n.toNat / 256 ^ k
 | 0 => by simp [nxN]
 | k + 1 => by
  show ((nxN c n k).2.2 >>> 8).toNat = _
  rw [UInt64.toNat_shiftRight, nxN_n c n k, Nat.shiftRight_eq_div_pow, Nat.pow_succ, ← Nat.div_div_eq_div_mul]
  rfl
theorem nxN_inv (c : List UInt8) (n : UInt64) (h : c.length = 16) : ∀ k, k ≤ 16 → (nxN c n k).1.toNat ≤ 1 ∧ lowV (nxN c n k).2.1 k + 256 ^ k * (nxN c n k).1.toNat = lowV c k + n.toNat % 256 ^ k
 | 0, _ => by simp [nxN, lowV, Nat.mod_one]
 | k + 1, hk => by
  obtain ⟨h1, h2⟩ := nxN_inv c n h k (by omega)
  have hl : (nxN c n k).2.1.length = 16 := by rw [nxN_len, h]
  have hn := nxN_n c n k
  have hf := nxN_far c n h k (by omega) k (by omega) (by omega)
  have hand : ((nxN c n k).2.2 &&& 255).toNat = n.toNat / 256 ^ k % 256 := by
   rw [UInt64.toNat_and, hn, show (255 : UInt64).toNat = 2 ^ 8 - 1 from rfl, Nat.and_two_pow_sub_one_eq_mod]
  have hg := (g8 c (15 - k)).toNat_lt
  have hm : n.toNat / 256 ^ k % 256 < 256 := Nat.mod_lt _ (by omega)
  have hs : (((g8 (nxN c n k).2.1 (15 - k)).toUInt64 + ((nxN c n k).2.2 &&& 255)) + (nxN c n k).1).toNat = (g8 c (15 - k)).toNat + n.toNat / 256 ^ k % 256 + (nxN c n k).1.toNat := by
   rw [UInt64.toNat_add, UInt64.toNat_add, hand, hf, UInt8.toNat_toUInt64]
   omega
  generalize hS : ((g8 (nxN c n k).2.1 (15 - k)).toUInt64 + ((nxN c n k).2.2 &&& 255)) + (nxN c n k).1 = s at hs
  have e1 : (nxN c n (k + 1)).1 = s >>> 8 := by rw [← hS]; rfl
  have e2 : (nxN c n (k + 1)).2.1 = (nxN c n k).2.1.set (15 - k) s.toUInt8 := by rw [← hS]; rfl
  have e3 : (s >>> 8).toNat = s.toNat / 256 := by rw [UInt64.toNat_shiftRight, Nat.shiftRight_eq_div_pow]; rfl
  have e4 : s.toUInt8.toNat = s.toNat % 256 := by rw [UInt64.toNat_toUInt8]
  rw [e1, e2, e3]
  refine ⟨by omega, ?_⟩
  rw [lowV, lowV_set hl k _ k (by omega) (by omega), g8_set _ _ _ _ (by omega), if_pos rfl, e4, lowV]
  have hpm : n.toNat % 256 ^ (k + 1) = n.toNat % 256 ^ k + 256 ^ k * (n.toNat / 256 ^ k % 256) := by
   rw [Nat.pow_succ, Nat.mod_mul]
  rw [hpm, Nat.pow_succ]
  have hq : 256 ^ k * (s.toNat % 256) + 256 ^ k * 256 * (s.toNat / 256) = 256 ^ k * s.toNat := by
   rw [Nat.mul_assoc, ← Nat.mul_add, Nat.mod_add_div]
  have hr : 256 ^ k * s.toNat = 256 ^ k * (g8 c (15 - k)).toNat + 256 ^ k * (n.toNat / 256 ^ k % 256) + 256 ^ k * (nxN c n k).1.toNat := by
   rw [hs, Nat.mul_add, Nat.mul_add]
  omega
theorem nextL_val {c : List UInt8} {n : UInt64} (h : c.length = 16) : lowV (nextL c n) 16 = (lowV c 16 + n.toNat) % 256 ^ 16 := by
 obtain ⟨h1, h2⟩ := nxN_inv c n h 16 (by omega)
 have hn : n.toNat % 256 ^ 16 = n.toNat := Nat.mod_eq_of_lt (by have := n.toNat_lt; omega)
 rw [hn] at h2
 have hl := @lowV_lt (nextL c n) 16
 rw [← h2]
 show _ = (lowV (nextL c n) 16 + _) % _
 rw [Nat.add_mul_mod_self_left, Nat.mod_eq_of_lt hl]
theorem rvN_val (c : List UInt8) (h : c.length = 16) : ∀ k, k ≤ 8 → (rvN c k).1.toNat * 256 ^ (8 - k) + lowV c (8 - k) = lowV c 8 ∧ (rvN c k).1.toNat < 256 ^ k ∧
    (rvN c k).2.toNat * 256 ^ (16 - k) + lowV c (16 - k) = lowV c 16 ∧ (rvN c k).2.toNat < 256 ^ k
  | 0, _ => by simp [rvN]
  | k + 1, hk => by
    obtain ⟨h1, h2, h3, h4⟩ := rvN_val c h k (by omega)
    have hp : 256 ^ k * 256 ≤ 256 ^ 8 := by rw [← Nat.pow_succ]; exact Nat.pow_le_pow_right (by omega) (by omega)
    have g1 := (g8 c (k + 8)).toNat_lt
    have g2 := (g8 c k).toNat_lt
    have e1 : ((rvN c k).1 * 256 + (g8 c (k + 8)).toUInt64).toNat = (rvN c k).1.toNat * 256 + (g8 c (k + 8)).toNat := by
      rw [UInt64.toNat_add, UInt64.toNat_mul, UInt8.toNat_toUInt64]
      simp only [show (256 : UInt64).toNat = 256 from rfl]
      omega
    have e2 : ((rvN c k).2 * 256 + (g8 c k).toUInt64).toNat = (rvN c k).2.toNat * 256 + (g8 c k).toNat := by
      rw [UInt64.toNat_add, UInt64.toNat_mul, UInt8.toNat_toUInt64]
      simp only [show (256 : UInt64).toNat = 256 from rfl]
      omega
    have s1 : 8 - k = (8 - (k + 1)) + 1 := by omega
    have s2 : 16 - k = (16 - (k + 1)) + 1 := by omega
    rw [s1, lowV, Nat.pow_succ, show 15 - (8 - (k + 1)) = k + 8 from by omega] at h1
    rw [s2, lowV, Nat.pow_succ, show 15 - (16 - (k + 1)) = k from by omega] at h3
    refine ⟨?_, ?_, ?_, ?_⟩
    · show ((rvN c k).1 * 256 + (g8 c (k + 8)).toUInt64).toNat * _ + _ = _
      rw [e1, Nat.add_mul, Nat.mul_assoc, Nat.mul_comm 256]
      rw [Nat.mul_comm (g8 c (k + 8)).toNat]; omega
    · show ((rvN c k).1 * 256 + (g8 c (k + 8)).toUInt64).toNat < _
      rw [e1, Nat.pow_succ]; omega
    · show ((rvN c k).2 * 256 + (g8 c k).toUInt64).toNat * _ + _ = _
      rw [e2, Nat.add_mul, Nat.mul_assoc, Nat.mul_comm 256]
      rw [Nat.mul_comm (g8 c k).toNat]; omega
    · show ((rvN c k).2 * 256 + (g8 c k).toUInt64).toNat < _
      rw [e2, Nat.pow_succ]; omega
theorem rwN_nums (c : List UInt8) (lo hi : UInt64) : ∀ k, (rwN c lo hi k).2.1.toNat = lo.toNat / 256 ^ k ∧ (rwN c lo hi k).2.2.toNat = hi.toNat / 256 ^ k
  | 0 => by simp [rwN]
  | k + 1 => by
    obtain ⟨h1, h2⟩ := rwN_nums c lo hi k
    constructor
    · show ((rwN c lo hi k).2.1 / 256).toNat = _
      rw [UInt64.toNat_div, h1, Nat.pow_succ, ← Nat.div_div_eq_div_mul]; rfl
    · show ((rwN c lo hi k).2.2 / 256).toNat = _
      rw [UInt64.toNat_div, h2, Nat.pow_succ, ← Nat.div_div_eq_div_mul]; rfl
theorem rwN_get (c : List UInt8) (lo hi : UInt64) (h : c.length = 16) : ∀ k, k ≤ 8 → ∀ j, j < k →
    (g8 (rwN c lo hi k).1 (15 - j)).toNat = lo.toNat / 256 ^ j % 256 ∧ (g8 (rwN c lo hi k).1 (7 - j)).toNat = hi.toNat / 256 ^ j % 256
  | 0, _, j, hj => by omega
  | k + 1, hk, j, hj => by
    have hl : (rwN c lo hi k).1.length = 16 := by rw [rwN_len, h]
    obtain ⟨n1, n2⟩ := rwN_nums c lo hi k
    show (g8 (((rwN c lo hi k).1.set (7 - k) _).set (15 - k) _) (15 - j)).toNat = _ ∧ (g8 (((rwN c lo hi k).1.set (7 - k) _).set (15 - k) _) (7 - j)).toNat = _
    rw [g8_set _ _ _ _ (by rw [List.length_set]; omega), g8_set _ _ _ _ (by omega), g8_set _ _ _ _ (by rw [List.length_set]; omega), g8_set _ _ _ _ (by omega)]
    by_cases hjk : j = k
    · subst hjk
      rw [if_pos rfl, if_neg (by omega), if_pos rfl, UInt64.toNat_toUInt8, UInt64.toNat_toUInt8, n1, n2]
      exact ⟨rfl, rfl⟩
    · obtain ⟨a1, a2⟩ := rwN_get c lo hi h k (by omega) j (by omega)
      rw [if_neg (by omega), if_neg (by omega), if_neg (by omega), if_neg (by omega)]
      exact ⟨a1, a2⟩
theorem digits_mod (x : Nat) : ∀ k, x % 256 ^ (k + 1) = x % 256 ^ k + 256 ^ k * (x / 256 ^ k % 256) := fun k => by rw [Nat.pow_succ, Nat.mod_mul]
theorem rwN_val (c : List UInt8) (lo hi : UInt64) (h : c.length = 16) : lowV (rwN c lo hi 8).1 16 = lo.toNat + 256 ^ 8 * hi.toNat := by
 have hg := rwN_get c lo hi h 8 (by omega)
 have k1 : ∀ k, k ≤ 8 → lowV (rwN c lo hi 8).1 k = lo.toNat % 256 ^ k := by
  intro k
  induction k with
  | zero => intro _; simp [lowV, Nat.mod_one]
  | succ k ih => intro hk; rw [lowV, ih (by omega), (hg k (by omega)).1, digits_mod]
 have k2 : ∀ k, k ≤ 8 → lowV (rwN c lo hi 8).1 (k + 8) = lo.toNat + 256 ^ 8 * (hi.toNat % 256 ^ k) := by
  intro k
  induction k with
  | zero =>
   intro _
   rw [Nat.zero_add, k1 8 (by omega), Nat.mod_eq_of_lt (by have := lo.toNat_lt; omega)]; simp [Nat.mod_one]
  | succ k ih =>
   intro hk
   rw [show k + 1 + 8 = (k + 8) + 1 from by omega, lowV, ih (by omega), show 15 - (k + 8) = 7 - k from by omega, (hg k (by omega)).2, digits_mod, Nat.mul_add, Nat.pow_add, Nat.mul_comm (256 ^ k) (256 ^ 8)]
   rw [Nat.mul_assoc]; omega
 rw [k2 8 (by omega), Nat.mod_eq_of_lt (by have := hi.toNat_lt; omega)]
theorem next_rnext {c : List UInt8} {n : UInt64} (h : c.length = 16) : nextL c n = rnextL c n := by
  refine lowV_inj (nextL_len h) (rnextL_len h) ?_
  rw [nextL_val h, rnextL, rwN_val _ _ _ h]
  obtain ⟨h1, h2, h3, h4⟩ := rvN_val c h 8 (by omega)
  simp only [Nat.sub_self, Nat.pow_zero, Nat.mul_one, lowV, Nat.add_zero] at h1
  rw [show 16 - 8 = 8 from rfl] at h3
  have hn := n.toNat_lt
  have e1 : ((rvN c 8).1 + n).toNat = ((rvN c 8).1.toNat + n.toNat) % 256 ^ 8 := by rw [UInt64.toNat_add]
  have hh : ((rvN c 8).2 + 1).toNat = ((rvN c 8).2.toNat + 1) % 256 ^ 8 := by rw [UInt64.toNat_add]; rfl
  have hL : lowV c 8 = (rvN c 8).1.toNat := by rw [show lowV c 8 = _ from h1.symm]
  rw [← h3, hL]
  by_cases hc : (rvN c 8).1 + n < (rvN c 8).1
  · rw [if_pos hc, e1, hh]
    rw [UInt64.lt_iff_toNat_lt, e1] at hc
    omega
  · rw [if_neg hc, e1]
    rw [UInt64.lt_iff_toNat_lt, e1] at hc
    omega
theorem strG_congr {a b : Nat → List UInt8} (h : ∀ k, a k = b k) : ∀ k, strG a k = strG b k
 | 0 => rfl
 | k + 1 => by rw [strG, strG, strG_congr h k, h k]
theorem strT_congr {a b : Nat → List UInt8} (h : ∀ k, a k = b k) (n : Nat) : strT a n = strT b n := by rw [strT, strT, strG_congr h]
end Go.Sx
namespace Go.Proofs.YtncoifiafklkjaaDoor
open Go Go.Sx
set_option linter.unusedVariables false
set_option linter.unusedSimpArgs false
set_option maxRecDepth 100000
attribute [local irreducible] mid zr8 rkeysL rencL encL rkL thereL backL nextL rnextL
theorem rnext_c (c : List UInt8) (n : UInt64) (w : World) (hc : c.length = 16) : Calls Tryd.prog 141 #[.agg (cu8 c).toArray, U64 n] w (Post w [] (fun v L => v = .agg (cu8 (rnextL c n)).toArray ∧ L = [])) := by
 refine enter w [] 56 [] [.agg (cu8 c).toArray, U64 n] Tryd.func141 rfl rfl (by simp) (Hp.start (by simp) (by simp) (by simp)) ?_
 show JC _ _ _ [(0, .agg (cu8 c).toArray), (1, U64 n)] _
 refine JC_seq ?_
 refine JC_region ?_
 refine JL_step (Step_box (.agg (cu8 c).toArray) (cu8 c) rfl (by first | rfl | simp)) rfl ?_
 rintro v1 L1 ⟨nb1, hnb1, rfl, rfl⟩
 show JL _ _ _ _ ((2, Ptr nb1 0) :: _) [⟨nb1, cu8 c, 54, (0, 0)⟩]
 refine JL_step (Step_alloc _ (cu8 (zr8 16)) Tryd.zeroValue54 (by kernel_rfl)) rfl ?_
 rintro v1 L1 ⟨nb2, hnb2, rfl, rfl⟩
 show JL _ _ _ _ ((4, Ptr nb2 0) :: _) [⟨nb1, cu8 c, 54, (0, 0)⟩, ⟨nb2, cu8 (zr8 16), 54, (0, 0)⟩]
 refine JL_nil ?_
 refine JQ_then ?_
 refine JC_seq ?_
 refine JC_region ?_
 refine JL_val _ (Ev_assign rfl) rfl ?_
 refine JL_val _ (Ev_assign rfl) rfl ?_
 refine JL_nil ?_
 refine JQ_then ?_
 refine JC_seq ?_
 refine JC_seq ?_
 refine JC_region ?_
 refine JL_val _ (Ev_assign rfl) rfl ?_
 refine JL_nil ?_
 refine JQ_then ?_
 refine JC_block ?_
 refine JC_loop (ι := Nat × UInt64 × UInt64) (fun ⟨k, lo, hi⟩ => [(1, U64 n), (2, Ptr nb1 0), (4, Ptr nb2 0), (5, U64 lo), (6, U64 hi), (7, I64 ((k:Int)))]) (fun ⟨k, lo, hi⟩ => [⟨nb1, cu8 c, 54, (0, 0)⟩, ⟨nb2, cu8 (zr8 16), 54, (0, 0)⟩]) (fun ⟨k, lo, hi⟩ => k ≤ 8 ∧ (lo, hi) = rvN c k) (fun ⟨k, lo, hi⟩ => 8 - k) (0, 0, 0) ⟨by omega, rfl⟩ (Sub.cons rfl (Sub.cons rfl (Sub.cons rfl (Sub.cons rfl (Sub.cons rfl (Sub.cons rfl (Sub.nil))))))) rfl ?_
 rintro ⟨k, lo, hi⟩ ⟨hx1, hx2⟩
 show JC _ _ _ [(1, U64 n), (2, Ptr nb1 0), (4, Ptr nb2 0), (5, U64 lo), (6, U64 hi), (7, I64 ((k:Int)))] [⟨nb1, cu8 c, 54, (0, 0)⟩, ⟨nb2, cu8 (zr8 16), 54, (0, 0)⟩]
 refine JC_seq ?_
 refine JC_seq ?_
 refine JC_region ?_
 refine JL_val _ (Ev_move rfl) rfl ?_
 refine JL_val (.bool (decide (((k:Int)) < (8:Int)))) (Ev_bini rfl rfl fun _ => bin_lss_i _ _) rfl ?_
 refine JL_nil ?_
 refine JQ_then ?_
 refine JC_cond (decide (((k:Int)) < (8:Int))) rfl (fun hb1 => ?_) (fun hb1 => ?_)
 ·
  have hp1 : ((k:Int)) < (8:Int) := of_decide_eq_true hb1
  refine JC_skip ?_
  refine JQ_then ?_
  refine JC_seq ?_
  refine JC_block ?_
  refine JC_seq ?_
  refine JC_region ?_
  refine JL_val _ (Ev_move rfl) rfl ?_
  refine JL_val (U64 (hi * (256:UInt64))) (Ev_bini rfl rfl fun _ => bin_mul_u64 hi (256:UInt64)) rfl ?_
  refine JL_val _ (Ev_move rfl) rfl ?_
  refine JL_val (Ptr nb1 k) (Ev_indexArr 16 5 1 k Tryd.underlying54 Tryd.sizeOf5 rfl rfl (by omega) (by omega) (by omega)) rfl ?_
  refine JL_val (U8 (g8 c k)) (Ev_load rfl (Ld_one Tryd.isAgg5 (MemAt.ent 0 rfl (Seg.get (g8_get (i := k) (by rw [hc]; omega)))))) rfl ?_
  refine JL_val (U64 ((g8 c k).toUInt64)) (Ev_conv _ _ rfl fun _ => conv_u8_u64 (by rw [Tryd.underlying5]; rfl) Tryd.underlying58 _) rfl ?_
  refine JL_val (U64 ((hi * (256:UInt64)) + ((g8 c k).toUInt64))) (Ev_bini rfl rfl fun _ => bin_add_u64 (hi * (256:UInt64)) ((g8 c k).toUInt64)) rfl ?_
  refine JL_val _ (Ev_assign rfl) rfl ?_
  refine JL_nil ?_
  refine JQ_then ?_
  refine JC_region ?_
  refine JL_val _ (Ev_move rfl) rfl ?_
  refine JL_val (U64 (lo * (256:UInt64))) (Ev_bini rfl rfl fun _ => bin_mul_u64 lo (256:UInt64)) rfl ?_
  refine JL_val _ (Ev_move rfl) rfl ?_
  refine JL_val (I64 ((k:Int) + 8)) (Ev_bini rfl rfl fun _ => bin_add_i _ _ ((k:Int) + 8) (by omega) (by omega)) rfl ?_
  refine JL_val (Ptr nb1 (k + 8)) (Ev_indexArr 16 5 1 (k + 8) Tryd.underlying54 Tryd.sizeOf5 rfl rfl (by omega) (by omega) (by omega)) rfl ?_
  refine JL_val (U8 (g8 c (k + 8))) (Ev_load rfl (Ld_one Tryd.isAgg5 (MemAt.ent 0 rfl (Seg.get (g8_get (i := (k + 8)) (by rw [hc]; omega)))))) rfl ?_
  refine JL_val (U64 ((g8 c (k + 8)).toUInt64)) (Ev_conv _ _ rfl fun _ => conv_u8_u64 (by rw [Tryd.underlying5]; rfl) Tryd.underlying58 _) rfl ?_
  refine JL_val (U64 ((lo * (256:UInt64)) + ((g8 c (k + 8)).toUInt64))) (Ev_bini rfl rfl fun _ => bin_add_u64 (lo * (256:UInt64)) ((g8 c (k + 8)).toUInt64)) rfl ?_
  refine JL_val _ (Ev_assign rfl) rfl ?_
  refine JL_nil ?_
  refine JQ_in_normal ?_
  refine JQ_then ?_
  refine JC_region ?_
  refine JL_val _ (Ev_move rfl) rfl ?_
  refine JL_val (I64 ((k:Int) + 1)) (Ev_bini rfl rfl fun _ => bin_add_i _ _ ((k:Int) + 1) (by omega) (by omega)) rfl ?_
  refine JL_val _ (Ev_assign rfl) rfl ?_
  refine JL_nil ?_
  refine JQ_thenK ?_
  refine K_next (k + 1, (lo * (256:UInt64)) + ((g8 c (k + 8)).toUInt64), (hi * (256:UInt64)) + ((g8 c k).toUInt64)) ⟨by omega, by rw [rvN, ← hx2]⟩ (by first | (simp; omega) | simp | (dsimp only; omega) | omega) (Sub.cons rfl (Sub.cons rfl (Sub.cons rfl (Sub.cons rfl (Sub.cons rfl (Sub.cons rfl (Sub.nil))))))) rfl
 ·
  have hp1 : ¬ (((k:Int)) < (8:Int)) := of_decide_eq_false hb1
  refine JC_exit ?_
  refine JQ_then_exit ?_
  refine JQ_then_exit ?_
  refine JQ_in_same ?_
  refine JQ_then ?_
  refine JC_seq ?_
  refine JC_seq ?_
  refine JC_region ?_
  refine JL_val _ (Ev_move rfl) rfl ?_
  refine JL_val _ (Ev_move rfl) rfl ?_
  refine JL_val (U64 (lo + n)) (Ev_bini rfl rfl fun _ => bin_add_u64 lo n) rfl ?_
  refine JL_val _ (Ev_move rfl) rfl ?_
  refine JL_val (.bool (decide ((lo + n) < lo))) (Ev_bini rfl rfl fun _ => bin_lss_u64 (lo + n) lo) rfl ?_
  refine JL_nil ?_
  refine JQ_then ?_
  refine JC_cond (decide ((lo + n) < lo)) rfl (fun hb2 => ?_) (fun hb2 => ?_)
  ·
   have hp2 : (lo + n) < lo := of_decide_eq_true hb2
   refine JC_region ?_
   refine JL_val _ (Ev_move rfl) rfl ?_
   refine JL_val (U64 (hi + (1:UInt64))) (Ev_bini rfl rfl fun _ => bin_add_u64 hi (1:UInt64)) rfl ?_
   refine JL_val _ (Ev_assign rfl) rfl ?_
   refine JL_nil ?_
   refine JQ_then ?_
   refine JC_seq ?_
   refine JC_region ?_
   refine JL_val _ (Ev_move rfl) rfl ?_
   refine JL_val _ (Ev_move rfl) rfl ?_
   refine JL_val (U64 (lo + n)) (Ev_bini rfl rfl fun _ => bin_add_u64 lo n) rfl ?_
   refine JL_val _ (Ev_assign rfl) rfl ?_
   refine JL_nil ?_
   refine JQ_then ?_
   refine JC_seq ?_
   refine JC_seq ?_
   refine JC_region ?_
   refine JL_val _ (Ev_assign rfl) rfl ?_
   refine JL_nil ?_
   refine JQ_then ?_
   refine JC_block ?_
   refine JC_loop (ι := Nat × List UInt8 × UInt64 × UInt64) (fun ⟨j, s, lo2, hi2⟩ => [(2, Ptr nb1 0), (4, Ptr nb2 0), (5, U64 lo2), (6, U64 hi2), (8, I64 (-(j:Int) + 7))]) (fun ⟨j, s, lo2, hi2⟩ => [⟨nb1, cu8 s, 54, (0, 0)⟩, ⟨nb2, cu8 (zr8 16), 54, (0, 0)⟩]) (fun ⟨j, s, lo2, hi2⟩ => j ≤ 8 ∧ (s, lo2, hi2) = rwN c (lo + n) (hi + (1:UInt64)) j ∧ s.length = 16) (fun ⟨j, s, lo2, hi2⟩ => 8 - j) (0, c, lo + n, (hi + (1:UInt64))) ⟨by omega, rfl, hc⟩ (Sub.cons rfl (Sub.cons rfl (Sub.cons rfl (Sub.cons rfl (Sub.cons rfl (Sub.nil)))))) rfl ?_
   rintro ⟨j, s, lo2, hi2⟩ ⟨hy1, hy2, hs⟩
   show JC _ _ _ [(2, Ptr nb1 0), (4, Ptr nb2 0), (5, U64 lo2), (6, U64 hi2), (8, I64 (-(j:Int) + 7))] [⟨nb1, cu8 s, 54, (0, 0)⟩, ⟨nb2, cu8 (zr8 16), 54, (0, 0)⟩]
   refine JC_seq ?_
   refine JC_seq ?_
   refine JC_region ?_
   refine JL_val _ (Ev_move rfl) rfl ?_
   refine JL_val (.bool (decide ((0:Int) ≤ (-(j:Int) + 7)))) (Ev_bini rfl rfl fun _ => bin_geq_i _ _) rfl ?_
   refine JL_nil ?_
   refine JQ_then ?_
   refine JC_cond (decide ((0:Int) ≤ (-(j:Int) + 7))) rfl (fun hb3 => ?_) (fun hb3 => ?_)
   ·
    have hp3 : (0:Int) ≤ (-(j:Int) + 7) := of_decide_eq_true hb3
    refine JC_skip ?_
    refine JQ_then ?_
    refine JC_seq ?_
    refine JC_block ?_
    refine JC_seq ?_
    refine JC_region ?_
    refine JL_val _ (Ev_move rfl) rfl ?_
    refine JL_val _ (Ev_move rfl) rfl ?_
    refine JL_val (U8 hi2.toUInt8) (Ev_conv _ _ rfl fun _ => conv_u64_u8 (by rw [Tryd.underlying58]; rfl) Tryd.underlying5 _) rfl ?_
    refine JL_val (Ptr nb1 (7 - j)) (Ev_indexArr 16 5 1 (7 - j) Tryd.underlying54 Tryd.sizeOf5 rfl rfl (by omega) (by omega) (by omega)) rfl ?_
    have hl1 : (s.set (7 - j) hi2.toUInt8).length = 16 := by first | (rw [List.length_set]; exact hs) | simp [hs]
    refine JL_step (Step_store 0 nb1 (7 - j) 1 (cu8 s) 54 (U8 hi2.toUInt8) ([U8 hi2.toUInt8]) (cu8 (s.set (7 - j) hi2.toUInt8)) rfl rfl rfl rfl Tryd.sizeOf5 rfl (by simp [Value.oneCell']) (by simp [hs]; try omega) (lay8 _ _ _ (by rw [hs]; omega))) rfl ?_
    rintro v1 L1 ⟨rfl, rfl⟩
    show JL _ _ _ _ _ [⟨nb1, cu8 (s.set (7 - j) hi2.toUInt8), 54, (0, 0)⟩, ⟨nb2, cu8 (zr8 16), 54, (0, 0)⟩]
    refine JL_nil ?_
    refine JQ_then ?_
    refine JC_seq ?_
    refine JC_region ?_
    refine JL_val _ (Ev_move rfl) rfl ?_
    refine JL_val (I64 (-(j:Int) + 15)) (Ev_bini rfl rfl fun _ => bin_add_i _ _ (-(j:Int) + 15) (by omega) (by omega)) rfl ?_
    refine JL_val _ (Ev_move rfl) rfl ?_
    refine JL_val (U8 lo2.toUInt8) (Ev_conv _ _ rfl fun _ => conv_u64_u8 (by rw [Tryd.underlying58]; rfl) Tryd.underlying5 _) rfl ?_
    refine JL_val (Ptr nb1 (15 - j)) (Ev_indexArr 16 5 1 (15 - j) Tryd.underlying54 Tryd.sizeOf5 rfl rfl (by omega) (by omega) (by omega)) rfl ?_
    have hl2 : ((s.set (7 - j) hi2.toUInt8).set (15 - j) lo2.toUInt8).length = 16 := by first | (rw [List.length_set]; exact hl1) | simp [hl1]
    refine JL_step (Step_store 0 nb1 (15 - j) 1 (cu8 (s.set (7 - j) hi2.toUInt8)) 54 (U8 lo2.toUInt8) ([U8 lo2.toUInt8]) (cu8 ((s.set (7 - j) hi2.toUInt8).set (15 - j) lo2.toUInt8)) rfl rfl rfl rfl Tryd.sizeOf5 rfl (by simp [Value.oneCell']) (by simp [hl1]; try omega) (lay8 _ _ _ (by rw [hl1]; omega))) rfl ?_
    rintro v1 L1 ⟨rfl, rfl⟩
    show JL _ _ _ _ _ [⟨nb1, cu8 ((s.set (7 - j) hi2.toUInt8).set (15 - j) lo2.toUInt8), 54, (0, 0)⟩, ⟨nb2, cu8 (zr8 16), 54, (0, 0)⟩]
    refine JL_nil ?_
    refine JQ_then ?_
    refine JC_seq ?_
    refine JC_region ?_
    refine JL_val _ (Ev_move rfl) rfl ?_
    refine JL_val (U64 (hi2 / (256:UInt64))) (Ev_bini rfl rfl fun _ => bin_quo_u64 hi2 (256:UInt64) (by decide)) rfl ?_
    refine JL_val _ (Ev_assign rfl) rfl ?_
    refine JL_nil ?_
    refine JQ_then ?_
    refine JC_region ?_
    refine JL_val _ (Ev_move rfl) rfl ?_
    refine JL_val (U64 (lo2 / (256:UInt64))) (Ev_bini rfl rfl fun _ => bin_quo_u64 lo2 (256:UInt64) (by decide)) rfl ?_
    refine JL_val _ (Ev_assign rfl) rfl ?_
    refine JL_nil ?_
    refine JQ_in_normal ?_
    refine JQ_then ?_
    refine JC_region ?_
    refine JL_val _ (Ev_move rfl) rfl ?_
    refine JL_val (I64 (-(j:Int) + 6)) (Ev_bini rfl rfl fun _ => bin_sub_i _ _ (-(j:Int) + 6) (by omega) (by omega)) rfl ?_
    refine JL_val _ (Ev_assign rfl) rfl ?_
    refine JL_nil ?_
    refine JQ_thenK ?_
    refine K_next (j + 1, (s.set (7 - j) hi2.toUInt8).set (15 - j) lo2.toUInt8, lo2 / (256:UInt64), hi2 / (256:UInt64)) ⟨by omega, by rw [rwN, ← hy2], hl2⟩ (by first | (simp; omega) | simp | (dsimp only; omega) | omega) (Sub.cons rfl (Sub.cons rfl (Sub.cons rfl (Sub.cons rfl (Sub.cons (some_i64 (by omega)) (Sub.nil)))))) rfl
   ·
    have hp3 : ¬ ((0:Int) ≤ (-(j:Int) + 7)) := of_decide_eq_false hb3
    refine JC_exit ?_
    refine JQ_then_exit ?_
    refine JQ_then_exit ?_
    refine JQ_in_same ?_
    refine JQ_then ?_
    refine JC_seq ?_
    refine JC_region ?_
    refine JL_val (.agg (cu8 s).toArray) (Ev_load rfl (Ld_agg Tryd.isAgg54 Tryd.sizeOf54 (len_cu8 hs) (MemAt.ent 0 rfl (Seg.whole _)))) rfl ?_
    refine JL_step (Step_store 1 nb2 0 16 (cu8 (zr8 16)) 54 (.agg (cu8 s).toArray) (cu8 s) (cu8 s) rfl rfl rfl (by first | rfl | simp) Tryd.sizeOf54 (len_cu8 hs) (by first | exact one_u8 | exact one_u32 | exact one_u64 | (simp [cu8, cu32, cu64, Value.oneCell']; done)) (by simp [(zr8_len 16)]) (lay_whole (by simp [(zr8_len 16), hs]))) rfl ?_
    rintro v1 L1 ⟨rfl, rfl⟩
    show JL _ _ _ _ _ [⟨nb1, cu8 s, 54, (0, 0)⟩, ⟨nb2, cu8 s, 54, (0, 0)⟩]
    refine JL_nil ?_
    refine JQ_then ?_
    refine JC_ret ?_
    refine JQ_ret (.agg (cu8 s).toArray) (res1 Tryd.results141 (RV_cell rfl (Ld_agg Tryd.isAgg54 Tryd.sizeOf54 (len_cu8 hs) (MemAt.ent 1 rfl (Seg.whole _))))) fun w1 hw1 => ?_
    have e1 : k = 8 := by omega
    have e2 : j = 8 := by omega
    subst e1; subst e2
    have e3 := congrArg Prod.fst hx2
    have e4 := congrArg Prod.snd hx2
    dsimp only at e3 e4
    have e5 : s = rnextL c n := by rw [rnextL, ← e3, ← e4, if_pos (of_decide_eq_true hb2), ← hy2]
    rw [e5]
    exact ⟨_, [], rfl, ⟨rfl, rfl⟩, hw1.sub (by simp) (by simp)⟩
  ·
   have hp2 : ¬ ((lo + n) < lo) := of_decide_eq_false hb2
   refine JC_skip ?_
   refine JQ_then ?_
   refine JC_seq ?_
   refine JC_region ?_
   refine JL_val _ (Ev_move rfl) rfl ?_
   refine JL_val _ (Ev_move rfl) rfl ?_
   refine JL_val (U64 (lo + n)) (Ev_bini rfl rfl fun _ => bin_add_u64 lo n) rfl ?_
   refine JL_val _ (Ev_assign rfl) rfl ?_
   refine JL_nil ?_
   refine JQ_then ?_
   refine JC_seq ?_
   refine JC_seq ?_
   refine JC_region ?_
   refine JL_val _ (Ev_assign rfl) rfl ?_
   refine JL_nil ?_
   refine JQ_then ?_
   refine JC_block ?_
   refine JC_loop (ι := Nat × List UInt8 × UInt64 × UInt64) (fun ⟨j, s, lo2, hi2⟩ => [(2, Ptr nb1 0), (4, Ptr nb2 0), (5, U64 lo2), (6, U64 hi2), (8, I64 (-(j:Int) + 7))]) (fun ⟨j, s, lo2, hi2⟩ => [⟨nb1, cu8 s, 54, (0, 0)⟩, ⟨nb2, cu8 (zr8 16), 54, (0, 0)⟩]) (fun ⟨j, s, lo2, hi2⟩ => j ≤ 8 ∧ (s, lo2, hi2) = rwN c (lo + n) hi j ∧ s.length = 16) (fun ⟨j, s, lo2, hi2⟩ => 8 - j) (0, c, lo + n, hi) ⟨by omega, rfl, hc⟩ (Sub.cons rfl (Sub.cons rfl (Sub.cons rfl (Sub.cons rfl (Sub.cons rfl (Sub.nil)))))) rfl ?_
   rintro ⟨j, s, lo2, hi2⟩ ⟨hy1, hy2, hs⟩
   show JC _ _ _ [(2, Ptr nb1 0), (4, Ptr nb2 0), (5, U64 lo2), (6, U64 hi2), (8, I64 (-(j:Int) + 7))] [⟨nb1, cu8 s, 54, (0, 0)⟩, ⟨nb2, cu8 (zr8 16), 54, (0, 0)⟩]
   refine JC_seq ?_
   refine JC_seq ?_
   refine JC_region ?_
   refine JL_val _ (Ev_move rfl) rfl ?_
   refine JL_val (.bool (decide ((0:Int) ≤ (-(j:Int) + 7)))) (Ev_bini rfl rfl fun _ => bin_geq_i _ _) rfl ?_
   refine JL_nil ?_
   refine JQ_then ?_
   refine JC_cond (decide ((0:Int) ≤ (-(j:Int) + 7))) rfl (fun hb4 => ?_) (fun hb4 => ?_)
   ·
    have hp4 : (0:Int) ≤ (-(j:Int) + 7) := of_decide_eq_true hb4
    refine JC_skip ?_
    refine JQ_then ?_
    refine JC_seq ?_
    refine JC_block ?_
    refine JC_seq ?_
    refine JC_region ?_
    refine JL_val _ (Ev_move rfl) rfl ?_
    refine JL_val _ (Ev_move rfl) rfl ?_
    refine JL_val (U8 hi2.toUInt8) (Ev_conv _ _ rfl fun _ => conv_u64_u8 (by rw [Tryd.underlying58]; rfl) Tryd.underlying5 _) rfl ?_
    refine JL_val (Ptr nb1 (7 - j)) (Ev_indexArr 16 5 1 (7 - j) Tryd.underlying54 Tryd.sizeOf5 rfl rfl (by omega) (by omega) (by omega)) rfl ?_
    have hl3 : (s.set (7 - j) hi2.toUInt8).length = 16 := by first | (rw [List.length_set]; exact hs) | simp [hs]
    refine JL_step (Step_store 0 nb1 (7 - j) 1 (cu8 s) 54 (U8 hi2.toUInt8) ([U8 hi2.toUInt8]) (cu8 (s.set (7 - j) hi2.toUInt8)) rfl rfl rfl rfl Tryd.sizeOf5 rfl (by simp [Value.oneCell']) (by simp [hs]; try omega) (lay8 _ _ _ (by rw [hs]; omega))) rfl ?_
    rintro v1 L1 ⟨rfl, rfl⟩
    show JL _ _ _ _ _ [⟨nb1, cu8 (s.set (7 - j) hi2.toUInt8), 54, (0, 0)⟩, ⟨nb2, cu8 (zr8 16), 54, (0, 0)⟩]
    refine JL_nil ?_
    refine JQ_then ?_
    refine JC_seq ?_
    refine JC_region ?_
    refine JL_val _ (Ev_move rfl) rfl ?_
    refine JL_val (I64 (-(j:Int) + 15)) (Ev_bini rfl rfl fun _ => bin_add_i _ _ (-(j:Int) + 15) (by omega) (by omega)) rfl ?_
    refine JL_val _ (Ev_move rfl) rfl ?_
    refine JL_val (U8 lo2.toUInt8) (Ev_conv _ _ rfl fun _ => conv_u64_u8 (by rw [Tryd.underlying58]; rfl) Tryd.underlying5 _) rfl ?_
    refine JL_val (Ptr nb1 (15 - j)) (Ev_indexArr 16 5 1 (15 - j) Tryd.underlying54 Tryd.sizeOf5 rfl rfl (by omega) (by omega) (by omega)) rfl ?_
    have hl4 : ((s.set (7 - j) hi2.toUInt8).set (15 - j) lo2.toUInt8).length = 16 := by first | (rw [List.length_set]; exact hl3) | simp [hl3]
    refine JL_step (Step_store 0 nb1 (15 - j) 1 (cu8 (s.set (7 - j) hi2.toUInt8)) 54 (U8 lo2.toUInt8) ([U8 lo2.toUInt8]) (cu8 ((s.set (7 - j) hi2.toUInt8).set (15 - j) lo2.toUInt8)) rfl rfl rfl rfl Tryd.sizeOf5 rfl (by simp [Value.oneCell']) (by simp [hl3]; try omega) (lay8 _ _ _ (by rw [hl3]; omega))) rfl ?_
    rintro v1 L1 ⟨rfl, rfl⟩
    show JL _ _ _ _ _ [⟨nb1, cu8 ((s.set (7 - j) hi2.toUInt8).set (15 - j) lo2.toUInt8), 54, (0, 0)⟩, ⟨nb2, cu8 (zr8 16), 54, (0, 0)⟩]
    refine JL_nil ?_
    refine JQ_then ?_
    refine JC_seq ?_
    refine JC_region ?_
    refine JL_val _ (Ev_move rfl) rfl ?_
    refine JL_val (U64 (hi2 / (256:UInt64))) (Ev_bini rfl rfl fun _ => bin_quo_u64 hi2 (256:UInt64) (by decide)) rfl ?_
    refine JL_val _ (Ev_assign rfl) rfl ?_
    refine JL_nil ?_
    refine JQ_then ?_
    refine JC_region ?_
    refine JL_val _ (Ev_move rfl) rfl ?_
    refine JL_val (U64 (lo2 / (256:UInt64))) (Ev_bini rfl rfl fun _ => bin_quo_u64 lo2 (256:UInt64) (by decide)) rfl ?_
    refine JL_val _ (Ev_assign rfl) rfl ?_
    refine JL_nil ?_
    refine JQ_in_normal ?_
    refine JQ_then ?_
    refine JC_region ?_
    refine JL_val _ (Ev_move rfl) rfl ?_
    refine JL_val (I64 (-(j:Int) + 6)) (Ev_bini rfl rfl fun _ => bin_sub_i _ _ (-(j:Int) + 6) (by omega) (by omega)) rfl ?_
    refine JL_val _ (Ev_assign rfl) rfl ?_
    refine JL_nil ?_
    refine JQ_thenK ?_
    refine K_next (j + 1, (s.set (7 - j) hi2.toUInt8).set (15 - j) lo2.toUInt8, lo2 / (256:UInt64), hi2 / (256:UInt64)) ⟨by omega, by rw [rwN, ← hy2], hl4⟩ (by first | (simp; omega) | simp | (dsimp only; omega) | omega) (Sub.cons rfl (Sub.cons rfl (Sub.cons rfl (Sub.cons rfl (Sub.cons (some_i64 (by omega)) (Sub.nil)))))) rfl
   ·
    have hp4 : ¬ ((0:Int) ≤ (-(j:Int) + 7)) := of_decide_eq_false hb4
    refine JC_exit ?_
    refine JQ_then_exit ?_
    refine JQ_then_exit ?_
    refine JQ_in_same ?_
    refine JQ_then ?_
    refine JC_seq ?_
    refine JC_region ?_
    refine JL_val (.agg (cu8 s).toArray) (Ev_load rfl (Ld_agg Tryd.isAgg54 Tryd.sizeOf54 (len_cu8 hs) (MemAt.ent 0 rfl (Seg.whole _)))) rfl ?_
    refine JL_step (Step_store 1 nb2 0 16 (cu8 (zr8 16)) 54 (.agg (cu8 s).toArray) (cu8 s) (cu8 s) rfl rfl rfl (by first | rfl | simp) Tryd.sizeOf54 (len_cu8 hs) (by first | exact one_u8 | exact one_u32 | exact one_u64 | (simp [cu8, cu32, cu64, Value.oneCell']; done)) (by simp [(zr8_len 16)]) (lay_whole (by simp [(zr8_len 16), hs]))) rfl ?_
    rintro v1 L1 ⟨rfl, rfl⟩
    show JL _ _ _ _ _ [⟨nb1, cu8 s, 54, (0, 0)⟩, ⟨nb2, cu8 s, 54, (0, 0)⟩]
    refine JL_nil ?_
    refine JQ_then ?_
    refine JC_ret ?_
    refine JQ_ret (.agg (cu8 s).toArray) (res1 Tryd.results141 (RV_cell rfl (Ld_agg Tryd.isAgg54 Tryd.sizeOf54 (len_cu8 hs) (MemAt.ent 1 rfl (Seg.whole _))))) fun w1 hw1 => ?_
    have e1 : k = 8 := by omega
    have e2 : j = 8 := by omega
    subst e1; subst e2
    have e3 := congrArg Prod.fst hx2
    have e4 := congrArg Prod.snd hx2
    dsimp only at e3 e4
    have e5 : s = rnextL c n := by rw [rnextL, ← e3, ← e4, if_neg (of_decide_eq_false hb2), ← hy2]
    rw [e5]
    exact ⟨_, [], rfl, ⟨rfl, rfl⟩, hw1.sub (by simp) (by simp)⟩
end Go.Proofs.YtncoifiafklkjaaDoor
namespace Go.Proofs.YtncoifiafklkjaaDoor
open Go Go.Sx
set_option linter.unusedVariables false
set_option linter.unusedSimpArgs false
set_option maxRecDepth 100000
attribute [local irreducible] mid zr8 rkeysL rencL encL rkL thereL backL nextL rnextL strT
def rctrN (c : List UInt8) : Nat → List UInt8
 | 0 => c
 | k + 1 => rnextL (rctrN c k) 1
theorem rctrN_eq {c : List UInt8} (hc : c.length = 16) : ∀ k, rctrN c k = ctrN c k
 | 0 => rfl
 | k + 1 => by rw [rctrN, ctrN, rctrN_eq hc k, next_rnext (ctrN_len hc k)]
theorem rctrN_len {c : List UInt8} (hc : c.length = 16) (k : Nat) : (rctrN c k).length = 16 := by rw [rctrN_eq hc, ctrN_len hc]
def rBlk (ks c : List UInt8) (k : Nat) : List UInt8 := rencL ks (rctrN c k)
theorem rBlk_len {ks c : List UInt8} (hc : c.length = 16) (k : Nat) : (rBlk ks c k).length = 16 := rencL_len _ _ (rctrN_len hc k)
theorem rBlk_eBlk {key c : List UInt8} (hk : key.length = 16) (hc : c.length = 16) (k : Nat) : eBlk (rkL key) c k = rBlk (rkeysL key) c k := by
 rw [eBlk, rBlk, rctrN_eq hc, renc_enc _ _ hk (ctrN_len hc k)]
theorem str_rstr {key c : List UInt8} (hk : key.length = 16) (hc : c.length = 16) (n : Nat) : strT (eBlk (rkL key) c) n = strT (rBlk (rkeysL key) c) n := strT_congr (rBlk_eBlk hk hc) n
theorem rstream_c (ks c : List UInt8) (kc kcap n : Nat) (w : World) (hc : c.length = 16) (hn0 : 0 < n) (hn : n ≤ 65536) (hks : ks.length = 176) (hm : RdA w kc 0 (cu8 ks)) : Calls Tryd.prog 134 #[Slc kc 0 176 kcap, .agg (cu8 c).toArray, I64 ((n:Int))] w (Post w [] (fun v L => ∃ g sp cap, v = Slc g 0 n cap ∧ L = [⟨g, cu8 (strT (rBlk ks c) n) ++ sp, 5, (0, 0)⟩] ∧ sp.length = cap - n ∧ n ≤ cap ∧ cap ≤ maxLen)) := by
  refine enter w [] 24 [] [Slc kc 0 176 kcap, .agg (cu8 c).toArray, I64 ((n:Int))] Tryd.func134 rfl rfl (by simp) (Hp.start (by simp) (by simp) (by simp)) ?_
  show JC _ _ _ [(0, Slc kc 0 176 kcap), (1, .agg (cu8 c).toArray), (2, I64 ((n:Int)))] _
  refine JC_seq ?_
  refine JC_region ?_
  refine JL_step (Step_box (.agg (cu8 c).toArray) (cu8 c) rfl (by first | rfl | simp)) rfl ?_
  rintro v1 L1 ⟨nb1, hnb1, rfl, rfl⟩
  show JL _ _ _ _ ((4, Ptr nb1 0) :: _) [⟨nb1, cu8 c, 54, (0, 0)⟩]
  refine JL_val _ (Ev_assign rfl) rfl ?_
  refine JL_nil ?_
  refine JQ_then ?_
  refine JC_seq ?_
  refine JC_region ?_
  refine JL_val _ (Ev_assign rfl) rfl ?_
  refine JL_nil ?_
  refine JQ_then ?_
  refine JC_seq ?_
  refine JC_block ?_
  refine JC_loop (ι := (Unit) ⊕ (Nat × Nat × List Value × Nat)) (fun x => match x with | .inl _ => [(0, Slc kc 0 176 kcap), (2, I64 ((n:Int))), (4, Ptr nb1 0), (6, .slice none 0 0), (7, .slice none 0 0)] | .inr ⟨k, g, sp, cap⟩ => [(0, Slc kc 0 176 kcap), (2, I64 ((n:Int))), (4, Ptr nb1 0), (6, .slice none 0 0), (7, Slc g 0 (16*k) cap)]) (fun x => match x with | .inl _ => [⟨nb1, cu8 c, 54, (0, 0)⟩] | .inr ⟨k, g, sp, cap⟩ => [⟨nb1, cu8 (rctrN c k), 54, (0, 0)⟩, ⟨g, cu8 (strG (rBlk ks c) k) ++ sp, 5, (0, 0)⟩]) (fun x => match x with | .inl _ => True | .inr ⟨k, g, sp, cap⟩ => 1 ≤ k ∧ 16*k < n + 16 ∧ sp.length = cap - 16*k ∧ 16*k ≤ cap ∧ cap ≤ maxLen) (fun x => match x with | .inl _ => n + 32 | .inr ⟨k, g, sp, cap⟩ => n + 16 - 16*k) (.inl ()) trivial (Sub.cons rfl (Sub.cons rfl (Sub.cons rfl (Sub.cons rfl (Sub.cons rfl (Sub.nil)))))) rfl ?_
  rintro (_ | ⟨k, g, sp, cap⟩) hx
  ·
    obtain _ := hx
    show JC _ _ _ [(0, Slc kc 0 176 kcap), (2, I64 ((n:Int))), (4, Ptr nb1 0), (6, .slice none 0 0), (7, .slice none 0 0)] [⟨nb1, cu8 c, 54, (0, 0)⟩]
    refine JC_seq ?_
    refine JC_seq ?_
    refine JC_region ?_
    refine JL_val _ (Ev_move rfl) rfl ?_
    refine JL_val (I64 (0:Int)) (Ev_len Tryd.underlying22 rfl) rfl ?_
    refine JL_val _ (Ev_move rfl) rfl ?_
    refine JL_val (.bool (decide ((0:Int) < ((n:Int))))) (Ev_bini rfl rfl fun _ => bin_lss_i _ _) rfl ?_
    refine JL_nil ?_
    refine JQ_then ?_
    refine JC_condT _ rfl (decide_eq_true (by omega)) ?_
    refine JC_skip ?_
    refine JQ_then ?_
    refine JC_block ?_
    refine JC_seq ?_
    refine JC_region ?_
    refine JL_val _ (Ev_move rfl) rfl ?_
    refine JL_val (.agg (cu8 c).toArray) (Ev_load rfl (Ld_agg Tryd.isAgg54 Tryd.sizeOf54 (len_cu8 hc) (MemAt.ent 0 rfl (Seg.whole _)))) rfl ?_
    refine JL_step (Step_callP 140 [Slc kc 0 176 kcap, .agg (cu8 c).toArray] (.agg (cu8 (rencL ks c)).toArray) (Cl_func [Slc kc 0 176 kcap, .agg (cu8 c).toArray] Tryd.call140 rfl) (fun w1 hw1 => renc_c c ks kc kcap w1 hc hks (RdA.of hw1 (MemAt.seg (hm.mem (by simp)) (Seg.whole _) (by omega)) (by simp [hks])))) rfl ?_
    rintro v1 L1 ⟨rfl, rfl⟩
    show JL _ _ _ _ ((15, .agg (cu8 (rencL ks c)).toArray) :: _) [⟨nb1, cu8 c, 54, (0, 0)⟩]
    refine JL_step (Step_alloc _ (cu8 (zr8 16)) Tryd.zeroValue54 (by kernel_rfl)) rfl ?_
    rintro v1 L1 ⟨nb2, hnb2, rfl, rfl⟩
    show JL _ _ _ _ ((8, Ptr nb2 0) :: _) [⟨nb1, cu8 c, 54, (0, 0)⟩, ⟨nb2, cu8 (zr8 16), 54, (0, 0)⟩]
    refine JL_step (Step_store 1 nb2 0 16 (cu8 (zr8 16)) 54 (.agg (cu8 (rencL ks c)).toArray) (cu8 (rencL ks c)) (cu8 (rencL ks c)) rfl rfl rfl (by first | rfl | simp) Tryd.sizeOf54 (len_cu8 (rencL_len _ _ hc)) (by first | exact one_u8 | exact one_u32 | exact one_u64 | (simp [cu8, cu32, cu64, Value.oneCell']; done)) (by simp [(zr8_len 16)]) (lay_whole (by simp [(zr8_len 16), (rencL_len _ _ hc)]))) rfl ?_
    rintro v1 L1 ⟨rfl, rfl⟩
    show JL _ _ _ _ _ [⟨nb1, cu8 c, 54, (0, 0)⟩, ⟨nb2, cu8 (rencL ks c), 54, (0, 0)⟩]
    refine JL_nil ?_
    refine JQ_then ?_
    refine JC_seq ?_
    refine JC_region ?_
    refine JL_val _ (Ev_move rfl) rfl ?_
    refine JL_val (Slc nb2 0 16 16) (Ev_sliceA 16 5 1 0 16 0 16 Tryd.underlying54 Tryd.sizeOf5 rfl rfl rfl (by omega) (by omega) (by omega) (by omega) (by omega) 16 (by omega)) rfl ?_
    refine JL_step (Step_appM8 22 5 [false, false] (.slice none 0 0) 0 ([] : List UInt8) (rencL ks c) (some ⟨nb2, 0, none⟩) 16 16 16 Tryd.underlying22 Tryd.info5 rfl (.inl ⟨rfl, rfl, rfl, rfl, by omega⟩) rfl (by first | exact (rencL_len _ _ hc) | simp [(rencL_len _ _ hc)]; try omega) (SrcAt.mem (MemAt.ent 1 rfl (Seg.whole _))) (by omega) (by unfold maxLen; omega) (by omega)) rfl ?_
    rintro v1 L1 ⟨nb3, sp1, cp1, hg1, rfl, rfl, ha1, ha2, ha3, ha4⟩
    show JL _ _ _ _ ((18, Slc nb3 0 16 cp1) :: _) [⟨nb1, cu8 c, 54, (0, 0)⟩, ⟨nb2, cu8 (rencL ks c), 54, (0, 0)⟩, ⟨nb3, cu8 (([] : List UInt8) ++ (rencL ks c)) ++ sp1, 5, (0, 0)⟩]
    refine JL_val _ (Ev_assign rfl) rfl ?_
    refine JL_nil ?_
    refine JQ_then ?_
    refine JC_region ?_
    refine JL_val (.agg (cu8 c).toArray) (Ev_load rfl (Ld_agg Tryd.isAgg54 Tryd.sizeOf54 (len_cu8 hc) (MemAt.ent 0 rfl (Seg.whole _)))) rfl ?_
    refine JL_step (Step_callP 141 [.agg (cu8 c).toArray, U64 (1:UInt64)] (.agg (cu8 (rnextL c (1:UInt64))).toArray) (Cl_func [.agg (cu8 c).toArray, U64 (1:UInt64)] Tryd.call141 rfl) (fun w1 hw1 => rnext_c c (1:UInt64) w1 hc)) rfl ?_
    rintro v1 L1 ⟨rfl, rfl⟩
    show JL _ _ _ _ ((20, .agg (cu8 (rnextL c (1:UInt64))).toArray) :: _) [⟨nb1, cu8 c, 54, (0, 0)⟩, ⟨nb2, cu8 (rencL ks c), 54, (0, 0)⟩, ⟨nb3, cu8 (([] : List UInt8) ++ (rencL ks c)) ++ sp1, 5, (0, 0)⟩]
    refine JL_step (Step_store 0 nb1 0 16 (cu8 c) 54 (.agg (cu8 (rnextL c (1:UInt64))).toArray) (cu8 (rnextL c (1:UInt64))) (cu8 (rnextL c (1:UInt64))) rfl rfl rfl (by first | rfl | simp) Tryd.sizeOf54 (len_cu8 (rnextL_len hc)) (by first | exact one_u8 | exact one_u32 | exact one_u64 | (simp [cu8, cu32, cu64, Value.oneCell']; done)) (by simp [hc]) (lay_whole (by simp [hc, (rnextL_len hc)]))) rfl ?_
    rintro v1 L1 ⟨rfl, rfl⟩
    show JL _ _ _ _ _ [⟨nb1, cu8 (rnextL c (1:UInt64)), 54, (0, 0)⟩, ⟨nb2, cu8 (rencL ks c), 54, (0, 0)⟩, ⟨nb3, cu8 (([] : List UInt8) ++ (rencL ks c)) ++ sp1, 5, (0, 0)⟩]
    refine JL_nil ?_
    refine JQ_in_normal ?_
    refine JQ_thenK ?_
    refine K_mask [true, false, true] ?_
    show K _ _ [⟨nb1, cu8 (rnextL c (1:UInt64)), 54, (0, 0)⟩, ⟨nb3, cu8 (([] : List UInt8) ++ (rencL ks c)) ++ sp1, 5, (0, 0)⟩] _
    refine K_next (.inr (1, nb3, sp1, cp1)) ⟨by omega, by omega, ha2, by omega, ha4⟩ (by first | (simp; omega) | simp | (dsimp only; omega) | omega) (Sub.cons rfl (Sub.cons rfl (Sub.cons rfl (Sub.cons rfl (Sub.cons rfl (Sub.nil)))))) rfl
  ·
    obtain ⟨hx1, hx2, hx4, hx5, hx6⟩ := hx
    show JC _ _ _ [(0, Slc kc 0 176 kcap), (2, I64 ((n:Int))), (4, Ptr nb1 0), (6, .slice none 0 0), (7, Slc g 0 (16*k) cap)] [⟨nb1, cu8 (rctrN c k), 54, (0, 0)⟩, ⟨g, cu8 (strG (rBlk ks c) k) ++ sp, 5, (0, 0)⟩]
    refine JC_seq ?_
    refine JC_seq ?_
    refine JC_region ?_
    refine JL_val _ (Ev_move rfl) rfl ?_
    refine JL_val (I64 (16*(k:Int))) (Ev_lenX Tryd.underlying22 rfl (by omega)) rfl ?_
    refine JL_val _ (Ev_move rfl) rfl ?_
    refine JL_val (.bool (decide ((16*(k:Int)) < ((n:Int))))) (Ev_bini rfl rfl fun _ => bin_lss_i _ _) rfl ?_
    refine JL_nil ?_
    refine JQ_then ?_
    refine JC_cond (decide ((16*(k:Int)) < ((n:Int)))) rfl (fun hb1 => ?_) (fun hb1 => ?_)
    ·
      have hp1 : (16*(k:Int)) < ((n:Int)) := of_decide_eq_true hb1
      refine JC_skip ?_
      refine JQ_then ?_
      refine JC_block ?_
      refine JC_seq ?_
      refine JC_region ?_
      refine JL_val _ (Ev_move rfl) rfl ?_
      refine JL_val (.agg (cu8 (rctrN c k)).toArray) (Ev_load rfl (Ld_agg Tryd.isAgg54 Tryd.sizeOf54 (len_cu8 (rctrN_len hc k)) (MemAt.ent 0 rfl (Seg.whole _)))) rfl ?_
      refine JL_step (Step_callP 140 [Slc kc 0 176 kcap, .agg (cu8 (rctrN c k)).toArray] (.agg (cu8 (rencL ks (rctrN c k))).toArray) (Cl_func [Slc kc 0 176 kcap, .agg (cu8 (rctrN c k)).toArray] Tryd.call140 rfl) (fun w1 hw1 => renc_c (rctrN c k) ks kc kcap w1 (rctrN_len hc k) hks (RdA.of hw1 (MemAt.seg (hm.mem (by simp)) (Seg.whole _) (by omega)) (by simp [hks])))) rfl ?_
      rintro v1 L1 ⟨rfl, rfl⟩
      show JL _ _ _ _ ((15, .agg (cu8 (rencL ks (rctrN c k))).toArray) :: _) [⟨nb1, cu8 (rctrN c k), 54, (0, 0)⟩, ⟨g, cu8 (strG (rBlk ks c) k) ++ sp, 5, (0, 0)⟩]
      refine JL_step (Step_alloc _ (cu8 (zr8 16)) Tryd.zeroValue54 (by kernel_rfl)) rfl ?_
      rintro v1 L1 ⟨nb4, hnb4, rfl, rfl⟩
      show JL _ _ _ _ ((8, Ptr nb4 0) :: _) [⟨nb1, cu8 (rctrN c k), 54, (0, 0)⟩, ⟨g, cu8 (strG (rBlk ks c) k) ++ sp, 5, (0, 0)⟩, ⟨nb4, cu8 (zr8 16), 54, (0, 0)⟩]
      refine JL_step (Step_store 2 nb4 0 16 (cu8 (zr8 16)) 54 (.agg (cu8 (rencL ks (rctrN c k))).toArray) (cu8 (rencL ks (rctrN c k))) (cu8 (rencL ks (rctrN c k))) rfl rfl rfl (by first | rfl | simp) Tryd.sizeOf54 (len_cu8 (rencL_len _ _ (rctrN_len hc k))) (by first | exact one_u8 | exact one_u32 | exact one_u64 | (simp [cu8, cu32, cu64, Value.oneCell']; done)) (by simp [(zr8_len 16)]) (lay_whole (by simp [(zr8_len 16), (rencL_len _ _ (rctrN_len hc k))]))) rfl ?_
      rintro v1 L1 ⟨rfl, rfl⟩
      show JL _ _ _ _ _ [⟨nb1, cu8 (rctrN c k), 54, (0, 0)⟩, ⟨g, cu8 (strG (rBlk ks c) k) ++ sp, 5, (0, 0)⟩, ⟨nb4, cu8 (rencL ks (rctrN c k)), 54, (0, 0)⟩]
      refine JL_nil ?_
      refine JQ_then ?_
      refine JC_seq ?_
      refine JC_region ?_
      refine JL_val _ (Ev_move rfl) rfl ?_
      refine JL_val (Slc nb4 0 16 16) (Ev_sliceA 16 5 1 0 16 0 16 Tryd.underlying54 Tryd.sizeOf5 rfl rfl rfl (by omega) (by omega) (by omega) (by omega) (by omega) 16 (by omega)) rfl ?_
      refine JL_step (Step_appM8 22 5 [false, true, false] (Slc g 0 (16*k) cap) (16*k) (strG (rBlk ks c) k) (rencL ks (rctrN c k)) (some ⟨nb4, 0, none⟩) 16 16 (16*k + 16) Tryd.underlying22 Tryd.info5 rfl (.inr ⟨g, sp, cap, rfl, rfl, (by first | exact (strG_len (fun k => rBlk_len hc k) k) | simp [(strG_len (fun k => rBlk_len hc k) k)]), hx4, (by omega), hx6⟩) rfl (by first | exact (rencL_len _ _ (rctrN_len hc k)) | simp [(rencL_len _ _ (rctrN_len hc k))]; try omega) (SrcAt.mem (MemAt.ent 2 rfl (Seg.whole _))) (by omega) (by unfold maxLen; omega) (by omega)) rfl ?_
      rintro v1 L1 ⟨nb5, sp2, cp2, hg2, rfl, rfl, ha5, ha6, ha7, ha8⟩
      show JL _ _ _ _ ((18, Slc nb5 0 (16*k + 16) cp2) :: _) [⟨nb1, cu8 (rctrN c k), 54, (0, 0)⟩, ⟨nb4, cu8 (rencL ks (rctrN c k)), 54, (0, 0)⟩, ⟨nb5, cu8 ((strG (rBlk ks c) k) ++ (rencL ks (rctrN c k))) ++ sp2, 5, (0, 0)⟩]
      refine JL_val _ (Ev_assign rfl) rfl ?_
      refine JL_nil ?_
      refine JQ_then ?_
      refine JC_region ?_
      refine JL_val (.agg (cu8 (rctrN c k)).toArray) (Ev_load rfl (Ld_agg Tryd.isAgg54 Tryd.sizeOf54 (len_cu8 (rctrN_len hc k)) (MemAt.ent 0 rfl (Seg.whole _)))) rfl ?_
      refine JL_step (Step_callP 141 [.agg (cu8 (rctrN c k)).toArray, U64 (1:UInt64)] (.agg (cu8 (rnextL (rctrN c k) (1:UInt64))).toArray) (Cl_func [.agg (cu8 (rctrN c k)).toArray, U64 (1:UInt64)] Tryd.call141 rfl) (fun w1 hw1 => rnext_c (rctrN c k) (1:UInt64) w1 (rctrN_len hc k))) rfl ?_
      rintro v1 L1 ⟨rfl, rfl⟩
      show JL _ _ _ _ ((20, .agg (cu8 (rnextL (rctrN c k) (1:UInt64))).toArray) :: _) [⟨nb1, cu8 (rctrN c k), 54, (0, 0)⟩, ⟨nb4, cu8 (rencL ks (rctrN c k)), 54, (0, 0)⟩, ⟨nb5, cu8 ((strG (rBlk ks c) k) ++ (rencL ks (rctrN c k))) ++ sp2, 5, (0, 0)⟩]
      refine JL_step (Step_store 0 nb1 0 16 (cu8 (rctrN c k)) 54 (.agg (cu8 (rnextL (rctrN c k) (1:UInt64))).toArray) (cu8 (rnextL (rctrN c k) (1:UInt64))) (cu8 (rnextL (rctrN c k) (1:UInt64))) rfl rfl rfl (by first | rfl | simp) Tryd.sizeOf54 (len_cu8 (rnextL_len (rctrN_len hc k))) (by first | exact one_u8 | exact one_u32 | exact one_u64 | (simp [cu8, cu32, cu64, Value.oneCell']; done)) (by simp [(rctrN_len hc k)]) (lay_whole (by simp [(rctrN_len hc k), (rnextL_len (rctrN_len hc k))]))) rfl ?_
      rintro v1 L1 ⟨rfl, rfl⟩
      show JL _ _ _ _ _ [⟨nb1, cu8 (rnextL (rctrN c k) (1:UInt64)), 54, (0, 0)⟩, ⟨nb4, cu8 (rencL ks (rctrN c k)), 54, (0, 0)⟩, ⟨nb5, cu8 ((strG (rBlk ks c) k) ++ (rencL ks (rctrN c k))) ++ sp2, 5, (0, 0)⟩]
      refine JL_nil ?_
      refine JQ_in_normal ?_
      refine JQ_thenK ?_
      refine K_mask [true, false, true] ?_
      show K _ _ [⟨nb1, cu8 (rnextL (rctrN c k) (1:UInt64)), 54, (0, 0)⟩, ⟨nb5, cu8 ((strG (rBlk ks c) k) ++ (rencL ks (rctrN c k))) ++ sp2, 5, (0, 0)⟩] _
      refine K_next (.inr (k + 1, nb5, sp2, cp2)) ⟨by omega, by omega, ha6, by omega, ha8⟩ (by first | (simp; omega) | simp | (dsimp only; omega) | omega) (Sub.cons rfl (Sub.cons rfl (Sub.cons rfl (Sub.cons rfl (Sub.cons rfl (Sub.nil)))))) rfl
    ·
      have hp1 : ¬ ((16*(k:Int)) < ((n:Int))) := of_decide_eq_false hb1
      refine JC_exit ?_
      refine JQ_then_exit ?_
      refine JQ_then_exit ?_
      refine JQ_in_same ?_
      refine JQ_then ?_
      refine JC_seq ?_
      refine JC_region ?_
      refine JL_val _ (Ev_move rfl) rfl ?_
      refine JL_val _ (Ev_move rfl) rfl ?_
      refine JL_val (Slc g 0 n cap) (Ev_slice 5 1 0 n 0 cap Tryd.underlying22 Tryd.sizeOf5 rfl rfl rfl (by omega) (by omega) (by omega) (by omega) (by omega) n (by omega)) rfl ?_
      refine JL_val _ (Ev_assign rfl) rfl ?_
      refine JL_nil ?_
      refine JQ_then ?_
      refine JC_ret ?_
      refine JQ_ret (Slc g 0 n cap) (res1 Tryd.results134 (RV_tmp rfl)) fun w1 hw1 => ?_
      refine ⟨_, [⟨g, _, _, _⟩], rfl, ⟨g, cu8 ((strG (rBlk ks c) k).drop n) ++ sp, cap, rfl, rfl, ?_, by omega, hx6⟩, ?_⟩
      · simp [strG_len (fun k => rBlk_len hc k), hx4]; omega
      · rw [← strT_any (fun k => rBlk_len hc k) (m := k) (by omega), ← List.append_assoc, ← cu8_app, List.take_append_drop]
        exact hw1.sub (by simp) (by simp)

theorem crturn_c (ks c b : List UInt8) (kc kcap n cb : Nat) (ab : Option Addr) (w : World) (hc : c.length = 16) (hn0 : 0 < n) (hn : n ≤ 65536) (hb : b.length = n) (hr : RdB w [] ab b) (hks : ks.length = 176) (hm : RdA w kc 0 (cu8 ks)) : Calls Tryd.prog 126 #[Slc kc 0 176 kcap, .agg (cu8 c).toArray, .slice ab n cb] w (Post w [] (fun v L => ∃ g sp cap, v = Slc g 0 n cap ∧ L = [⟨g, cu8 (xorN (strT (rBlk ks c) n) b n) ++ sp, 5, (0, 0)⟩] ∧ sp.length = cap - n ∧ n ≤ cap ∧ cap ≤ maxLen)) := by
 refine enter w [] 33 [] [Slc kc 0 176 kcap, .agg (cu8 c).toArray, .slice ab n cb] Tryd.func126 rfl rfl (by simp) (Hp.start (by simp) (by simp) (by simp)) ?_
 show JC _ _ _ [(0, Slc kc 0 176 kcap), (1, .agg (cu8 c).toArray), (2, .slice ab n cb)] _
 refine JC_seq ?_
 refine JC_region ?_
 refine JL_step (Step_box (.agg (cu8 c).toArray) (cu8 c) rfl (by first | rfl | simp)) rfl ?_
 rintro v1 L1 ⟨nb1, hnb1, rfl, rfl⟩
 show JL _ _ _ _ ((4, Ptr nb1 0) :: _) [⟨nb1, cu8 c, 54, (0, 0)⟩]
 refine JL_val _ (Ev_assign rfl) rfl ?_
 refine JL_nil ?_
 refine JQ_then ?_
 refine JC_seq ?_
 refine JC_region ?_
 refine JL_val _ (Ev_move rfl) rfl ?_
 refine JL_val (.agg (cu8 c).toArray) (Ev_load rfl (Ld_agg Tryd.isAgg54 Tryd.sizeOf54 (len_cu8 hc) (MemAt.ent 0 rfl (Seg.whole _)))) rfl ?_
 refine JL_val _ (Ev_move rfl) rfl ?_
 refine JL_val (I64 ((n:Int))) (Ev_len Tryd.underlying22 rfl) rfl ?_
 refine JL_step (Step_callN 134 [Slc kc 0 176 kcap, .agg (cu8 c).toArray, I64 ((n:Int))] _ (Cl_func [Slc kc 0 176 kcap, .agg (cu8 c).toArray, I64 ((n:Int))] Tryd.call134 rfl) (fun w1 hw1 => rstream_c ks c kc kcap n w1 hc (by omega) (by omega) hks (RdA.of hw1 (MemAt.seg (hm.mem (by simp)) (Seg.whole _) (by omega)) (by simp [hks])))) rfl ?_
 rintro v1 L1 ⟨_, ⟨nb2, sp1, cp1, rfl, rfl, hc1, hc2, hc3⟩, rfl⟩
 show JL _ _ _ _ ((13, Slc nb2 0 n cp1) :: _) [⟨nb1, cu8 c, 54, (0, 0)⟩, ⟨nb2, cu8 (strT (rBlk ks c) n) ++ sp1, 5, (0, 0)⟩]
 refine JL_val _ (Ev_assign rfl) rfl ?_
 refine JL_nil ?_
 refine JQ_then ?_
 refine JC_seq ?_
 refine JC_seq ?_
 refine JC_region ?_
 refine JL_val _ (Ev_assign rfl) rfl ?_
 refine JL_nil ?_
 refine JQ_then ?_
 refine JC_block ?_
 refine K_mask [false, true] ?_
 show JC _ _ _ _ [⟨nb2, cu8 (strT (rBlk ks c) n) ++ sp1, 5, (0, 0)⟩]
 refine JC_loop (ι := Nat × List UInt8) (fun ⟨i, s⟩ => [(2, .slice ab n cb), (6, .slice none 0 0), (7, Slc nb2 0 n cp1), (8, I64 ((i:Int)))]) (fun ⟨i, s⟩ => [⟨nb2, cu8 s ++ sp1, 5, (0, 0)⟩]) (fun ⟨i, s⟩ => i ≤ n ∧ s = xorN (strT (rBlk ks c) n) b i ∧ s.length = n) (fun ⟨i, s⟩ => n - i) (0, strT (rBlk ks c) n) ⟨by omega, rfl, strT_len (fun k => rBlk_len hc k) n⟩ (Sub.cons rfl (Sub.cons rfl (Sub.cons rfl (Sub.cons rfl (Sub.nil))))) rfl ?_
 rintro ⟨i, s⟩ ⟨hy1, hy2, hs⟩
 show JC _ _ _ [(2, .slice ab n cb), (6, .slice none 0 0), (7, Slc nb2 0 n cp1), (8, I64 ((i:Int)))] [⟨nb2, cu8 s ++ sp1, 5, (0, 0)⟩]
 refine JC_seq ?_
 refine JC_seq ?_
 refine JC_region ?_
 refine JL_val _ (Ev_move rfl) rfl ?_
 refine JL_val _ (Ev_move rfl) rfl ?_
 refine JL_val (I64 ((n:Int))) (Ev_len Tryd.underlying22 rfl) rfl ?_
 refine JL_val (.bool (decide (((i:Int)) < ((n:Int))))) (Ev_bini rfl rfl fun _ => bin_lss_i _ _) rfl ?_
 refine JL_nil ?_
 refine JQ_then ?_
 refine JC_cond (decide (((i:Int)) < ((n:Int)))) rfl (fun hb1 => ?_) (fun hb1 => ?_)
 ·
  have hp1 : ((i:Int)) < ((n:Int)) := of_decide_eq_true hb1
  refine JC_skip ?_
  refine JQ_then ?_
  refine JC_seq ?_
  refine JC_block ?_
  obtain ⟨bz1, oz1, hz1, hm1⟩ := hr.pos (by rw [hb]; omega)
  refine JC_draw 33 2 [(0, Slc nb2 0 n cp1), (1, I64 ((i:Int))), (2, Slc nb2 0 n cp1), (3, I64 ((i:Int))), (4, Ptr nb2 i), (5, U8 (g8 s i)), (6, .slice ab n cb), (7, I64 ((i:Int))), (8, Ptr bz1 (i + oz1)), (9, U8 (g8 b i)), (10, U8 ((g8 s i) ^^^ (g8 b i))), (11, Ptr nb2 i)] Tryd.mixed rfl (by decide +kernel) ?_
  have hl1 : (s.set i ((g8 s i) ^^^ (g8 b i))).length = n := by first | (rw [List.length_set]; exact hs) | simp [hs]
  refine DP_one ⟨[], [0, 1, 2, 3, 4, 5, 6, 7, 8, 9, 10, 11], [], [0, 1, 2, 3, 4, 5, 6, 7, 8, 9, 10, 11], [12]⟩ 12 _ rfl rfl (by decide +kernel) rfl ⟨⟨_, rfl, Qok_val rfl (Ev_move rfl)⟩, ⟨_, rfl, Qok_val rfl (Ev_move rfl)⟩, ⟨_, rfl, Qok_val rfl (Ev_move rfl)⟩, ⟨_, rfl, Qok_val rfl (Ev_move rfl)⟩, ⟨_, rfl, Qok_val rfl (Ev_indexSl 5 1 i Tryd.underlying22 Tryd.sizeOf5 rfl rfl (by omega) (by omega) (by omega))⟩, ⟨_, rfl, Qok_val rfl (Ev_load rfl (Ld_one Tryd.isAgg5 (MemAt.ent 0 rfl (Seg.left (Seg.get (g8_get (i := i) (by rw [hs]; omega)))))))⟩, ⟨_, rfl, Qok_val rfl (Ev_move rfl)⟩, ⟨_, rfl, Qok_val rfl (Ev_move rfl)⟩, ⟨_, rfl, Qok_val rfl (Ev_indexSlG 5 1 (i + oz1) Tryd.underlying22 Tryd.sizeOf5 rfl hz1 rfl (by omega) (by omega) (by omega))⟩, ⟨_, rfl, Qok_val rfl (Ev_load rfl (Ld_one Tryd.isAgg5 (MemAt.seg (MemAt.base hm1.1 hm1.2.1 hm1.2.2) (Seg.get (g8_get (i := i) (by rw [hb]; omega))) (by omega))))⟩, ⟨_, rfl, Qok_val rfl (Ev_bini rfl rfl fun _ => bin_xor_u8 (g8 s i) (g8 b i))⟩, ⟨_, rfl, Qok_val rfl (Ev_indexSl 5 1 i Tryd.underlying22 Tryd.sizeOf5 rfl rfl (by omega) (by omega) (by omega))⟩, trivial⟩ rfl (Cok_step rfl (Step_store 0 nb2 i 1 (cu8 s ++ sp1) 5 (U8 ((g8 s i) ^^^ (g8 b i))) ([U8 ((g8 s i) ^^^ (g8 b i))]) (cu8 (s.set i ((g8 s i) ^^^ (g8 b i))) ++ sp1) rfl rfl rfl rfl Tryd.sizeOf5 rfl (by simp [Value.oneCell']) (by simp [hs, hc1]; try omega) (lay_left (p := cu8 s) (vs := [U8 ((g8 s i) ^^^ (g8 b i))]) (o := i) (by simp [hs]; omega) (lay8 _ _ _ (by rw [hs]; omega))))) ?_
  rintro v1 L1 ⟨rfl, rfl⟩
  refine ⟨[], ?_⟩
  show DP _ _ _ _ _ _ _ _ [⟨nb2, cu8 (s.set i ((g8 s i) ^^^ (g8 b i))) ++ sp1, 5, (0, 0)⟩]
  refine DP_end ⟨[12], [0, 1, 2, 3, 4, 5, 6, 7, 8, 9, 10, 11], [0, 1, 2, 3, 4, 5, 6, 7, 8, 9, 10, 11], [], []⟩ rfl rfl (by decide +kernel) rfl trivial ?_
  refine K_sub (F' := [(20, Slc nb2 0 n cp1), (21, I64 ((i:Int))), (22, Slc nb2 0 n cp1), (23, I64 ((i:Int))), (24, Ptr nb2 i), (25, U8 (g8 s i)), (26, .slice ab n cb), (27, I64 ((i:Int))), (28, Ptr bz1 (i + oz1)), (29, U8 (g8 b i)), (30, U8 ((g8 s i) ^^^ (g8 b i))), (31, Ptr nb2 i), (2, .slice ab n cb), (6, .slice none 0 0), (7, Slc nb2 0 n cp1), (8, I64 ((i:Int))), (14, I64 ((i:Int))), (15, .slice ab n cb), (16, I64 ((n:Int))), (17, .bool (decide (((i:Int)) < ((n:Int)))))]) (Sub.cons (by kernel_rfl) (Sub.cons (by kernel_rfl) (Sub.cons (by kernel_rfl) (Sub.cons (by kernel_rfl) (Sub.cons (by kernel_rfl) (Sub.cons (by kernel_rfl) (Sub.cons (by kernel_rfl) (Sub.cons (by kernel_rfl) (Sub.cons (by kernel_rfl) (Sub.cons (by kernel_rfl) (Sub.cons (by kernel_rfl) (Sub.cons (by kernel_rfl) (Sub.cons (by kernel_rfl) (Sub.cons (by kernel_rfl) (Sub.cons (by kernel_rfl) (Sub.cons (by kernel_rfl) (Sub.cons (by kernel_rfl) (Sub.cons (by kernel_rfl) (Sub.cons (by kernel_rfl) (Sub.cons (by kernel_rfl) (Sub.nil))))))))))))))))))))) ?_
  show JQ _ _ _ [(20, Slc nb2 0 n cp1), (21, I64 ((i:Int))), (22, Slc nb2 0 n cp1), (23, I64 ((i:Int))), (24, Ptr nb2 i), (25, U8 (g8 s i)), (26, .slice ab n cb), (27, I64 ((i:Int))), (28, Ptr bz1 (i + oz1)), (29, U8 (g8 b i)), (30, U8 ((g8 s i) ^^^ (g8 b i))), (31, Ptr nb2 i), (2, .slice ab n cb), (6, .slice none 0 0), (7, Slc nb2 0 n cp1), (8, I64 ((i:Int))), (14, I64 ((i:Int))), (15, .slice ab n cb), (16, I64 ((n:Int))), (17, .bool (decide (((i:Int)) < ((n:Int)))))] _
  refine JQ_in_normal ?_
  refine JQ_then ?_
  refine JC_region ?_
  refine JL_val _ (Ev_move rfl) rfl ?_
  refine JL_val (I64 ((i:Int) + 1)) (Ev_bini rfl rfl fun _ => bin_add_i _ _ ((i:Int) + 1) (by omega) (by omega)) rfl ?_
  refine JL_val _ (Ev_assign rfl) rfl ?_
  refine JL_nil ?_
  refine JQ_thenK ?_
  refine K_next (i + 1, s.set i ((g8 s i) ^^^ (g8 b i))) ⟨by omega, by rw [xorN, ← hy2], hl1⟩ (by first | (simp; omega) | simp | (dsimp only; omega) | omega) (Sub.cons rfl (Sub.cons rfl (Sub.cons rfl (Sub.cons rfl (Sub.nil))))) rfl
 ·
  have hp1 : ¬ (((i:Int)) < ((n:Int))) := of_decide_eq_false hb1
  refine JC_exit ?_
  refine JQ_then_exit ?_
  refine JQ_then_exit ?_
  refine JQ_in_same ?_
  refine JQ_then ?_
  refine JC_seq ?_
  refine JC_region ?_
  refine JL_val _ (Ev_move rfl) rfl ?_
  refine JL_val _ (Ev_assign rfl) rfl ?_
  refine JL_nil ?_
  refine JQ_then ?_
  refine JC_ret ?_
  refine JQ_ret (Slc nb2 0 n cp1) (res1 Tryd.results126 (RV_tmp rfl)) fun w1 hw1 => ?_
  have e1 : i = n := by omega
  subst e1
  rw [hy2] at hw1
  exact ⟨_, _, rfl, ⟨nb2, sp1, cp1, rfl, rfl, hc1, hc2, hc3⟩, hw1.sub (by simp) (by simp)⟩
end Go.Proofs.YtncoifiafklkjaaDoor
namespace Go.Sx
def wrdN (z : List UInt8) (t : Nat) : Nat → UInt32
 | 0 => 0
 | i + 1 => wrdN z t i * 256 + (g8 z (i + 4*t)).toUInt32
theorem adN_get (st s : List UInt32) : ∀ i, i ≤ s.length → ∀ j, g32 (adN st s i) j = if j < i then g32 s j + g32 st j else g32 s j
  | 0, _, j => by simp [adN]
  | i + 1, hi, j => by
    rw [adN, g32_set _ _ _ _ (by rw [adN_len]; omega)]
    by_cases h : i = j
    · subst h; rw [if_pos rfl, if_pos (by omega), adN_get st s i (by omega), if_neg (by omega)]
    · rw [if_neg h, adN_get st s i (by omega)]
      by_cases h2 : j < i
      · rw [if_pos h2, if_pos (by omega)]
      · rw [if_neg h2, if_neg (by omega)]
theorem comprL_eq {kk st : List UInt32} {blk : List UInt8} (h : st.length = 8) (a b c d e f g h' : UInt32) (hs : cpN kk st (spreadL blk) 64 = [a, b, c, d, e, f, g, h']) :
  comprL kk st blk = [g32 st 0 + a, g32 st 1 + b, g32 st 2 + c, g32 st 3 + d, g32 st 4 + e, g32 st 5 + f, g32 st 6 + g, g32 st 7 + h'] := by
 refine ext32 (by rw [comprL_len h]; rfl) fun j hj => ?_
 rw [comprL_len h] at hj
 rw [comprL, adN_get _ _ _ (by rw [hs]; exact Nat.le_refl _), if_pos hj, hs]
 have : j = 0 ∨ j = 1 ∨ j = 2 ∨ j = 3 ∨ j = 4 ∨ j = 5 ∨ j = 6 ∨ j = 7 := by omega
 rcases this with rfl | rfl | rfl | rfl | rfl | rfl | rfl | rfl <;> simp [g32, UInt32.add_comm]
theorem shl_lit (a : UInt8) (k : UInt32) (hk : k.toNat ≤ 24) : (a.toUInt32 <<< k).toNat = a.toNat * 2 ^ k.toNat := by
 have ha := a.toNat_lt
 rw [UInt32.toNat_shiftLeft, UInt8.toNat_toUInt32, Nat.shiftLeft_eq, Nat.mod_eq_of_lt (a := k.toNat) (by omega)]
 refine Nat.mod_eq_of_lt ?_
 have h2 : 2 ^ k.toNat ≤ 2 ^ 24 := Nat.pow_le_pow_right (by omega) hk
 have h3 : a.toNat * 2 ^ k.toNat ≤ a.toNat * 2 ^ 24 := Nat.mul_le_mul_left _ h2
 omega
theorem or_add (x y : UInt32) (k : Nat) (hx : x.toNat % 2 ^ k = 0) (hy : y.toNat < 2 ^ k) : (x ||| y).toNat = x.toNat + y.toNat := by
 rw [UInt32.toNat_or]
 have := Nat.shiftLeft_add_eq_or_of_lt (i := k) (b := y.toNat) hy (x.toNat / 2 ^ k)
 rw [Nat.shiftLeft_eq, Nat.div_mul_cancel (Nat.dvd_of_mod_eq_zero hx)] at this
 exact this.symm
theorem wordL_val (z : List UInt8) : (wordL z).toNat = (g8 z 0).toNat * 16777216 + (g8 z 1).toNat * 65536 + (g8 z 2).toNat * 256 + (g8 z 3).toNat := by
 have h0 := (g8 z 0).toNat_lt; have h1 := (g8 z 1).toNat_lt; have h2 := (g8 z 2).toNat_lt; have h3 := (g8 z 3).toNat_lt
 have e0 := shl_lit (g8 z 0) 24 (by decide)
 have e1 := shl_lit (g8 z 1) 16 (by decide)
 have e2 := shl_lit (g8 z 2) 8 (by decide)
 simp only [show (24 : UInt32).toNat = 24 from rfl, show (16 : UInt32).toNat = 16 from rfl, show (8 : UInt32).toNat = 8 from rfl] at e0 e1 e2
 have s1 := or_add ((g8 z 0).toUInt32 <<< (24:UInt32)) ((g8 z 1).toUInt32 <<< (16:UInt32)) 24 (by rw [e0]; omega) (by rw [e1]; omega)
 have s2 := or_add _ ((g8 z 2).toUInt32 <<< (8:UInt32)) 16 (by rw [s1, e0, e1]; omega) (by rw [e2]; omega)
 have s3 := or_add _ ((g8 z 3).toUInt32) 8 (by rw [s2, s1, e0, e1, e2]; omega) (by rw [UInt8.toNat_toUInt32]; omega)
 rw [wordL, s3, s2, s1, e0, e1, e2, UInt8.toNat_toUInt32]
theorem wrd_word (blk : List UInt8) (t : Nat) : wrdN blk t 4 = wordL (mid blk (4*t) 4) := by
 apply UInt32.toNat_inj.1
 have g : ∀ i, i < 4 → g8 (mid blk (4*t) 4) i = g8 blk (i + 4*t) := fun i hi => by rw [g8_mid hi, Nat.add_comm]
 rw [wordL_val, g 0 (by omega), g 1 (by omega), g 2 (by omega), g 3 (by omega)]
 have h0 := (g8 blk (0 + 4*t)).toNat_lt; have h1 := (g8 blk (1 + 4*t)).toNat_lt; have h2 := (g8 blk (2 + 4*t)).toNat_lt; have h3 := (g8 blk (3 + 4*t)).toNat_lt
 have e : ∀ (a : UInt32) (b : UInt8), (a * 256 + b.toUInt32).toNat = (a.toNat * 256 + b.toNat) % 4294967296 := fun a b => by
  rw [UInt32.toNat_add, UInt32.toNat_mul, UInt8.toNat_toUInt32, show (256 : UInt32).toNat = 256 from rfl]; omega
 have z0 : (wrdN blk t 0).toNat = 0 := rfl
 have e1 : (wrdN blk t 1).toNat = _ := e (wrdN blk t 0) (g8 blk (0 + 4*t))
 have e2 : (wrdN blk t 2).toNat = _ := e (wrdN blk t 1) (g8 blk (1 + 4*t))
 have e3 : (wrdN blk t 3).toNat = _ := e (wrdN blk t 2) (g8 blk (2 + 4*t))
 have e4 : (wrdN blk t 4).toNat = _ := e (wrdN blk t 3) (g8 blk (3 + 4*t))
 omega
def routN (s : List UInt32) : Nat → List UInt8
 | 0 => zr8 32
 | i + 1 => (routN s i).set i (byteAt s i)
theorem routN_len (s : List UInt32) : ∀ i, (routN s i).length = 32
 | 0 => zr8_len 32
 | i + 1 => by rw [routN, List.length_set, routN_len s i]
theorem routN_get (s : List UInt32) : ∀ i, i ≤ 32 → ∀ j, j < i → g8 (routN s i) j = byteAt s j
  | 0, _, j, hj => by omega
  | i + 1, hi, j, hj => by
    rw [routN, g8_set _ _ _ _ (by rw [routN_len]; omega)]
    by_cases h : i = j
    · subst h; rw [if_pos rfl]
    · rw [if_neg h]; exact routN_get s i (by omega) j (by omega)
theorem routN_hash (s : List UInt32) : routN s 32 = hashL s :=
 ext8 (by rw [routN_len, hashL_len]) fun j hj => by
  rw [routN_len] at hj
  rw [routN_get s 32 (by omega) j hj, hashL, g8_map_range hj]
end Go.Sx
namespace Go.Proofs.YtncoifiafklkjaaDoor
open Go Go.Sx
set_option linter.unusedVariables false
set_option linter.unusedSimpArgs false
set_option maxRecDepth 100000
attribute [local irreducible] mid zr8 zr32 rotr wordL
theorem rturn_c (x : UInt32) (k : Nat) (w : World) (h1 : 1 ≤ k) (h2 : k ≤ 31) : Calls Tryd.prog 87 #[U32 x, I64 ((k:Int))] w (Post w [] (fun v L => v = U32 (rotr x k) ∧ L = [])) := by
 refine enter w [] 15 [] [U32 x, I64 ((k:Int))] Tryd.func87 rfl rfl (by simp) (Hp.start (by simp) (by simp) (by simp)) ?_
 show JC _ _ _ [(0, U32 x), (1, I64 ((k:Int)))] _
 refine JC_seq ?_
 refine JC_region ?_
 refine JL_val _ (Ev_assign rfl) rfl ?_
 refine JL_nil ?_
 refine JQ_then ?_
 refine JC_seq ?_
 refine JC_region ?_
 refine JL_val _ (Ev_move rfl) rfl ?_
 refine JL_val _ (Ev_move rfl) rfl ?_
 refine JL_val (U64 (UInt64.ofNat k)) (Ev_conv _ _ rfl fun _ => conv_i64_u64 (by rw [Tryd.underlying3]; rfl) Tryd.underlying52 k _ (by omega)) rfl ?_
 refine JL_val (U32 (x >>> UInt32.ofNat k)) (Ev_bini rfl rfl fun _ => bin_shr_u32 x _ _ k (by omega) (ofN_i (by omega))) rfl ?_
 refine JL_val _ (Ev_move rfl) rfl ?_
 refine JL_val _ (Ev_move rfl) rfl ?_
 refine JL_val (I64 (-(k:Int) + 32)) (Ev_bini rfl rfl fun _ => bin_sub_i _ _ (-(k:Int) + 32) (by omega) (by omega)) rfl ?_
 refine JL_val (U64 (UInt64.ofNat (32 - k))) (Ev_conv _ _ rfl fun _ => conv_i64_u64 (by rw [Tryd.underlying3]; rfl) Tryd.underlying52 (32 - k) _ (by omega)) rfl ?_
 refine JL_val (U32 (x <<< UInt32.ofNat (32 - k))) (Ev_bini rfl rfl fun _ => bin_shl_u32 x _ _ (32 - k) (by omega) (ofN_i (by omega))) rfl ?_
 refine JL_val (U32 ((x >>> UInt32.ofNat k) ||| (x <<< UInt32.ofNat (32 - k)))) (Ev_bini rfl rfl fun _ => bin_or_u32 (x >>> UInt32.ofNat k) (x <<< UInt32.ofNat (32 - k))) rfl ?_
 refine JL_val _ (Ev_assign rfl) rfl ?_
 refine JL_nil ?_
 refine JQ_then ?_
 refine JC_ret ?_
 refine JQ_ret (U32 ((x >>> UInt32.ofNat k) ||| (x <<< UInt32.ofNat (32 - k)))) (res1 Tryd.results87 (RV_tmp rfl)) fun w1 hw1 => ?_
 refine ⟨_, [], rfl, ⟨?_, rfl⟩, hw1.sub (by simp) (by simp)⟩
 rw [rotr, UInt32.or_comm]
end Go.Proofs.YtncoifiafklkjaaDoor
namespace Go.Proofs.YtncoifiafklkjaaDoor
open Go Go.Sx
set_option linter.unusedVariables false
set_option linter.unusedSimpArgs false
set_option maxRecDepth 100000
attribute [local irreducible] mid zr8 zr32 rotr wordL spreadL comprL cpN adN spN wrdN constL initL
theorem spN_zero (blk : List UInt8) : ∀ t, t ≤ 64 → ∀ j, t ≤ j → g32 (spN blk t) j = 0
 | 0, _, j, _ => by rw [spN]; exact g32_zr
 | t + 1, ht, j, hj => by
  rw [spN, spS]
  split
  all_goals rw [g32_set _ _ _ _ (by rw [spN_len]; omega), if_neg (by omega)]; exact spN_zero blk t (by omega) j (by omega)
theorem spN_set0 (blk : List UInt8) {t : Nat} (ht : t < 64) : spN blk t = (spN blk t).set t 0 := by
  refine ext32 (by simp) fun j hj => ?_
  rw [g32_set _ _ _ _ (by rw [spN_len]; omega)]
  by_cases h : t = j
  · subst h; rw [if_pos rfl, spN_zero blk t (by omega) t (Nat.le_refl t)]
  · rw [if_neg h]
theorem set_again (w : List UInt32) (t : Nat) (x y : UInt32) (b : UInt8) (h : t < w.length) (e : y = x * 256 + b.toUInt32) : (w.set t x).set t (g32 (w.set t x) t * 256 + b.toUInt32) = w.set t y := by
 rw [g32_set _ _ _ _ h, if_pos rfl, List.set_set, e]
theorem ex8 {s : List UInt32} (h : s.length = 8) : [g32 s 0, g32 s 1, g32 s 2, g32 s 3, g32 s 4, g32 s 5, g32 s 6, g32 s 7] = s := by
 match s, h with
 | [_, _, _, _, _, _, _, _], _ => rfl
set_option maxHeartbeats 4000000 in
theorem rcompress_c (st : List UInt32) (ab : Option Addr) (cb : Nat) (blk : List UInt8) (w : World) (hs0 : st.length = 8) (hb : blk.length = 64) (hr : RdB w [] ab blk) (hG : GLr w) : Calls Tryd.prog 29 #[.agg (cu32 st).toArray, .slice ab 64 cb] w (Post w [] (fun v L => v = .agg (cu32 (comprL constL st blk)).toArray ∧ L = [])) := by
 refine enter w [] 199 [] [.agg (cu32 st).toArray, .slice ab 64 cb] Tryd.func29 rfl rfl (by simp) (Hp.start (by simp) (by simp) (by simp)) ?_
 show JC _ _ _ [(0, .agg (cu32 st).toArray), (1, .slice ab 64 cb)] _
 refine JC_seq ?_
 refine JC_region ?_
 refine JL_step (Step_box (.agg (cu32 st).toArray) (cu32 st) rfl (by first | rfl | simp)) rfl ?_
 rintro v1 L1 ⟨nb1, hnb1, rfl, rfl⟩
 show JL _ _ _ _ ((2, Ptr nb1 0) :: _) [⟨nb1, cu32 st, 31, (0, 0)⟩]
 refine JL_step (Step_alloc _ (cu32 (zr32 8)) Tryd.zeroValue31 (by kernel_rfl)) rfl ?_
 rintro v1 L1 ⟨nb2, hnb2, rfl, rfl⟩
 show JL _ _ _ _ ((4, Ptr nb2 0) :: _) [⟨nb1, cu32 st, 31, (0, 0)⟩, ⟨nb2, cu32 (zr32 8), 31, (0, 0)⟩]
 refine JL_nil ?_
 refine JQ_then ?_
 refine JC_seq ?_
 refine JC_region ?_
 refine JL_step (Step_alloc _ (cu32 (zr32 64)) Tryd.zeroValue44 (by kernel_rfl)) rfl ?_
 rintro v1 L1 ⟨nb3, hnb3, rfl, rfl⟩
 show JL _ _ _ _ ((5, Ptr nb3 0) :: _) [⟨nb1, cu32 st, 31, (0, 0)⟩, ⟨nb2, cu32 (zr32 8), 31, (0, 0)⟩, ⟨nb3, cu32 (zr32 64), 44, (0, 0)⟩]
 refine JL_nil ?_
 refine JQ_then ?_
 refine JC_seq ?_
 refine JC_seq ?_
 refine JC_region ?_
 refine JL_val _ (Ev_assign rfl) rfl ?_
 refine JL_nil ?_
 refine JQ_then ?_
 refine JC_block ?_
 refine JC_loop (ι := Nat × List UInt32) (fun ⟨t, ww⟩ => [(1, .slice ab 64 cb), (2, Ptr nb1 0), (4, Ptr nb2 0), (5, Ptr nb3 0), (6, I64 ((t:Int)))]) (fun ⟨t, ww⟩ => [⟨nb1, cu32 st, 31, (0, 0)⟩, ⟨nb2, cu32 (zr32 8), 31, (0, 0)⟩, ⟨nb3, cu32 ww, 44, (0, 0)⟩]) (fun ⟨t, ww⟩ => t ≤ 64 ∧ ww = spN blk t ∧ ww.length = 64) (fun ⟨t, ww⟩ => 64 - t) (0, zr32 64) ⟨by omega, by rw [spN], zr32_len 64⟩ (Sub.cons rfl (Sub.cons rfl (Sub.cons rfl (Sub.cons rfl (Sub.cons rfl (Sub.nil)))))) rfl ?_
 rintro ⟨t, ww⟩ ⟨hx1, hx2, hw⟩
 show JC _ _ _ [(1, .slice ab 64 cb), (2, Ptr nb1 0), (4, Ptr nb2 0), (5, Ptr nb3 0), (6, I64 ((t:Int)))] [⟨nb1, cu32 st, 31, (0, 0)⟩, ⟨nb2, cu32 (zr32 8), 31, (0, 0)⟩, ⟨nb3, cu32 ww, 44, (0, 0)⟩]
 refine JC_seq ?_
 refine JC_seq ?_
 refine JC_region ?_
 refine JL_val _ (Ev_move rfl) rfl ?_
 refine JL_val (.bool (decide (((t:Int)) < (64:Int)))) (Ev_bini rfl rfl fun _ => bin_lss_i _ _) rfl ?_
 refine JL_nil ?_
 refine JQ_then ?_
 refine JC_cond (decide (((t:Int)) < (64:Int))) rfl (fun hb1 => ?_) (fun hb1 => ?_)
 ·
  have hp1 : ((t:Int)) < (64:Int) := of_decide_eq_true hb1
  refine JC_skip ?_
  refine JQ_then ?_
  refine JC_seq ?_
  refine JC_block ?_
  refine JC_seq ?_
  refine JC_region ?_
  refine JL_val _ (Ev_move rfl) rfl ?_
  refine JL_val (.bool (decide (((t:Int)) < (16:Int)))) (Ev_bini rfl rfl fun _ => bin_lss_i _ _) rfl ?_
  refine JL_nil ?_
  refine JQ_then ?_
  refine JC_cond (decide (((t:Int)) < (16:Int))) rfl (fun hb2 => ?_) (fun hb2 => ?_)
  ·
   have hp2 : ((t:Int)) < (16:Int) := of_decide_eq_true hb2
   refine JC_seq ?_
   refine JC_region ?_
   refine JL_val _ (Ev_assign rfl) rfl ?_
   refine JL_nil ?_
   refine JQ_then ?_
   refine JC_block ?_
   refine JC_loop (ι := Nat × List UInt32) (fun ⟨i, u⟩ => [(1, .slice ab 64 cb), (2, Ptr nb1 0), (4, Ptr nb2 0), (5, Ptr nb3 0), (6, I64 ((t:Int))), (23, I64 ((t:Int))), (24, .bool (decide (((t:Int)) < (64:Int)))), (27, I64 ((t:Int))), (28, .bool (decide (((t:Int)) < (16:Int)))), (7, I64 ((i:Int)))]) (fun ⟨i, u⟩ => [⟨nb1, cu32 st, 31, (0, 0)⟩, ⟨nb2, cu32 (zr32 8), 31, (0, 0)⟩, ⟨nb3, cu32 u, 44, (0, 0)⟩]) (fun ⟨i, u⟩ => i ≤ 4 ∧ u = ww.set t (wrdN blk t i) ∧ u.length = 64) (fun ⟨i, u⟩ => 4 - i) (0, ww) ⟨by omega, by rw [hx2, wrdN]; exact spN_set0 blk (t := t) (by omega), hw⟩ (Sub.cons rfl (Sub.cons rfl (Sub.cons rfl (Sub.cons rfl (Sub.cons rfl (Sub.cons rfl (Sub.cons rfl (Sub.cons rfl (Sub.cons rfl (Sub.cons rfl (Sub.nil))))))))))) rfl ?_
   rintro ⟨i, u⟩ ⟨hz1, hz2, hu⟩
   show JC _ _ _ [(1, .slice ab 64 cb), (2, Ptr nb1 0), (4, Ptr nb2 0), (5, Ptr nb3 0), (6, I64 ((t:Int))), (23, I64 ((t:Int))), (24, .bool (decide (((t:Int)) < (64:Int)))), (27, I64 ((t:Int))), (28, .bool (decide (((t:Int)) < (16:Int)))), (7, I64 ((i:Int)))] [⟨nb1, cu32 st, 31, (0, 0)⟩, ⟨nb2, cu32 (zr32 8), 31, (0, 0)⟩, ⟨nb3, cu32 u, 44, (0, 0)⟩]
   refine JC_seq ?_
   refine JC_seq ?_
   refine JC_region ?_
   refine JL_val _ (Ev_move rfl) rfl ?_
   refine JL_val (.bool (decide (((i:Int)) < (4:Int)))) (Ev_bini rfl rfl fun _ => bin_lss_i _ _) rfl ?_
   refine JL_nil ?_
   refine JQ_then ?_
   refine JC_cond (decide (((i:Int)) < (4:Int))) rfl (fun hb3 => ?_) (fun hb3 => ?_)
   ·
    have hp3 : ((i:Int)) < (4:Int) := of_decide_eq_true hb3
    refine JC_skip ?_
    refine JQ_then ?_
    refine JC_seq ?_
    refine JC_block ?_
    obtain ⟨bz1, oz1, hz1, hm1⟩ := hr.pos (by rw [hb]; omega)
    refine JC_draw 199 2 [(0, I64 ((t:Int))), (1, I64 ((t:Int))), (2, Ptr nb3 t), (3, U32 (g32 u t)), (4, U32 ((g32 u t) * (256:UInt32))), (5, .slice ab 64 cb), (6, I64 ((t:Int))), (7, I64 (4*(t:Int))), (8, I64 ((i:Int))), (9, I64 ((i:Int) + 4*(t:Int))), (10, Ptr bz1 (i + oz1 + 4*t)), (11, U8 (g8 blk (i + 4*t))), (12, U32 ((g8 blk (i + 4*t)).toUInt32)), (13, U32 (((g32 u t) * (256:UInt32)) + ((g8 blk (i + 4*t)).toUInt32))), (14, Ptr nb3 t)] Tryd.mixed rfl (by decide +kernel) ?_
    have hl1 : (u.set t (((g32 u t) * (256:UInt32)) + ((g8 blk (i + 4*t)).toUInt32))).length = 64 := by simp [hu]
    refine DP_one ⟨[], [0, 1, 2, 3, 4, 5, 6, 7, 8, 9, 10, 11, 12, 13, 14], [], [0, 1, 2, 3, 4, 5, 6, 7, 8, 9, 10, 11, 12, 13, 14], [15]⟩ 15 _ rfl rfl (by decide +kernel) rfl ⟨⟨_, rfl, Qok_val rfl (Ev_move rfl)⟩, ⟨_, rfl, Qok_val rfl (Ev_move rfl)⟩, ⟨_, rfl, Qok_val rfl (Ev_indexArr 64 30 1 t Tryd.underlying44 Tryd.sizeOf30 rfl rfl (by omega) (by omega) (by omega))⟩, ⟨_, rfl, Qok_val rfl (Ev_load rfl (Ld_one Tryd.isAgg30 (MemAt.ent 2 rfl (Seg.get (g32_get (i := t) (by rw [hu]; omega))))))⟩, ⟨_, rfl, Qok_val rfl (Ev_bini rfl rfl fun _ => bin_mul_u32 (g32 u t) (256:UInt32))⟩, ⟨_, rfl, Qok_val rfl (Ev_move rfl)⟩, ⟨_, rfl, Qok_val rfl (Ev_move rfl)⟩, ⟨_, rfl, Qok_val rfl (Ev_bini rfl rfl fun _ => bin_mul_i _ _ (4*(t:Int)) (by omega) (by omega))⟩, ⟨_, rfl, Qok_val rfl (Ev_move rfl)⟩, ⟨_, rfl, Qok_val rfl (Ev_bini rfl rfl fun _ => bin_add_i _ _ ((i:Int) + 4*(t:Int)) (by omega) (by omega))⟩, ⟨_, rfl, Qok_val rfl (Ev_indexSlG 5 1 (i + oz1 + 4*t) Tryd.underlying22 Tryd.sizeOf5 rfl hz1 rfl (by omega) (by omega) (by omega))⟩, ⟨_, rfl, Qok_val rfl (Ev_load rfl (Ld_one Tryd.isAgg5 (MemAt.seg (MemAt.base hm1.1 hm1.2.1 hm1.2.2) (Seg.get (g8_get (i := (i + 4*t)) (by rw [hb]; omega))) (by omega))))⟩, ⟨_, rfl, Qok_val rfl (Ev_conv _ _ rfl fun _ => conv_u8_u32 (by rw [Tryd.underlying5]; rfl) Tryd.underlying30 _)⟩, ⟨_, rfl, Qok_val rfl (Ev_bini rfl rfl fun _ => bin_add_u32 ((g32 u t) * (256:UInt32)) ((g8 blk (i + 4*t)).toUInt32))⟩, ⟨_, rfl, Qok_val rfl (Ev_indexArr 64 30 1 t Tryd.underlying44 Tryd.sizeOf30 rfl rfl (by omega) (by omega) (by omega))⟩, trivial⟩ rfl (Cok_step rfl (Step_store 2 nb3 t 1 (cu32 u) 44 (U32 (((g32 u t) * (256:UInt32)) + ((g8 blk (i + 4*t)).toUInt32))) ([U32 (((g32 u t) * (256:UInt32)) + ((g8 blk (i + 4*t)).toUInt32))]) (cu32 (u.set t (((g32 u t) * (256:UInt32)) + ((g8 blk (i + 4*t)).toUInt32)))) rfl rfl rfl rfl Tryd.sizeOf30 rfl (by simp [Value.oneCell']) (by simp [hu]; try omega) (lay32 _ _ _ (by rw [hu]; omega)))) ?_
    rintro v1 L1 ⟨rfl, rfl⟩
    refine ⟨[], ?_⟩
    show DP _ _ _ _ _ _ _ _ [⟨nb1, cu32 st, 31, (0, 0)⟩, ⟨nb2, cu32 (zr32 8), 31, (0, 0)⟩, ⟨nb3, cu32 (u.set t (((g32 u t) * (256:UInt32)) + ((g8 blk (i + 4*t)).toUInt32))), 44, (0, 0)⟩]
    refine DP_end ⟨[15], [0, 1, 2, 3, 4, 5, 6, 7, 8, 9, 10, 11, 12, 13, 14], [0, 1, 2, 3, 4, 5, 6, 7, 8, 9, 10, 11, 12, 13, 14], [], []⟩ rfl rfl (by decide +kernel) rfl trivial ?_
    refine K_sub (F' := [(33, I64 ((t:Int))), (34, I64 ((t:Int))), (35, Ptr nb3 t), (36, U32 (g32 u t)), (37, U32 ((g32 u t) * (256:UInt32))), (38, .slice ab 64 cb), (39, I64 ((t:Int))), (40, I64 (4*(t:Int))), (41, I64 ((i:Int))), (42, I64 ((i:Int) + 4*(t:Int))), (43, Ptr bz1 (i + oz1 + 4*t)), (44, U8 (g8 blk (i + 4*t))), (45, U32 ((g8 blk (i + 4*t)).toUInt32)), (46, U32 (((g32 u t) * (256:UInt32)) + ((g8 blk (i + 4*t)).toUInt32))), (47, Ptr nb3 t), (1, .slice ab 64 cb), (2, Ptr nb1 0), (4, Ptr nb2 0), (5, Ptr nb3 0), (6, I64 ((t:Int))), (23, I64 ((t:Int))), (24, .bool (decide (((t:Int)) < (64:Int)))), (27, I64 ((t:Int))), (28, .bool (decide (((t:Int)) < (16:Int)))), (7, I64 ((i:Int))), (29, I64 ((i:Int))), (30, .bool (decide (((i:Int)) < (4:Int))))]) (Sub.cons (by kernel_rfl) (Sub.cons (by kernel_rfl) (Sub.cons (by kernel_rfl) (Sub.cons (by kernel_rfl) (Sub.cons (by kernel_rfl) (Sub.cons (by kernel_rfl) (Sub.cons (by kernel_rfl) (Sub.cons (by kernel_rfl) (Sub.cons (by kernel_rfl) (Sub.cons (by kernel_rfl) (Sub.cons (by kernel_rfl) (Sub.cons (by kernel_rfl) (Sub.cons (by kernel_rfl) (Sub.cons (by kernel_rfl) (Sub.cons (by kernel_rfl) (Sub.cons (by kernel_rfl) (Sub.cons (by kernel_rfl) (Sub.cons (by kernel_rfl) (Sub.cons (by kernel_rfl) (Sub.cons (by kernel_rfl) (Sub.cons (by kernel_rfl) (Sub.cons (by kernel_rfl) (Sub.cons (by kernel_rfl) (Sub.cons (by kernel_rfl) (Sub.cons (by kernel_rfl) (Sub.cons (by kernel_rfl) (Sub.cons (by kernel_rfl) (Sub.nil)))))))))))))))))))))))))))) ?_
    show JQ _ _ _ [(33, I64 ((t:Int))), (34, I64 ((t:Int))), (35, Ptr nb3 t), (36, U32 (g32 u t)), (37, U32 ((g32 u t) * (256:UInt32))), (38, .slice ab 64 cb), (39, I64 ((t:Int))), (40, I64 (4*(t:Int))), (41, I64 ((i:Int))), (42, I64 ((i:Int) + 4*(t:Int))), (43, Ptr bz1 (i + oz1 + 4*t)), (44, U8 (g8 blk (i + 4*t))), (45, U32 ((g8 blk (i + 4*t)).toUInt32)), (46, U32 (((g32 u t) * (256:UInt32)) + ((g8 blk (i + 4*t)).toUInt32))), (47, Ptr nb3 t), (1, .slice ab 64 cb), (2, Ptr nb1 0), (4, Ptr nb2 0), (5, Ptr nb3 0), (6, I64 ((t:Int))), (23, I64 ((t:Int))), (24, .bool (decide (((t:Int)) < (64:Int)))), (27, I64 ((t:Int))), (28, .bool (decide (((t:Int)) < (16:Int)))), (7, I64 ((i:Int))), (29, I64 ((i:Int))), (30, .bool (decide (((i:Int)) < (4:Int))))] _
    refine JQ_in_normal ?_
    refine JQ_then ?_
    refine JC_region ?_
    refine JL_val _ (Ev_move rfl) rfl ?_
    refine JL_val (I64 ((i:Int) + 1)) (Ev_bini rfl rfl fun _ => bin_add_i _ _ ((i:Int) + 1) (by omega) (by omega)) rfl ?_
    refine JL_val _ (Ev_assign rfl) rfl ?_
    refine JL_nil ?_
    refine JQ_thenK ?_
    refine K_next (i + 1, u.set t (((g32 u t) * (256:UInt32)) + ((g8 blk (i + 4*t)).toUInt32))) ⟨by omega, by rw [hz2]; exact set_again ww t _ _ _ (by omega) (by rw [wrdN]), hl1⟩ (by first | (simp; omega) | simp) (Sub.cons rfl (Sub.cons rfl (Sub.cons rfl (Sub.cons rfl (Sub.cons rfl (Sub.cons rfl (Sub.cons rfl (Sub.cons rfl (Sub.cons rfl (Sub.cons rfl (Sub.nil))))))))))) rfl
   ·
    have hp3 : ¬ (((i:Int)) < (4:Int)) := of_decide_eq_false hb3
    refine JC_exit ?_
    refine JQ_then_exit ?_
    refine JQ_then_exit ?_
    refine JQ_in_same ?_
    refine JQ_in_normal ?_
    refine JQ_then ?_
    refine JC_region ?_
    refine JL_val _ (Ev_move rfl) rfl ?_
    refine JL_val (I64 ((t:Int) + 1)) (Ev_bini rfl rfl fun _ => bin_add_i _ _ ((t:Int) + 1) (by omega) (by omega)) rfl ?_
    refine JL_val _ (Ev_assign rfl) rfl ?_
    refine JL_nil ?_
    refine JQ_thenK ?_
    refine K_next (t + 1, u) ⟨by omega, by rw [spN, spS, if_pos (by omega), ← hx2, hz2, show i = 4 from by omega, wrd_word], hu⟩ (by first | (simp; omega) | simp) (Sub.cons rfl (Sub.cons rfl (Sub.cons rfl (Sub.cons rfl (Sub.cons rfl (Sub.nil)))))) rfl
  ·
   have hp2 : ¬ (((t:Int)) < (16:Int)) := of_decide_eq_false hb2
   refine JC_seq ?_
   refine JC_draw 199 1 [(0, I64 ((t:Int))), (1, I64 ((t:Int) - 15)), (2, Ptr nb3 (t - 15)), (3, U32 (g32 ww (t - 15))), (4, I64 ((t:Int))), (5, I64 ((t:Int) - 2)), (6, Ptr nb3 (t - 2)), (7, U32 (g32 ww (t - 2))), (8, U32 (g32 ww (t - 15))), (9, U32 (g32 ww (t - 2)))] Tryd.mixed rfl (by decide +kernel) ?_
   refine DP_end ⟨[], [0, 1, 2, 3, 4, 5, 6, 7, 8, 9], [], [0, 1, 2, 3, 4, 5, 6, 7, 8, 9], []⟩ rfl rfl (by decide +kernel) rfl ⟨⟨_, rfl, Qok_val rfl (Ev_move rfl)⟩, ⟨_, rfl, Qok_val rfl (Ev_bini rfl rfl fun _ => bin_sub_i _ _ ((t:Int) - 15) (by omega) (by omega))⟩, ⟨_, rfl, Qok_val rfl (Ev_indexArr 64 30 1 (t - 15) Tryd.underlying44 Tryd.sizeOf30 rfl rfl (by omega) (by omega) (by omega))⟩, ⟨_, rfl, Qok_val rfl (Ev_load rfl (Ld_one Tryd.isAgg30 (MemAt.ent 2 rfl (Seg.get (g32_get (i := (t - 15)) (by rw [hw]; omega))))))⟩, ⟨_, rfl, Qok_val rfl (Ev_move rfl)⟩, ⟨_, rfl, Qok_val rfl (Ev_bini rfl rfl fun _ => bin_sub_i _ _ ((t:Int) - 2) (by omega) (by omega))⟩, ⟨_, rfl, Qok_val rfl (Ev_indexArr 64 30 1 (t - 2) Tryd.underlying44 Tryd.sizeOf30 rfl rfl (by omega) (by omega) (by omega))⟩, ⟨_, rfl, Qok_val rfl (Ev_load rfl (Ld_one Tryd.isAgg30 (MemAt.ent 2 rfl (Seg.get (g32_get (i := (t - 2)) (by rw [hw]; omega))))))⟩, ⟨_, rfl, Qok_val rfl (Ev_assign rfl)⟩, ⟨_, rfl, Qok_val rfl (Ev_assign rfl)⟩, trivial⟩ ?_
   refine K_sub (F' := [(48, I64 ((t:Int))), (49, I64 ((t:Int) - 15)), (50, Ptr nb3 (t - 15)), (51, U32 (g32 ww (t - 15))), (52, I64 ((t:Int))), (53, I64 ((t:Int) - 2)), (54, Ptr nb3 (t - 2)), (55, U32 (g32 ww (t - 2))), (8, U32 (g32 ww (t - 15))), (9, U32 (g32 ww (t - 2))), (1, .slice ab 64 cb), (2, Ptr nb1 0), (4, Ptr nb2 0), (5, Ptr nb3 0), (6, I64 ((t:Int))), (23, I64 ((t:Int))), (24, .bool (decide (((t:Int)) < (64:Int)))), (27, I64 ((t:Int))), (28, .bool (decide (((t:Int)) < (16:Int))))]) (Sub.cons (by kernel_rfl) (Sub.cons (by kernel_rfl) (Sub.cons (by kernel_rfl) (Sub.cons (by kernel_rfl) (Sub.cons (by kernel_rfl) (Sub.cons (by kernel_rfl) (Sub.cons (by kernel_rfl) (Sub.cons (by kernel_rfl) (Sub.cons (by kernel_rfl) (Sub.cons (by kernel_rfl) (Sub.cons (by kernel_rfl) (Sub.cons (by kernel_rfl) (Sub.cons (by kernel_rfl) (Sub.cons (by kernel_rfl) (Sub.cons (by kernel_rfl) (Sub.cons (by kernel_rfl) (Sub.cons (by kernel_rfl) (Sub.cons (by kernel_rfl) (Sub.cons (by kernel_rfl) (Sub.nil)))))))))))))))))))) ?_
   show JQ _ _ _ [(48, I64 ((t:Int))), (49, I64 ((t:Int) - 15)), (50, Ptr nb3 (t - 15)), (51, U32 (g32 ww (t - 15))), (52, I64 ((t:Int))), (53, I64 ((t:Int) - 2)), (54, Ptr nb3 (t - 2)), (55, U32 (g32 ww (t - 2))), (8, U32 (g32 ww (t - 15))), (9, U32 (g32 ww (t - 2))), (1, .slice ab 64 cb), (2, Ptr nb1 0), (4, Ptr nb2 0), (5, Ptr nb3 0), (6, I64 ((t:Int))), (23, I64 ((t:Int))), (24, .bool (decide (((t:Int)) < (64:Int)))), (27, I64 ((t:Int))), (28, .bool (decide (((t:Int)) < (16:Int))))] _
   refine JQ_then ?_
   refine JC_seq ?_
   refine JC_region ?_
   refine JL_val _ (Ev_move rfl) rfl ?_
   refine JL_step (Step_callP 87 [U32 (g32 ww (t - 15)), I64 (7:Int)] (U32 (rotr (g32 ww (t - 15)) 7)) (Cl_func [U32 (g32 ww (t - 15)), I64 (7:Int)] Tryd.call87 rfl) (fun w1 hw1 => rturn_c (g32 ww (t - 15)) 7 w1 (by omega) (by omega))) rfl ?_
   rintro v1 L1 ⟨rfl, rfl⟩
   show JL _ _ _ _ ((57, U32 (rotr (g32 ww (t - 15)) 7)) :: _) [⟨nb1, cu32 st, 31, (0, 0)⟩, ⟨nb2, cu32 (zr32 8), 31, (0, 0)⟩, ⟨nb3, cu32 ww, 44, (0, 0)⟩]
   refine JL_val _ (Ev_move rfl) rfl ?_
   refine JL_step (Step_callP 87 [U32 (g32 ww (t - 15)), I64 (18:Int)] (U32 (rotr (g32 ww (t - 15)) 18)) (Cl_func [U32 (g32 ww (t - 15)), I64 (18:Int)] Tryd.call87 rfl) (fun w1 hw1 => rturn_c (g32 ww (t - 15)) 18 w1 (by omega) (by omega))) rfl ?_
   rintro v1 L1 ⟨rfl, rfl⟩
   show JL _ _ _ _ ((59, U32 (rotr (g32 ww (t - 15)) 18)) :: _) [⟨nb1, cu32 st, 31, (0, 0)⟩, ⟨nb2, cu32 (zr32 8), 31, (0, 0)⟩, ⟨nb3, cu32 ww, 44, (0, 0)⟩]
   refine JL_val (U32 ((rotr (g32 ww (t - 15)) 7) ^^^ (rotr (g32 ww (t - 15)) 18))) (Ev_bini rfl rfl fun _ => bin_xor_u32 (rotr (g32 ww (t - 15)) 7) (rotr (g32 ww (t - 15)) 18)) rfl ?_
   refine JL_val _ (Ev_move rfl) rfl ?_
   refine JL_val (U32 ((g32 ww (t - 15)) >>> (3:UInt32))) (Ev_bini rfl rfl fun _ => bin_shr_u32 (g32 ww (t - 15)) _ _ 3 (by decide) rfl) rfl ?_
   refine JL_val (U32 (((rotr (g32 ww (t - 15)) 7) ^^^ (rotr (g32 ww (t - 15)) 18)) ^^^ ((g32 ww (t - 15)) >>> (3:UInt32)))) (Ev_bini rfl rfl fun _ => bin_xor_u32 ((rotr (g32 ww (t - 15)) 7) ^^^ (rotr (g32 ww (t - 15)) 18)) ((g32 ww (t - 15)) >>> (3:UInt32))) rfl ?_
   refine JL_val _ (Ev_assign rfl) rfl ?_
   refine JL_nil ?_
   refine JQ_then ?_
   refine JC_seq ?_
   refine JC_region ?_
   refine JL_val _ (Ev_move rfl) rfl ?_
   refine JL_step (Step_callP 87 [U32 (g32 ww (t - 2)), I64 (17:Int)] (U32 (rotr (g32 ww (t - 2)) 17)) (Cl_func [U32 (g32 ww (t - 2)), I64 (17:Int)] Tryd.call87 rfl) (fun w1 hw1 => rturn_c (g32 ww (t - 2)) 17 w1 (by omega) (by omega))) rfl ?_
   rintro v1 L1 ⟨rfl, rfl⟩
   show JL _ _ _ _ ((65, U32 (rotr (g32 ww (t - 2)) 17)) :: _) [⟨nb1, cu32 st, 31, (0, 0)⟩, ⟨nb2, cu32 (zr32 8), 31, (0, 0)⟩, ⟨nb3, cu32 ww, 44, (0, 0)⟩]
   refine JL_val _ (Ev_move rfl) rfl ?_
   refine JL_step (Step_callP 87 [U32 (g32 ww (t - 2)), I64 (19:Int)] (U32 (rotr (g32 ww (t - 2)) 19)) (Cl_func [U32 (g32 ww (t - 2)), I64 (19:Int)] Tryd.call87 rfl) (fun w1 hw1 => rturn_c (g32 ww (t - 2)) 19 w1 (by omega) (by omega))) rfl ?_
   rintro v1 L1 ⟨rfl, rfl⟩
   show JL _ _ _ _ ((67, U32 (rotr (g32 ww (t - 2)) 19)) :: _) [⟨nb1, cu32 st, 31, (0, 0)⟩, ⟨nb2, cu32 (zr32 8), 31, (0, 0)⟩, ⟨nb3, cu32 ww, 44, (0, 0)⟩]
   refine JL_val (U32 ((rotr (g32 ww (t - 2)) 17) ^^^ (rotr (g32 ww (t - 2)) 19))) (Ev_bini rfl rfl fun _ => bin_xor_u32 (rotr (g32 ww (t - 2)) 17) (rotr (g32 ww (t - 2)) 19)) rfl ?_
   refine JL_val _ (Ev_move rfl) rfl ?_
   refine JL_val (U32 ((g32 ww (t - 2)) >>> (10:UInt32))) (Ev_bini rfl rfl fun _ => bin_shr_u32 (g32 ww (t - 2)) _ _ 10 (by decide) rfl) rfl ?_
   refine JL_val (U32 (((rotr (g32 ww (t - 2)) 17) ^^^ (rotr (g32 ww (t - 2)) 19)) ^^^ ((g32 ww (t - 2)) >>> (10:UInt32)))) (Ev_bini rfl rfl fun _ => bin_xor_u32 ((rotr (g32 ww (t - 2)) 17) ^^^ (rotr (g32 ww (t - 2)) 19)) ((g32 ww (t - 2)) >>> (10:UInt32))) rfl ?_
   refine JL_val _ (Ev_assign rfl) rfl ?_
   refine JL_nil ?_
   refine JQ_then ?_
   refine JC_draw 199 2 [(0, I64 ((t:Int))), (1, I64 ((t:Int))), (2, I64 ((t:Int) - 16)), (3, Ptr nb3 (t - 16)), (4, U32 (g32 ww (t - 16))), (5, U32 (((rotr (g32 ww (t - 15)) 7) ^^^ (rotr (g32 ww (t - 15)) 18)) ^^^ ((g32 ww (t - 15)) >>> (3:UInt32)))), (6, U32 ((g32 ww (t - 16)) + (((rotr (g32 ww (t - 15)) 7) ^^^ (rotr (g32 ww (t - 15)) 18)) ^^^ ((g32 ww (t - 15)) >>> (3:UInt32))))), (7, I64 ((t:Int))), (8, I64 ((t:Int) - 7)), (9, Ptr nb3 (t - 7)), (10, U32 (g32 ww (t - 7))), (11, U32 (((g32 ww (t - 16)) + (((rotr (g32 ww (t - 15)) 7) ^^^ (rotr (g32 ww (t - 15)) 18)) ^^^ ((g32 ww (t - 15)) >>> (3:UInt32)))) + (g32 ww (t - 7)))), (12, U32 (((rotr (g32 ww (t - 2)) 17) ^^^ (rotr (g32 ww (t - 2)) 19)) ^^^ ((g32 ww (t - 2)) >>> (10:UInt32)))), (13, U32 ((((g32 ww (t - 16)) + (((rotr (g32 ww (t - 15)) 7) ^^^ (rotr (g32 ww (t - 15)) 18)) ^^^ ((g32 ww (t - 15)) >>> (3:UInt32)))) + (g32 ww (t - 7))) + (((rotr (g32 ww (t - 2)) 17) ^^^ (rotr (g32 ww (t - 2)) 19)) ^^^ ((g32 ww (t - 2)) >>> (10:UInt32))))), (14, Ptr nb3 t)] Tryd.mixed rfl (by decide +kernel) ?_
   have hl2 : (ww.set t ((((g32 ww (t - 16)) + (((rotr (g32 ww (t - 15)) 7) ^^^ (rotr (g32 ww (t - 15)) 18)) ^^^ ((g32 ww (t - 15)) >>> (3:UInt32)))) + (g32 ww (t - 7))) + (((rotr (g32 ww (t - 2)) 17) ^^^ (rotr (g32 ww (t - 2)) 19)) ^^^ ((g32 ww (t - 2)) >>> (10:UInt32))))).length = 64 := by simp [hw]
   refine DP_one ⟨[], [0, 1, 2, 3, 4, 5, 6, 7, 8, 9, 10, 11, 12, 13, 14], [], [0, 1, 2, 3, 4, 5, 6, 7, 8, 9, 10, 11, 12, 13, 14], [15]⟩ 15 _ rfl rfl (by decide +kernel) rfl ⟨⟨_, rfl, Qok_val rfl (Ev_move rfl)⟩, ⟨_, rfl, Qok_val rfl (Ev_move rfl)⟩, ⟨_, rfl, Qok_val rfl (Ev_bini rfl rfl fun _ => bin_sub_i _ _ ((t:Int) - 16) (by omega) (by omega))⟩, ⟨_, rfl, Qok_val rfl (Ev_indexArr 64 30 1 (t - 16) Tryd.underlying44 Tryd.sizeOf30 rfl rfl (by omega) (by omega) (by omega))⟩, ⟨_, rfl, Qok_val rfl (Ev_load rfl (Ld_one Tryd.isAgg30 (MemAt.ent 2 rfl (Seg.get (g32_get (i := (t - 16)) (by rw [hw]; omega))))))⟩, ⟨_, rfl, Qok_val rfl (Ev_move rfl)⟩, ⟨_, rfl, Qok_val rfl (Ev_bini rfl rfl fun _ => bin_add_u32 (g32 ww (t - 16)) (((rotr (g32 ww (t - 15)) 7) ^^^ (rotr (g32 ww (t - 15)) 18)) ^^^ ((g32 ww (t - 15)) >>> (3:UInt32))))⟩, ⟨_, rfl, Qok_val rfl (Ev_move rfl)⟩, ⟨_, rfl, Qok_val rfl (Ev_bini rfl rfl fun _ => bin_sub_i _ _ ((t:Int) - 7) (by omega) (by omega))⟩, ⟨_, rfl, Qok_val rfl (Ev_indexArr 64 30 1 (t - 7) Tryd.underlying44 Tryd.sizeOf30 rfl rfl (by omega) (by omega) (by omega))⟩, ⟨_, rfl, Qok_val rfl (Ev_load rfl (Ld_one Tryd.isAgg30 (MemAt.ent 2 rfl (Seg.get (g32_get (i := (t - 7)) (by rw [hw]; omega))))))⟩, ⟨_, rfl, Qok_val rfl (Ev_bini rfl rfl fun _ => bin_add_u32 ((g32 ww (t - 16)) + (((rotr (g32 ww (t - 15)) 7) ^^^ (rotr (g32 ww (t - 15)) 18)) ^^^ ((g32 ww (t - 15)) >>> (3:UInt32)))) (g32 ww (t - 7)))⟩, ⟨_, rfl, Qok_val rfl (Ev_move rfl)⟩, ⟨_, rfl, Qok_val rfl (Ev_bini rfl rfl fun _ => bin_add_u32 (((g32 ww (t - 16)) + (((rotr (g32 ww (t - 15)) 7) ^^^ (rotr (g32 ww (t - 15)) 18)) ^^^ ((g32 ww (t - 15)) >>> (3:UInt32)))) + (g32 ww (t - 7))) (((rotr (g32 ww (t - 2)) 17) ^^^ (rotr (g32 ww (t - 2)) 19)) ^^^ ((g32 ww (t - 2)) >>> (10:UInt32))))⟩, ⟨_, rfl, Qok_val rfl (Ev_indexArr 64 30 1 t Tryd.underlying44 Tryd.sizeOf30 rfl rfl (by omega) (by omega) (by omega))⟩, trivial⟩ rfl (Cok_step rfl (Step_store 2 nb3 t 1 (cu32 ww) 44 (U32 ((((g32 ww (t - 16)) + (((rotr (g32 ww (t - 15)) 7) ^^^ (rotr (g32 ww (t - 15)) 18)) ^^^ ((g32 ww (t - 15)) >>> (3:UInt32)))) + (g32 ww (t - 7))) + (((rotr (g32 ww (t - 2)) 17) ^^^ (rotr (g32 ww (t - 2)) 19)) ^^^ ((g32 ww (t - 2)) >>> (10:UInt32))))) ([U32 ((((g32 ww (t - 16)) + (((rotr (g32 ww (t - 15)) 7) ^^^ (rotr (g32 ww (t - 15)) 18)) ^^^ ((g32 ww (t - 15)) >>> (3:UInt32)))) + (g32 ww (t - 7))) + (((rotr (g32 ww (t - 2)) 17) ^^^ (rotr (g32 ww (t - 2)) 19)) ^^^ ((g32 ww (t - 2)) >>> (10:UInt32))))]) (cu32 (ww.set t ((((g32 ww (t - 16)) + (((rotr (g32 ww (t - 15)) 7) ^^^ (rotr (g32 ww (t - 15)) 18)) ^^^ ((g32 ww (t - 15)) >>> (3:UInt32)))) + (g32 ww (t - 7))) + (((rotr (g32 ww (t - 2)) 17) ^^^ (rotr (g32 ww (t - 2)) 19)) ^^^ ((g32 ww (t - 2)) >>> (10:UInt32)))))) rfl rfl rfl rfl Tryd.sizeOf30 rfl (by simp [Value.oneCell']) (by simp [hw]; try omega) (lay32 _ _ _ (by rw [hw]; omega)))) ?_
   rintro v1 L1 ⟨rfl, rfl⟩
   refine ⟨[], ?_⟩
   show DP _ _ _ _ _ _ _ _ [⟨nb1, cu32 st, 31, (0, 0)⟩, ⟨nb2, cu32 (zr32 8), 31, (0, 0)⟩, ⟨nb3, cu32 (ww.set t ((((g32 ww (t - 16)) + (((rotr (g32 ww (t - 15)) 7) ^^^ (rotr (g32 ww (t - 15)) 18)) ^^^ ((g32 ww (t - 15)) >>> (3:UInt32)))) + (g32 ww (t - 7))) + (((rotr (g32 ww (t - 2)) 17) ^^^ (rotr (g32 ww (t - 2)) 19)) ^^^ ((g32 ww (t - 2)) >>> (10:UInt32))))), 44, (0, 0)⟩]
   refine DP_end ⟨[15], [0, 1, 2, 3, 4, 5, 6, 7, 8, 9, 10, 11, 12, 13, 14], [0, 1, 2, 3, 4, 5, 6, 7, 8, 9, 10, 11, 12, 13, 14], [], []⟩ rfl rfl (by decide +kernel) rfl trivial ?_
   refine K_sub (F' := [(72, I64 ((t:Int))), (73, I64 ((t:Int))), (74, I64 ((t:Int) - 16)), (75, Ptr nb3 (t - 16)), (76, U32 (g32 ww (t - 16))), (77, U32 (((rotr (g32 ww (t - 15)) 7) ^^^ (rotr (g32 ww (t - 15)) 18)) ^^^ ((g32 ww (t - 15)) >>> (3:UInt32)))), (78, U32 ((g32 ww (t - 16)) + (((rotr (g32 ww (t - 15)) 7) ^^^ (rotr (g32 ww (t - 15)) 18)) ^^^ ((g32 ww (t - 15)) >>> (3:UInt32))))), (79, I64 ((t:Int))), (80, I64 ((t:Int) - 7)), (81, Ptr nb3 (t - 7)), (82, U32 (g32 ww (t - 7))), (83, U32 (((g32 ww (t - 16)) + (((rotr (g32 ww (t - 15)) 7) ^^^ (rotr (g32 ww (t - 15)) 18)) ^^^ ((g32 ww (t - 15)) >>> (3:UInt32)))) + (g32 ww (t - 7)))), (84, U32 (((rotr (g32 ww (t - 2)) 17) ^^^ (rotr (g32 ww (t - 2)) 19)) ^^^ ((g32 ww (t - 2)) >>> (10:UInt32)))), (85, U32 ((((g32 ww (t - 16)) + (((rotr (g32 ww (t - 15)) 7) ^^^ (rotr (g32 ww (t - 15)) 18)) ^^^ ((g32 ww (t - 15)) >>> (3:UInt32)))) + (g32 ww (t - 7))) + (((rotr (g32 ww (t - 2)) 17) ^^^ (rotr (g32 ww (t - 2)) 19)) ^^^ ((g32 ww (t - 2)) >>> (10:UInt32))))), (86, Ptr nb3 t), (48, I64 ((t:Int))), (49, I64 ((t:Int) - 15)), (50, Ptr nb3 (t - 15)), (51, U32 (g32 ww (t - 15))), (52, I64 ((t:Int))), (53, I64 ((t:Int) - 2)), (54, Ptr nb3 (t - 2)), (55, U32 (g32 ww (t - 2))), (8, U32 (g32 ww (t - 15))), (9, U32 (g32 ww (t - 2))), (1, .slice ab 64 cb), (2, Ptr nb1 0), (4, Ptr nb2 0), (5, Ptr nb3 0), (6, I64 ((t:Int))), (23, I64 ((t:Int))), (24, .bool (decide (((t:Int)) < (64:Int)))), (27, I64 ((t:Int))), (28, .bool (decide (((t:Int)) < (16:Int)))), (56, U32 (g32 ww (t - 15))), (57, U32 (rotr (g32 ww (t - 15)) 7)), (58, U32 (g32 ww (t - 15))), (59, U32 (rotr (g32 ww (t - 15)) 18)), (60, U32 ((rotr (g32 ww (t - 15)) 7) ^^^ (rotr (g32 ww (t - 15)) 18))), (61, U32 (g32 ww (t - 15))), (62, U32 ((g32 ww (t - 15)) >>> (3:UInt32))), (63, U32 (((rotr (g32 ww (t - 15)) 7) ^^^ (rotr (g32 ww (t - 15)) 18)) ^^^ ((g32 ww (t - 15)) >>> (3:UInt32)))), (10, U32 (((rotr (g32 ww (t - 15)) 7) ^^^ (rotr (g32 ww (t - 15)) 18)) ^^^ ((g32 ww (t - 15)) >>> (3:UInt32)))), (64, U32 (g32 ww (t - 2))), (65, U32 (rotr (g32 ww (t - 2)) 17)), (66, U32 (g32 ww (t - 2))), (67, U32 (rotr (g32 ww (t - 2)) 19)), (68, U32 ((rotr (g32 ww (t - 2)) 17) ^^^ (rotr (g32 ww (t - 2)) 19))), (69, U32 (g32 ww (t - 2))), (70, U32 ((g32 ww (t - 2)) >>> (10:UInt32))), (71, U32 (((rotr (g32 ww (t - 2)) 17) ^^^ (rotr (g32 ww (t - 2)) 19)) ^^^ ((g32 ww (t - 2)) >>> (10:UInt32)))), (11, U32 (((rotr (g32 ww (t - 2)) 17) ^^^ (rotr (g32 ww (t - 2)) 19)) ^^^ ((g32 ww (t - 2)) >>> (10:UInt32))))]) (Sub.cons (by kernel_rfl) (Sub.cons (by kernel_rfl) (Sub.cons (by kernel_rfl) (Sub.cons (by kernel_rfl) (Sub.cons (by kernel_rfl) (Sub.cons (by kernel_rfl) (Sub.cons (by kernel_rfl) (Sub.cons (by kernel_rfl) (Sub.cons (by kernel_rfl) (Sub.cons (by kernel_rfl) (Sub.cons (by kernel_rfl) (Sub.cons (by kernel_rfl) (Sub.cons (by kernel_rfl) (Sub.cons (by kernel_rfl) (Sub.cons (by kernel_rfl) (Sub.cons (by kernel_rfl) (Sub.cons (by kernel_rfl) (Sub.cons (by kernel_rfl) (Sub.cons (by kernel_rfl) (Sub.cons (by kernel_rfl) (Sub.cons (by kernel_rfl) (Sub.cons (by kernel_rfl) (Sub.cons (by kernel_rfl) (Sub.cons (by kernel_rfl) (Sub.cons (by kernel_rfl) (Sub.cons (by kernel_rfl) (Sub.cons (by kernel_rfl) (Sub.cons (by kernel_rfl) (Sub.cons (by kernel_rfl) (Sub.cons (by kernel_rfl) (Sub.cons (by kernel_rfl) (Sub.cons (by kernel_rfl) (Sub.cons (by kernel_rfl) (Sub.cons (by kernel_rfl) (Sub.cons (by kernel_rfl) (Sub.cons (by kernel_rfl) (Sub.cons (by kernel_rfl) (Sub.cons (by kernel_rfl) (Sub.cons (by kernel_rfl) (Sub.cons (by kernel_rfl) (Sub.cons (by kernel_rfl) (Sub.cons (by kernel_rfl) (Sub.cons (by kernel_rfl) (Sub.cons (by kernel_rfl) (Sub.cons (by kernel_rfl) (Sub.cons (by kernel_rfl) (Sub.cons (by kernel_rfl) (Sub.cons (by kernel_rfl) (Sub.cons (by kernel_rfl) (Sub.cons (by kernel_rfl) (Sub.cons (by kernel_rfl) (Sub.cons (by kernel_rfl) (Sub.nil))))))))))))))))))))))))))))))))))))))))))))))))))))) ?_
   show JQ _ _ _ [(72, I64 ((t:Int))), (73, I64 ((t:Int))), (74, I64 ((t:Int) - 16)), (75, Ptr nb3 (t - 16)), (76, U32 (g32 ww (t - 16))), (77, U32 (((rotr (g32 ww (t - 15)) 7) ^^^ (rotr (g32 ww (t - 15)) 18)) ^^^ ((g32 ww (t - 15)) >>> (3:UInt32)))), (78, U32 ((g32 ww (t - 16)) + (((rotr (g32 ww (t - 15)) 7) ^^^ (rotr (g32 ww (t - 15)) 18)) ^^^ ((g32 ww (t - 15)) >>> (3:UInt32))))), (79, I64 ((t:Int))), (80, I64 ((t:Int) - 7)), (81, Ptr nb3 (t - 7)), (82, U32 (g32 ww (t - 7))), (83, U32 (((g32 ww (t - 16)) + (((rotr (g32 ww (t - 15)) 7) ^^^ (rotr (g32 ww (t - 15)) 18)) ^^^ ((g32 ww (t - 15)) >>> (3:UInt32)))) + (g32 ww (t - 7)))), (84, U32 (((rotr (g32 ww (t - 2)) 17) ^^^ (rotr (g32 ww (t - 2)) 19)) ^^^ ((g32 ww (t - 2)) >>> (10:UInt32)))), (85, U32 ((((g32 ww (t - 16)) + (((rotr (g32 ww (t - 15)) 7) ^^^ (rotr (g32 ww (t - 15)) 18)) ^^^ ((g32 ww (t - 15)) >>> (3:UInt32)))) + (g32 ww (t - 7))) + (((rotr (g32 ww (t - 2)) 17) ^^^ (rotr (g32 ww (t - 2)) 19)) ^^^ ((g32 ww (t - 2)) >>> (10:UInt32))))), (86, Ptr nb3 t), (48, I64 ((t:Int))), (49, I64 ((t:Int) - 15)), (50, Ptr nb3 (t - 15)), (51, U32 (g32 ww (t - 15))), (52, I64 ((t:Int))), (53, I64 ((t:Int) - 2)), (54, Ptr nb3 (t - 2)), (55, U32 (g32 ww (t - 2))), (8, U32 (g32 ww (t - 15))), (9, U32 (g32 ww (t - 2))), (1, .slice ab 64 cb), (2, Ptr nb1 0), (4, Ptr nb2 0), (5, Ptr nb3 0), (6, I64 ((t:Int))), (23, I64 ((t:Int))), (24, .bool (decide (((t:Int)) < (64:Int)))), (27, I64 ((t:Int))), (28, .bool (decide (((t:Int)) < (16:Int)))), (56, U32 (g32 ww (t - 15))), (57, U32 (rotr (g32 ww (t - 15)) 7)), (58, U32 (g32 ww (t - 15))), (59, U32 (rotr (g32 ww (t - 15)) 18)), (60, U32 ((rotr (g32 ww (t - 15)) 7) ^^^ (rotr (g32 ww (t - 15)) 18))), (61, U32 (g32 ww (t - 15))), (62, U32 ((g32 ww (t - 15)) >>> (3:UInt32))), (63, U32 (((rotr (g32 ww (t - 15)) 7) ^^^ (rotr (g32 ww (t - 15)) 18)) ^^^ ((g32 ww (t - 15)) >>> (3:UInt32)))), (10, U32 (((rotr (g32 ww (t - 15)) 7) ^^^ (rotr (g32 ww (t - 15)) 18)) ^^^ ((g32 ww (t - 15)) >>> (3:UInt32)))), (64, U32 (g32 ww (t - 2))), (65, U32 (rotr (g32 ww (t - 2)) 17)), (66, U32 (g32 ww (t - 2))), (67, U32 (rotr (g32 ww (t - 2)) 19)), (68, U32 ((rotr (g32 ww (t - 2)) 17) ^^^ (rotr (g32 ww (t - 2)) 19))), (69, U32 (g32 ww (t - 2))), (70, U32 ((g32 ww (t - 2)) >>> (10:UInt32))), (71, U32 (((rotr (g32 ww (t - 2)) 17) ^^^ (rotr (g32 ww (t - 2)) 19)) ^^^ ((g32 ww (t - 2)) >>> (10:UInt32)))), (11, U32 (((rotr (g32 ww (t - 2)) 17) ^^^ (rotr (g32 ww (t - 2)) 19)) ^^^ ((g32 ww (t - 2)) >>> (10:UInt32))))] _
   refine JQ_in_normal ?_
   refine JQ_then ?_
   refine JC_region ?_
   refine JL_val _ (Ev_move rfl) rfl ?_
   refine JL_val (I64 ((t:Int) + 1)) (Ev_bini rfl rfl fun _ => bin_add_i _ _ ((t:Int) + 1) (by omega) (by omega)) rfl ?_
   refine JL_val _ (Ev_assign rfl) rfl ?_
   refine JL_nil ?_
   refine JQ_thenK ?_
   refine K_next (t + 1, ww.set t ((((g32 ww (t - 16)) + (((rotr (g32 ww (t - 15)) 7) ^^^ (rotr (g32 ww (t - 15)) 18)) ^^^ ((g32 ww (t - 15)) >>> (3:UInt32)))) + (g32 ww (t - 7))) + (((rotr (g32 ww (t - 2)) 17) ^^^ (rotr (g32 ww (t - 2)) 19)) ^^^ ((g32 ww (t - 2)) >>> (10:UInt32))))) ⟨by omega, by rw [spN, spS, if_neg (by omega), ← hx2], hl2⟩ (by first | (simp; omega) | simp) (Sub.cons rfl (Sub.cons rfl (Sub.cons rfl (Sub.cons rfl (Sub.cons rfl (Sub.nil)))))) rfl
 ·
  have hp1 : ¬ (((t:Int)) < (64:Int)) := of_decide_eq_false hb1
  refine JC_exit ?_
  refine JQ_then_exit ?_
  refine JQ_then_exit ?_
  refine JQ_in_same ?_
  refine JQ_then ?_
  refine JC_seq ?_
  refine JC_draw 199 1 [(0, Ptr nb1 0), (1, U32 (g32 st 0)), (2, Ptr nb1 1), (3, U32 (g32 st 1)), (4, Ptr nb1 2), (5, U32 (g32 st 2)), (6, Ptr nb1 3), (7, U32 (g32 st 3)), (8, Ptr nb1 4), (9, U32 (g32 st 4)), (10, Ptr nb1 5), (11, U32 (g32 st 5)), (12, Ptr nb1 6), (13, U32 (g32 st 6)), (14, Ptr nb1 7), (15, U32 (g32 st 7)), (16, U32 (g32 st 0)), (17, U32 (g32 st 1)), (18, U32 (g32 st 2)), (19, U32 (g32 st 3)), (20, U32 (g32 st 4)), (21, U32 (g32 st 5)), (22, U32 (g32 st 6)), (23, U32 (g32 st 7))] Tryd.mixed rfl (by decide +kernel) ?_
  refine DP_end ⟨[], [0, 1, 2, 3, 4, 5, 6, 7, 8, 9, 10, 11, 12, 13, 14, 15, 16, 17, 18, 19, 20, 21, 22, 23], [], [0, 1, 2, 3, 4, 5, 6, 7, 8, 9, 10, 11, 12, 13, 14, 15, 16, 17, 18, 19, 20, 21, 22, 23], []⟩ rfl rfl (by decide +kernel) rfl ⟨⟨_, rfl, Qok_val rfl (Ev_indexArr 8 30 1 0 Tryd.underlying31 Tryd.sizeOf30 rfl rfl (by omega) (by omega) (by omega))⟩, ⟨_, rfl, Qok_val rfl (Ev_load rfl (Ld_one Tryd.isAgg30 (MemAt.ent 0 rfl (Seg.get (g32_get (i := 0) (by rw [hs0]; omega))))))⟩, ⟨_, rfl, Qok_val rfl (Ev_indexArr 8 30 1 1 Tryd.underlying31 Tryd.sizeOf30 rfl rfl (by omega) (by omega) (by omega))⟩, ⟨_, rfl, Qok_val rfl (Ev_load rfl (Ld_one Tryd.isAgg30 (MemAt.ent 0 rfl (Seg.get (g32_get (i := 1) (by rw [hs0]; omega))))))⟩, ⟨_, rfl, Qok_val rfl (Ev_indexArr 8 30 1 2 Tryd.underlying31 Tryd.sizeOf30 rfl rfl (by omega) (by omega) (by omega))⟩, ⟨_, rfl, Qok_val rfl (Ev_load rfl (Ld_one Tryd.isAgg30 (MemAt.ent 0 rfl (Seg.get (g32_get (i := 2) (by rw [hs0]; omega))))))⟩, ⟨_, rfl, Qok_val rfl (Ev_indexArr 8 30 1 3 Tryd.underlying31 Tryd.sizeOf30 rfl rfl (by omega) (by omega) (by omega))⟩, ⟨_, rfl, Qok_val rfl (Ev_load rfl (Ld_one Tryd.isAgg30 (MemAt.ent 0 rfl (Seg.get (g32_get (i := 3) (by rw [hs0]; omega))))))⟩, ⟨_, rfl, Qok_val rfl (Ev_indexArr 8 30 1 4 Tryd.underlying31 Tryd.sizeOf30 rfl rfl (by omega) (by omega) (by omega))⟩, ⟨_, rfl, Qok_val rfl (Ev_load rfl (Ld_one Tryd.isAgg30 (MemAt.ent 0 rfl (Seg.get (g32_get (i := 4) (by rw [hs0]; omega))))))⟩, ⟨_, rfl, Qok_val rfl (Ev_indexArr 8 30 1 5 Tryd.underlying31 Tryd.sizeOf30 rfl rfl (by omega) (by omega) (by omega))⟩, ⟨_, rfl, Qok_val rfl (Ev_load rfl (Ld_one Tryd.isAgg30 (MemAt.ent 0 rfl (Seg.get (g32_get (i := 5) (by rw [hs0]; omega))))))⟩, ⟨_, rfl, Qok_val rfl (Ev_indexArr 8 30 1 6 Tryd.underlying31 Tryd.sizeOf30 rfl rfl (by omega) (by omega) (by omega))⟩, ⟨_, rfl, Qok_val rfl (Ev_load rfl (Ld_one Tryd.isAgg30 (MemAt.ent 0 rfl (Seg.get (g32_get (i := 6) (by rw [hs0]; omega))))))⟩, ⟨_, rfl, Qok_val rfl (Ev_indexArr 8 30 1 7 Tryd.underlying31 Tryd.sizeOf30 rfl rfl (by omega) (by omega) (by omega))⟩, ⟨_, rfl, Qok_val rfl (Ev_load rfl (Ld_one Tryd.isAgg30 (MemAt.ent 0 rfl (Seg.get (g32_get (i := 7) (by rw [hs0]; omega))))))⟩, ⟨_, rfl, Qok_val rfl (Ev_assign rfl)⟩, ⟨_, rfl, Qok_val rfl (Ev_assign rfl)⟩, ⟨_, rfl, Qok_val rfl (Ev_assign rfl)⟩, ⟨_, rfl, Qok_val rfl (Ev_assign rfl)⟩, ⟨_, rfl, Qok_val rfl (Ev_assign rfl)⟩, ⟨_, rfl, Qok_val rfl (Ev_assign rfl)⟩, ⟨_, rfl, Qok_val rfl (Ev_assign rfl)⟩, ⟨_, rfl, Qok_val rfl (Ev_assign rfl)⟩, trivial⟩ ?_
  refine K_sub (F' := [(12, U32 (g32 st 0)), (13, U32 (g32 st 1)), (14, U32 (g32 st 2)), (15, U32 (g32 st 3)), (16, U32 (g32 st 4)), (17, U32 (g32 st 5)), (18, U32 (g32 st 6)), (19, U32 (g32 st 7)), (2, Ptr nb1 0), (4, Ptr nb2 0), (5, Ptr nb3 0)]) (Sub.cons (by kernel_rfl) (Sub.cons (by kernel_rfl) (Sub.cons (by kernel_rfl) (Sub.cons (by kernel_rfl) (Sub.cons (by kernel_rfl) (Sub.cons (by kernel_rfl) (Sub.cons (by kernel_rfl) (Sub.cons (by kernel_rfl) (Sub.cons (by kernel_rfl) (Sub.cons (by kernel_rfl) (Sub.cons (by kernel_rfl) (Sub.nil)))))))))))) ?_
  show JQ _ _ _ [(12, U32 (g32 st 0)), (13, U32 (g32 st 1)), (14, U32 (g32 st 2)), (15, U32 (g32 st 3)), (16, U32 (g32 st 4)), (17, U32 (g32 st 5)), (18, U32 (g32 st 6)), (19, U32 (g32 st 7)), (2, Ptr nb1 0), (4, Ptr nb2 0), (5, Ptr nb3 0)] _
  refine JQ_then ?_
  refine JC_seq ?_
  refine JC_seq ?_
  refine JC_region ?_
  refine JL_val _ (Ev_assign rfl) rfl ?_
  refine JL_nil ?_
  refine JQ_then ?_
  refine JC_block ?_
  refine JC_loop (ι := Nat × UInt32 × UInt32 × UInt32 × UInt32 × UInt32 × UInt32 × UInt32 × UInt32) (fun ⟨r, va, vb, vc, vd, ve, vf, vg, vh⟩ => [(2, Ptr nb1 0), (4, Ptr nb2 0), (5, Ptr nb3 0), (20, I64 ((r:Int))), (12, U32 va), (13, U32 vb), (14, U32 vc), (15, U32 vd), (16, U32 ve), (17, U32 vf), (18, U32 vg), (19, U32 vh)]) (fun ⟨r, va, vb, vc, vd, ve, vf, vg, vh⟩ => [⟨nb1, cu32 st, 31, (0, 0)⟩, ⟨nb2, cu32 (zr32 8), 31, (0, 0)⟩, ⟨nb3, cu32 ww, 44, (0, 0)⟩]) (fun ⟨r, va, vb, vc, vd, ve, vf, vg, vh⟩ => r ≤ 64 ∧ [va, vb, vc, vd, ve, vf, vg, vh] = cpN constL st ww r) (fun ⟨r, va, vb, vc, vd, ve, vf, vg, vh⟩ => 64 - r) (0, g32 st 0, g32 st 1, g32 st 2, g32 st 3, g32 st 4, g32 st 5, g32 st 6, g32 st 7) ⟨by omega, by rw [cpN]; exact ex8 hs0⟩ (Sub.cons rfl (Sub.cons rfl (Sub.cons rfl (Sub.cons rfl (Sub.cons rfl (Sub.cons rfl (Sub.cons rfl (Sub.cons rfl (Sub.cons rfl (Sub.cons rfl (Sub.cons rfl (Sub.cons rfl (Sub.nil))))))))))))) rfl ?_
  rintro ⟨r, va, vb, vc, vd, ve, vf, vg, vh⟩ ⟨hy1, hy2⟩
  show JC _ _ _ [(2, Ptr nb1 0), (4, Ptr nb2 0), (5, Ptr nb3 0), (20, I64 ((r:Int))), (12, U32 va), (13, U32 vb), (14, U32 vc), (15, U32 vd), (16, U32 ve), (17, U32 vf), (18, U32 vg), (19, U32 vh)] [⟨nb1, cu32 st, 31, (0, 0)⟩, ⟨nb2, cu32 (zr32 8), 31, (0, 0)⟩, ⟨nb3, cu32 ww, 44, (0, 0)⟩]
  refine JC_seq ?_
  refine JC_seq ?_
  refine JC_region ?_
  refine JL_val _ (Ev_move rfl) rfl ?_
  refine JL_val (.bool (decide (((r:Int)) < (64:Int)))) (Ev_bini rfl rfl fun _ => bin_lss_i _ _) rfl ?_
  refine JL_nil ?_
  refine JQ_then ?_
  refine JC_cond (decide (((r:Int)) < (64:Int))) rfl (fun hb4 => ?_) (fun hb4 => ?_)
  ·
   have hp4 : ((r:Int)) < (64:Int) := of_decide_eq_true hb4
   refine JC_skip ?_
   refine JQ_then ?_
   refine JC_seq ?_
   refine JC_block ?_
   refine JC_seq ?_
   refine JC_draw 199 4 [(0, U32 vh), (1, U32 ve), (3, U32 ve), (6, U32 ve), (10, U32 ve), (11, U32 vf), (12, U32 (ve &&& vf)), (13, U32 ve), (14, U32 (~~~ve)), (15, U32 vg), (16, U32 ((~~~ve) &&& vg)), (17, U32 ((ve &&& vf) ^^^ ((~~~ve) &&& vg))), (19, I64 ((r:Int))), (20, Ptr 0 r), (21, U32 (g32 constL r)), (23, I64 ((r:Int))), (24, Ptr nb3 r), (25, U32 (g32 ww r))] Tryd.mixed rfl (by decide +kernel) ?_
   refine DP_one ⟨[], [0, 1, 3, 6, 10, 11, 12, 13, 14, 15, 16, 17, 19, 20, 21, 23, 24, 25], [], [0, 1, 3, 6, 10, 11, 12, 13, 14, 15, 16, 17, 19, 20, 21, 23, 24, 25], [2]⟩ 2 _ rfl rfl (by decide +kernel) rfl ⟨⟨_, rfl, Qok_val rfl (Ev_move rfl)⟩, ⟨_, rfl, Qok_val rfl (Ev_move rfl)⟩, ⟨_, rfl, Qok_val rfl (Ev_move rfl)⟩, ⟨_, rfl, Qok_val rfl (Ev_move rfl)⟩, ⟨_, rfl, Qok_val rfl (Ev_move rfl)⟩, ⟨_, rfl, Qok_val rfl (Ev_move rfl)⟩, ⟨_, rfl, Qok_val rfl (Ev_bini rfl rfl fun _ => bin_and_u32 ve vf)⟩, ⟨_, rfl, Qok_val rfl (Ev_move rfl)⟩, ⟨_, rfl, Qok_val rfl (Ev_un _ _ rfl fun _ => un_xor_u32 _)⟩, ⟨_, rfl, Qok_val rfl (Ev_move rfl)⟩, ⟨_, rfl, Qok_val rfl (Ev_bini rfl rfl fun _ => bin_and_u32 (~~~ve) vg)⟩, ⟨_, rfl, Qok_val rfl (Ev_bini rfl rfl fun _ => bin_xor_u32 (ve &&& vf) ((~~~ve) &&& vg))⟩, ⟨_, rfl, Qok_val rfl (Ev_move rfl)⟩, ⟨_, rfl, Qok_val rfl (Ev_indexArr 64 30 1 r Tryd.underlying44 Tryd.sizeOf30 rfl rfl (by omega) (by omega) (by omega))⟩, ⟨_, rfl, Qok_val rfl (Ev_load rfl (Ld_one Tryd.isAgg30 (MemAt.seg (RdA.mem hG (by simp)) (Seg.get (g32_get (i := r) (by rw [constL_len]; omega))) (by omega))))⟩, ⟨_, rfl, Qok_val rfl (Ev_move rfl)⟩, ⟨_, rfl, Qok_val rfl (Ev_indexArr 64 30 1 r Tryd.underlying44 Tryd.sizeOf30 rfl rfl (by omega) (by omega) (by omega))⟩, ⟨_, rfl, Qok_val rfl (Ev_load rfl (Ld_one Tryd.isAgg30 (MemAt.ent 2 rfl (Seg.get (g32_get (i := r) (by rw [hw]; omega))))))⟩, trivial⟩ rfl (Cok_step rfl (Step_callP 87 [U32 ve, I64 (6:Int)] (U32 (rotr ve 6)) (Cl_func [U32 ve, I64 (6:Int)] Tryd.call87 rfl) (fun w1 hw1 => rturn_c ve 6 w1 (by omega) (by omega)))) ?_
   rintro v1 L1 ⟨rfl, rfl⟩
   refine ⟨[], ?_⟩
   show DP _ _ _ _ _ _ _ _ [⟨nb1, cu32 st, 31, (0, 0)⟩, ⟨nb2, cu32 (zr32 8), 31, (0, 0)⟩, ⟨nb3, cu32 ww, 44, (0, 0)⟩]
   refine DP_one ⟨[2], [0, 1, 3, 6, 10, 11, 12, 13, 14, 15, 16, 17, 19, 20, 21, 23, 24, 25], [1], [0, 3, 6, 10, 11, 12, 13, 14, 15, 16, 17, 19, 20, 21, 23, 24, 25], [4]⟩ 4 _ rfl rfl (by decide +kernel) rfl ⟨⟨_, rfl, Qok_val rfl (Ev_move rfl)⟩, ⟨_, rfl, Qok_val rfl (Ev_move rfl)⟩, ⟨_, rfl, Qok_val rfl (Ev_move rfl)⟩, ⟨_, rfl, Qok_val rfl (Ev_move rfl)⟩, ⟨_, rfl, Qok_val rfl (Ev_move rfl)⟩, ⟨_, rfl, Qok_val rfl (Ev_bini rfl rfl fun _ => bin_and_u32 ve vf)⟩, ⟨_, rfl, Qok_val rfl (Ev_move rfl)⟩, ⟨_, rfl, Qok_val rfl (Ev_un _ _ rfl fun _ => un_xor_u32 _)⟩, ⟨_, rfl, Qok_val rfl (Ev_move rfl)⟩, ⟨_, rfl, Qok_val rfl (Ev_bini rfl rfl fun _ => bin_and_u32 (~~~ve) vg)⟩, ⟨_, rfl, Qok_val rfl (Ev_bini rfl rfl fun _ => bin_xor_u32 (ve &&& vf) ((~~~ve) &&& vg))⟩, ⟨_, rfl, Qok_val rfl (Ev_move rfl)⟩, ⟨_, rfl, Qok_val rfl (Ev_indexArr 64 30 1 r Tryd.underlying44 Tryd.sizeOf30 rfl rfl (by omega) (by omega) (by omega))⟩, ⟨_, rfl, Qok_val rfl (Ev_load rfl (Ld_one Tryd.isAgg30 (MemAt.seg (RdA.mem hG (by simp)) (Seg.get (g32_get (i := r) (by rw [constL_len]; omega))) (by omega))))⟩, ⟨_, rfl, Qok_val rfl (Ev_move rfl)⟩, ⟨_, rfl, Qok_val rfl (Ev_indexArr 64 30 1 r Tryd.underlying44 Tryd.sizeOf30 rfl rfl (by omega) (by omega) (by omega))⟩, ⟨_, rfl, Qok_val rfl (Ev_load rfl (Ld_one Tryd.isAgg30 (MemAt.ent 2 rfl (Seg.get (g32_get (i := r) (by rw [hw]; omega))))))⟩, trivial⟩ rfl (Cok_step rfl (Step_callP 87 [U32 ve, I64 (11:Int)] (U32 (rotr ve 11)) (Cl_func [U32 ve, I64 (11:Int)] Tryd.call87 rfl) (fun w1 hw1 => rturn_c ve 11 w1 (by omega) (by omega)))) ?_
   rintro v1 L1 ⟨rfl, rfl⟩
   refine ⟨[(5, U32 ((rotr ve 6) ^^^ (rotr ve 11)))], ?_⟩
   show DP _ _ _ _ _ _ _ _ [⟨nb1, cu32 st, 31, (0, 0)⟩, ⟨nb2, cu32 (zr32 8), 31, (0, 0)⟩, ⟨nb3, cu32 ww, 44, (0, 0)⟩]
   refine DP_one ⟨[2, 4], [0, 1, 3, 5, 6, 10, 11, 12, 13, 14, 15, 16, 17, 19, 20, 21, 23, 24, 25], [1, 3], [0, 5, 6, 10, 11, 12, 13, 14, 15, 16, 17, 19, 20, 21, 23, 24, 25], [7]⟩ 7 _ rfl rfl (by decide +kernel) rfl ⟨⟨_, rfl, Qok_val rfl (Ev_move rfl)⟩, ⟨_, rfl, Qok_val rfl (Ev_bini rfl rfl fun _ => bin_xor_u32 (rotr ve 6) (rotr ve 11))⟩, ⟨_, rfl, Qok_val rfl (Ev_move rfl)⟩, ⟨_, rfl, Qok_val rfl (Ev_move rfl)⟩, ⟨_, rfl, Qok_val rfl (Ev_move rfl)⟩, ⟨_, rfl, Qok_val rfl (Ev_bini rfl rfl fun _ => bin_and_u32 ve vf)⟩, ⟨_, rfl, Qok_val rfl (Ev_move rfl)⟩, ⟨_, rfl, Qok_val rfl (Ev_un _ _ rfl fun _ => un_xor_u32 _)⟩, ⟨_, rfl, Qok_val rfl (Ev_move rfl)⟩, ⟨_, rfl, Qok_val rfl (Ev_bini rfl rfl fun _ => bin_and_u32 (~~~ve) vg)⟩, ⟨_, rfl, Qok_val rfl (Ev_bini rfl rfl fun _ => bin_xor_u32 (ve &&& vf) ((~~~ve) &&& vg))⟩, ⟨_, rfl, Qok_val rfl (Ev_move rfl)⟩, ⟨_, rfl, Qok_val rfl (Ev_indexArr 64 30 1 r Tryd.underlying44 Tryd.sizeOf30 rfl rfl (by omega) (by omega) (by omega))⟩, ⟨_, rfl, Qok_val rfl (Ev_load rfl (Ld_one Tryd.isAgg30 (MemAt.seg (RdA.mem hG (by simp)) (Seg.get (g32_get (i := r) (by rw [constL_len]; omega))) (by omega))))⟩, ⟨_, rfl, Qok_val rfl (Ev_move rfl)⟩, ⟨_, rfl, Qok_val rfl (Ev_indexArr 64 30 1 r Tryd.underlying44 Tryd.sizeOf30 rfl rfl (by omega) (by omega) (by omega))⟩, ⟨_, rfl, Qok_val rfl (Ev_load rfl (Ld_one Tryd.isAgg30 (MemAt.ent 2 rfl (Seg.get (g32_get (i := r) (by rw [hw]; omega))))))⟩, trivial⟩ rfl (Cok_step rfl (Step_callP 87 [U32 ve, I64 (25:Int)] (U32 (rotr ve 25)) (Cl_func [U32 ve, I64 (25:Int)] Tryd.call87 rfl) (fun w1 hw1 => rturn_c ve 25 w1 (by omega) (by omega)))) ?_
   rintro v1 L1 ⟨rfl, rfl⟩
   refine ⟨[(8, U32 (((rotr ve 6) ^^^ (rotr ve 11)) ^^^ (rotr ve 25))), (9, U32 (vh + (((rotr ve 6) ^^^ (rotr ve 11)) ^^^ (rotr ve 25)))), (18, U32 ((vh + (((rotr ve 6) ^^^ (rotr ve 11)) ^^^ (rotr ve 25))) + ((ve &&& vf) ^^^ ((~~~ve) &&& vg)))), (22, U32 (((vh + (((rotr ve 6) ^^^ (rotr ve 11)) ^^^ (rotr ve 25))) + ((ve &&& vf) ^^^ ((~~~ve) &&& vg))) + (g32 constL r))), (26, U32 ((((vh + (((rotr ve 6) ^^^ (rotr ve 11)) ^^^ (rotr ve 25))) + ((ve &&& vf) ^^^ ((~~~ve) &&& vg))) + (g32 constL r)) + (g32 ww r))), (27, U32 ((((vh + (((rotr ve 6) ^^^ (rotr ve 11)) ^^^ (rotr ve 25))) + ((ve &&& vf) ^^^ ((~~~ve) &&& vg))) + (g32 constL r)) + (g32 ww r)))], ?_⟩
   show DP _ _ _ _ _ _ _ _ [⟨nb1, cu32 st, 31, (0, 0)⟩, ⟨nb2, cu32 (zr32 8), 31, (0, 0)⟩, ⟨nb3, cu32 ww, 44, (0, 0)⟩]
   refine DP_end ⟨[2, 4, 7], [0, 1, 3, 5, 6, 8, 9, 10, 11, 12, 13, 14, 15, 16, 17, 18, 19, 20, 21, 22, 23, 24, 25, 26, 27], [1, 3, 6], [0, 5, 8, 9, 10, 11, 12, 13, 14, 15, 16, 17, 18, 19, 20, 21, 22, 23, 24, 25, 26, 27], []⟩ rfl rfl (by decide +kernel) rfl ⟨⟨_, rfl, Qok_val rfl (Ev_move rfl)⟩, ⟨_, rfl, Qok_val rfl (Ev_bini rfl rfl fun _ => bin_xor_u32 (rotr ve 6) (rotr ve 11))⟩, ⟨_, rfl, Qok_val rfl (Ev_bini rfl rfl fun _ => bin_xor_u32 ((rotr ve 6) ^^^ (rotr ve 11)) (rotr ve 25))⟩, ⟨_, rfl, Qok_val rfl (Ev_bini rfl rfl fun _ => bin_add_u32 vh (((rotr ve 6) ^^^ (rotr ve 11)) ^^^ (rotr ve 25)))⟩, ⟨_, rfl, Qok_val rfl (Ev_move rfl)⟩, ⟨_, rfl, Qok_val rfl (Ev_move rfl)⟩, ⟨_, rfl, Qok_val rfl (Ev_bini rfl rfl fun _ => bin_and_u32 ve vf)⟩, ⟨_, rfl, Qok_val rfl (Ev_move rfl)⟩, ⟨_, rfl, Qok_val rfl (Ev_un _ _ rfl fun _ => un_xor_u32 _)⟩, ⟨_, rfl, Qok_val rfl (Ev_move rfl)⟩, ⟨_, rfl, Qok_val rfl (Ev_bini rfl rfl fun _ => bin_and_u32 (~~~ve) vg)⟩, ⟨_, rfl, Qok_val rfl (Ev_bini rfl rfl fun _ => bin_xor_u32 (ve &&& vf) ((~~~ve) &&& vg))⟩, ⟨_, rfl, Qok_val rfl (Ev_bini rfl rfl fun _ => bin_add_u32 (vh + (((rotr ve 6) ^^^ (rotr ve 11)) ^^^ (rotr ve 25))) ((ve &&& vf) ^^^ ((~~~ve) &&& vg)))⟩, ⟨_, rfl, Qok_val rfl (Ev_move rfl)⟩, ⟨_, rfl, Qok_val rfl (Ev_indexArr 64 30 1 r Tryd.underlying44 Tryd.sizeOf30 rfl rfl (by omega) (by omega) (by omega))⟩, ⟨_, rfl, Qok_val rfl (Ev_load rfl (Ld_one Tryd.isAgg30 (MemAt.seg (RdA.mem hG (by simp)) (Seg.get (g32_get (i := r) (by rw [constL_len]; omega))) (by omega))))⟩, ⟨_, rfl, Qok_val rfl (Ev_bini rfl rfl fun _ => bin_add_u32 ((vh + (((rotr ve 6) ^^^ (rotr ve 11)) ^^^ (rotr ve 25))) + ((ve &&& vf) ^^^ ((~~~ve) &&& vg))) (g32 constL r))⟩, ⟨_, rfl, Qok_val rfl (Ev_move rfl)⟩, ⟨_, rfl, Qok_val rfl (Ev_indexArr 64 30 1 r Tryd.underlying44 Tryd.sizeOf30 rfl rfl (by omega) (by omega) (by omega))⟩, ⟨_, rfl, Qok_val rfl (Ev_load rfl (Ld_one Tryd.isAgg30 (MemAt.ent 2 rfl (Seg.get (g32_get (i := r) (by rw [hw]; omega))))))⟩, ⟨_, rfl, Qok_val rfl (Ev_bini rfl rfl fun _ => bin_add_u32 (((vh + (((rotr ve 6) ^^^ (rotr ve 11)) ^^^ (rotr ve 25))) + ((ve &&& vf) ^^^ ((~~~ve) &&& vg))) + (g32 constL r)) (g32 ww r))⟩, ⟨_, rfl, Qok_val rfl (Ev_assign rfl)⟩, trivial⟩ ?_
   refine K_sub (F' := [(107, U32 vh), (108, U32 ve), (109, U32 (rotr ve 6)), (110, U32 ve), (111, U32 (rotr ve 11)), (112, U32 ((rotr ve 6) ^^^ (rotr ve 11))), (113, U32 ve), (114, U32 (rotr ve 25)), (115, U32 (((rotr ve 6) ^^^ (rotr ve 11)) ^^^ (rotr ve 25))), (116, U32 (vh + (((rotr ve 6) ^^^ (rotr ve 11)) ^^^ (rotr ve 25)))), (117, U32 ve), (118, U32 vf), (119, U32 (ve &&& vf)), (120, U32 ve), (121, U32 (~~~ve)), (122, U32 vg), (123, U32 ((~~~ve) &&& vg)), (124, U32 ((ve &&& vf) ^^^ ((~~~ve) &&& vg))), (125, U32 ((vh + (((rotr ve 6) ^^^ (rotr ve 11)) ^^^ (rotr ve 25))) + ((ve &&& vf) ^^^ ((~~~ve) &&& vg)))), (126, I64 ((r:Int))), (127, Ptr 0 r), (128, U32 (g32 constL r)), (129, U32 (((vh + (((rotr ve 6) ^^^ (rotr ve 11)) ^^^ (rotr ve 25))) + ((ve &&& vf) ^^^ ((~~~ve) &&& vg))) + (g32 constL r))), (130, I64 ((r:Int))), (131, Ptr nb3 r), (132, U32 (g32 ww r)), (133, U32 ((((vh + (((rotr ve 6) ^^^ (rotr ve 11)) ^^^ (rotr ve 25))) + ((ve &&& vf) ^^^ ((~~~ve) &&& vg))) + (g32 constL r)) + (g32 ww r))), (21, U32 ((((vh + (((rotr ve 6) ^^^ (rotr ve 11)) ^^^ (rotr ve 25))) + ((ve &&& vf) ^^^ ((~~~ve) &&& vg))) + (g32 constL r)) + (g32 ww r))), (2, Ptr nb1 0), (4, Ptr nb2 0), (5, Ptr nb3 0), (20, I64 ((r:Int))), (12, U32 va), (13, U32 vb), (14, U32 vc), (15, U32 vd), (16, U32 ve), (17, U32 vf), (18, U32 vg), (19, U32 vh), (103, I64 ((r:Int))), (104, .bool (decide (((r:Int)) < (64:Int))))]) (Sub.cons (by kernel_rfl) (Sub.cons (by kernel_rfl) (Sub.cons (by kernel_rfl) (Sub.cons (by kernel_rfl) (Sub.cons (by kernel_rfl) (Sub.cons (by kernel_rfl) (Sub.cons (by kernel_rfl) (Sub.cons (by kernel_rfl) (Sub.cons (by kernel_rfl) (Sub.cons (by kernel_rfl) (Sub.cons (by kernel_rfl) (Sub.cons (by kernel_rfl) (Sub.cons (by kernel_rfl) (Sub.cons (by kernel_rfl) (Sub.cons (by kernel_rfl) (Sub.cons (by kernel_rfl) (Sub.cons (by kernel_rfl) (Sub.cons (by kernel_rfl) (Sub.cons (by kernel_rfl) (Sub.cons (by kernel_rfl) (Sub.cons (by kernel_rfl) (Sub.cons (by kernel_rfl) (Sub.cons (by kernel_rfl) (Sub.cons (by kernel_rfl) (Sub.cons (by kernel_rfl) (Sub.cons (by kernel_rfl) (Sub.cons (by kernel_rfl) (Sub.cons (by kernel_rfl) (Sub.cons (by kernel_rfl) (Sub.cons (by kernel_rfl) (Sub.cons (by kernel_rfl) (Sub.cons (by kernel_rfl) (Sub.cons (by kernel_rfl) (Sub.cons (by kernel_rfl) (Sub.cons (by kernel_rfl) (Sub.cons (by kernel_rfl) (Sub.cons (by kernel_rfl) (Sub.cons (by kernel_rfl) (Sub.cons (by kernel_rfl) (Sub.cons (by kernel_rfl) (Sub.cons (by kernel_rfl) (Sub.cons (by kernel_rfl) (Sub.nil))))))))))))))))))))))))))))))))))))))))))) ?_
   show JQ _ _ _ [(107, U32 vh), (108, U32 ve), (109, U32 (rotr ve 6)), (110, U32 ve), (111, U32 (rotr ve 11)), (112, U32 ((rotr ve 6) ^^^ (rotr ve 11))), (113, U32 ve), (114, U32 (rotr ve 25)), (115, U32 (((rotr ve 6) ^^^ (rotr ve 11)) ^^^ (rotr ve 25))), (116, U32 (vh + (((rotr ve 6) ^^^ (rotr ve 11)) ^^^ (rotr ve 25)))), (117, U32 ve), (118, U32 vf), (119, U32 (ve &&& vf)), (120, U32 ve), (121, U32 (~~~ve)), (122, U32 vg), (123, U32 ((~~~ve) &&& vg)), (124, U32 ((ve &&& vf) ^^^ ((~~~ve) &&& vg))), (125, U32 ((vh + (((rotr ve 6) ^^^ (rotr ve 11)) ^^^ (rotr ve 25))) + ((ve &&& vf) ^^^ ((~~~ve) &&& vg)))), (126, I64 ((r:Int))), (127, Ptr 0 r), (128, U32 (g32 constL r)), (129, U32 (((vh + (((rotr ve 6) ^^^ (rotr ve 11)) ^^^ (rotr ve 25))) + ((ve &&& vf) ^^^ ((~~~ve) &&& vg))) + (g32 constL r))), (130, I64 ((r:Int))), (131, Ptr nb3 r), (132, U32 (g32 ww r)), (133, U32 ((((vh + (((rotr ve 6) ^^^ (rotr ve 11)) ^^^ (rotr ve 25))) + ((ve &&& vf) ^^^ ((~~~ve) &&& vg))) + (g32 constL r)) + (g32 ww r))), (21, U32 ((((vh + (((rotr ve 6) ^^^ (rotr ve 11)) ^^^ (rotr ve 25))) + ((ve &&& vf) ^^^ ((~~~ve) &&& vg))) + (g32 constL r)) + (g32 ww r))), (2, Ptr nb1 0), (4, Ptr nb2 0), (5, Ptr nb3 0), (20, I64 ((r:Int))), (12, U32 va), (13, U32 vb), (14, U32 vc), (15, U32 vd), (16, U32 ve), (17, U32 vf), (18, U32 vg), (19, U32 vh), (103, I64 ((r:Int))), (104, .bool (decide (((r:Int)) < (64:Int))))] _
   refine JQ_then ?_
   refine JC_seq ?_
   refine JC_region ?_
   refine JL_val _ (Ev_move rfl) rfl ?_
   refine JL_step (Step_callP 87 [U32 va, I64 (2:Int)] (U32 (rotr va 2)) (Cl_func [U32 va, I64 (2:Int)] Tryd.call87 rfl) (fun w1 hw1 => rturn_c va 2 w1 (by omega) (by omega))) rfl ?_
   rintro v1 L1 ⟨rfl, rfl⟩
   show JL _ _ _ _ ((135, U32 (rotr va 2)) :: _) [⟨nb1, cu32 st, 31, (0, 0)⟩, ⟨nb2, cu32 (zr32 8), 31, (0, 0)⟩, ⟨nb3, cu32 ww, 44, (0, 0)⟩]
   refine JL_val _ (Ev_move rfl) rfl ?_
   refine JL_step (Step_callP 87 [U32 va, I64 (13:Int)] (U32 (rotr va 13)) (Cl_func [U32 va, I64 (13:Int)] Tryd.call87 rfl) (fun w1 hw1 => rturn_c va 13 w1 (by omega) (by omega))) rfl ?_
   rintro v1 L1 ⟨rfl, rfl⟩
   show JL _ _ _ _ ((137, U32 (rotr va 13)) :: _) [⟨nb1, cu32 st, 31, (0, 0)⟩, ⟨nb2, cu32 (zr32 8), 31, (0, 0)⟩, ⟨nb3, cu32 ww, 44, (0, 0)⟩]
   refine JL_val (U32 ((rotr va 2) ^^^ (rotr va 13))) (Ev_bini rfl rfl fun _ => bin_xor_u32 (rotr va 2) (rotr va 13)) rfl ?_
   refine JL_val _ (Ev_move rfl) rfl ?_
   refine JL_step (Step_callP 87 [U32 va, I64 (22:Int)] (U32 (rotr va 22)) (Cl_func [U32 va, I64 (22:Int)] Tryd.call87 rfl) (fun w1 hw1 => rturn_c va 22 w1 (by omega) (by omega))) rfl ?_
   rintro v1 L1 ⟨rfl, rfl⟩
   show JL _ _ _ _ ((140, U32 (rotr va 22)) :: _) [⟨nb1, cu32 st, 31, (0, 0)⟩, ⟨nb2, cu32 (zr32 8), 31, (0, 0)⟩, ⟨nb3, cu32 ww, 44, (0, 0)⟩]
   refine JL_val (U32 (((rotr va 2) ^^^ (rotr va 13)) ^^^ (rotr va 22))) (Ev_bini rfl rfl fun _ => bin_xor_u32 ((rotr va 2) ^^^ (rotr va 13)) (rotr va 22)) rfl ?_
   refine JL_val _ (Ev_move rfl) rfl ?_
   refine JL_val _ (Ev_move rfl) rfl ?_
   refine JL_val (U32 (va &&& vb)) (Ev_bini rfl rfl fun _ => bin_and_u32 va vb) rfl ?_
   refine JL_val _ (Ev_move rfl) rfl ?_
   refine JL_val _ (Ev_move rfl) rfl ?_
   refine JL_val (U32 (va &&& vc)) (Ev_bini rfl rfl fun _ => bin_and_u32 va vc) rfl ?_
   refine JL_val (U32 ((va &&& vb) ^^^ (va &&& vc))) (Ev_bini rfl rfl fun _ => bin_xor_u32 (va &&& vb) (va &&& vc)) rfl ?_
   refine JL_val _ (Ev_move rfl) rfl ?_
   refine JL_val _ (Ev_move rfl) rfl ?_
   refine JL_val (U32 (vb &&& vc)) (Ev_bini rfl rfl fun _ => bin_and_u32 vb vc) rfl ?_
   refine JL_val (U32 (((va &&& vb) ^^^ (va &&& vc)) ^^^ (vb &&& vc))) (Ev_bini rfl rfl fun _ => bin_xor_u32 ((va &&& vb) ^^^ (va &&& vc)) (vb &&& vc)) rfl ?_
   refine JL_val (U32 ((((rotr va 2) ^^^ (rotr va 13)) ^^^ (rotr va 22)) + (((va &&& vb) ^^^ (va &&& vc)) ^^^ (vb &&& vc)))) (Ev_bini rfl rfl fun _ => bin_add_u32 (((rotr va 2) ^^^ (rotr va 13)) ^^^ (rotr va 22)) (((va &&& vb) ^^^ (va &&& vc)) ^^^ (vb &&& vc))) rfl ?_
   refine JL_val _ (Ev_assign rfl) rfl ?_
   refine JL_nil ?_
   refine JQ_then ?_
   refine JC_seq ?_
   refine JC_region ?_
   refine JL_val _ (Ev_move rfl) rfl ?_
   refine JL_val _ (Ev_assign rfl) rfl ?_
   refine JL_nil ?_
   refine JQ_then ?_
   refine JC_seq ?_
   refine JC_region ?_
   refine JL_val _ (Ev_move rfl) rfl ?_
   refine JL_val _ (Ev_assign rfl) rfl ?_
   refine JL_nil ?_
   refine JQ_then ?_
   refine JC_seq ?_
   refine JC_region ?_
   refine JL_val _ (Ev_move rfl) rfl ?_
   refine JL_val _ (Ev_assign rfl) rfl ?_
   refine JL_nil ?_
   refine JQ_then ?_
   refine JC_seq ?_
   refine JC_region ?_
   refine JL_val _ (Ev_move rfl) rfl ?_
   refine JL_val _ (Ev_move rfl) rfl ?_
   refine JL_val (U32 (vd + ((((vh + (((rotr ve 6) ^^^ (rotr ve 11)) ^^^ (rotr ve 25))) + ((ve &&& vf) ^^^ ((~~~ve) &&& vg))) + (g32 constL r)) + (g32 ww r)))) (Ev_bini rfl rfl fun _ => bin_add_u32 vd ((((vh + (((rotr ve 6) ^^^ (rotr ve 11)) ^^^ (rotr ve 25))) + ((ve &&& vf) ^^^ ((~~~ve) &&& vg))) + (g32 constL r)) + (g32 ww r))) rfl ?_
   refine JL_val _ (Ev_assign rfl) rfl ?_
   refine JL_nil ?_
   refine JQ_then ?_
   refine JC_seq ?_
   refine JC_region ?_
   refine JL_val _ (Ev_move rfl) rfl ?_
   refine JL_val _ (Ev_assign rfl) rfl ?_
   refine JL_nil ?_
   refine JQ_then ?_
   refine JC_seq ?_
   refine JC_region ?_
   refine JL_val _ (Ev_move rfl) rfl ?_
   refine JL_val _ (Ev_assign rfl) rfl ?_
   refine JL_nil ?_
   refine JQ_then ?_
   refine JC_seq ?_
   refine JC_region ?_
   refine JL_val _ (Ev_move rfl) rfl ?_
   refine JL_val _ (Ev_assign rfl) rfl ?_
   refine JL_nil ?_
   refine JQ_then ?_
   refine JC_region ?_
   refine JL_val _ (Ev_move rfl) rfl ?_
   refine JL_val _ (Ev_move rfl) rfl ?_
   refine JL_val (U32 (((((vh + (((rotr ve 6) ^^^ (rotr ve 11)) ^^^ (rotr ve 25))) + ((ve &&& vf) ^^^ ((~~~ve) &&& vg))) + (g32 constL r)) + (g32 ww r)) + ((((rotr va 2) ^^^ (rotr va 13)) ^^^ (rotr va 22)) + (((va &&& vb) ^^^ (va &&& vc)) ^^^ (vb &&& vc))))) (Ev_bini rfl rfl fun _ => bin_add_u32 ((((vh + (((rotr ve 6) ^^^ (rotr ve 11)) ^^^ (rotr ve 25))) + ((ve &&& vf) ^^^ ((~~~ve) &&& vg))) + (g32 constL r)) + (g32 ww r)) ((((rotr va 2) ^^^ (rotr va 13)) ^^^ (rotr va 22)) + (((va &&& vb) ^^^ (va &&& vc)) ^^^ (vb &&& vc)))) rfl ?_
   refine JL_val _ (Ev_assign rfl) rfl ?_
   refine JL_nil ?_
   refine JQ_in_normal ?_
   refine JQ_then ?_
   refine JC_region ?_
   refine JL_val _ (Ev_move rfl) rfl ?_
   refine JL_val (I64 ((r:Int) + 1)) (Ev_bini rfl rfl fun _ => bin_add_i _ _ ((r:Int) + 1) (by omega) (by omega)) rfl ?_
   refine JL_val _ (Ev_assign rfl) rfl ?_
   refine JL_nil ?_
   refine JQ_thenK ?_
   refine K_next (r + 1, ((((vh + (((rotr ve 6) ^^^ (rotr ve 11)) ^^^ (rotr ve 25))) + ((ve &&& vf) ^^^ ((~~~ve) &&& vg))) + (g32 constL r)) + (g32 ww r)) + ((((rotr va 2) ^^^ (rotr va 13)) ^^^ (rotr va 22)) + (((va &&& vb) ^^^ (va &&& vc)) ^^^ (vb &&& vc))), va, vb, vc, vd + ((((vh + (((rotr ve 6) ^^^ (rotr ve 11)) ^^^ (rotr ve 25))) + ((ve &&& vf) ^^^ ((~~~ve) &&& vg))) + (g32 constL r)) + (g32 ww r)), ve, vf, vg) ⟨by omega, by rw [cpN, ← hy2]; rfl⟩ (by first | (simp; omega) | simp) (Sub.cons rfl (Sub.cons rfl (Sub.cons rfl (Sub.cons rfl (Sub.cons rfl (Sub.cons rfl (Sub.cons rfl (Sub.cons rfl (Sub.cons rfl (Sub.cons rfl (Sub.cons rfl (Sub.cons rfl (Sub.nil))))))))))))) rfl
  ·
   have hp4 : ¬ (((r:Int)) < (64:Int)) := of_decide_eq_false hb4
   refine JC_exit ?_
   refine JQ_then_exit ?_
   refine JQ_then_exit ?_
   refine JQ_in_same ?_
   refine JQ_then ?_
   refine JC_seq ?_
   refine JC_region ?_
   refine JL_val (Ptr nb1 0) (Ev_indexArr 8 30 1 0 Tryd.underlying31 Tryd.sizeOf30 rfl rfl (by omega) (by omega) (by omega)) rfl ?_
   refine JL_val (U32 (g32 st 0)) (Ev_load rfl (Ld_one Tryd.isAgg30 (MemAt.ent 0 rfl (Seg.get (g32_get (i := 0) (by rw [hs0]; omega)))))) rfl ?_
   refine JL_val _ (Ev_move rfl) rfl ?_
   refine JL_val (U32 ((g32 st 0) + va)) (Ev_bini rfl rfl fun _ => bin_add_u32 (g32 st 0) va) rfl ?_
   refine JL_val (Ptr nb1 1) (Ev_indexArr 8 30 1 1 Tryd.underlying31 Tryd.sizeOf30 rfl rfl (by omega) (by omega) (by omega)) rfl ?_
   refine JL_val (U32 (g32 st 1)) (Ev_load rfl (Ld_one Tryd.isAgg30 (MemAt.ent 0 rfl (Seg.get (g32_get (i := 1) (by rw [hs0]; omega)))))) rfl ?_
   refine JL_val _ (Ev_move rfl) rfl ?_
   refine JL_val (U32 ((g32 st 1) + vb)) (Ev_bini rfl rfl fun _ => bin_add_u32 (g32 st 1) vb) rfl ?_
   refine JL_val (Ptr nb1 2) (Ev_indexArr 8 30 1 2 Tryd.underlying31 Tryd.sizeOf30 rfl rfl (by omega) (by omega) (by omega)) rfl ?_
   refine JL_val (U32 (g32 st 2)) (Ev_load rfl (Ld_one Tryd.isAgg30 (MemAt.ent 0 rfl (Seg.get (g32_get (i := 2) (by rw [hs0]; omega)))))) rfl ?_
   refine JL_val _ (Ev_move rfl) rfl ?_
   refine JL_val (U32 ((g32 st 2) + vc)) (Ev_bini rfl rfl fun _ => bin_add_u32 (g32 st 2) vc) rfl ?_
   refine JL_val (Ptr nb1 3) (Ev_indexArr 8 30 1 3 Tryd.underlying31 Tryd.sizeOf30 rfl rfl (by omega) (by omega) (by omega)) rfl ?_
   refine JL_val (U32 (g32 st 3)) (Ev_load rfl (Ld_one Tryd.isAgg30 (MemAt.ent 0 rfl (Seg.get (g32_get (i := 3) (by rw [hs0]; omega)))))) rfl ?_
   refine JL_val _ (Ev_move rfl) rfl ?_
   refine JL_val (U32 ((g32 st 3) + vd)) (Ev_bini rfl rfl fun _ => bin_add_u32 (g32 st 3) vd) rfl ?_
   refine JL_val (Ptr nb1 4) (Ev_indexArr 8 30 1 4 Tryd.underlying31 Tryd.sizeOf30 rfl rfl (by omega) (by omega) (by omega)) rfl ?_
   refine JL_val (U32 (g32 st 4)) (Ev_load rfl (Ld_one Tryd.isAgg30 (MemAt.ent 0 rfl (Seg.get (g32_get (i := 4) (by rw [hs0]; omega)))))) rfl ?_
   refine JL_val _ (Ev_move rfl) rfl ?_
   refine JL_val (U32 ((g32 st 4) + ve)) (Ev_bini rfl rfl fun _ => bin_add_u32 (g32 st 4) ve) rfl ?_
   refine JL_val (Ptr nb1 5) (Ev_indexArr 8 30 1 5 Tryd.underlying31 Tryd.sizeOf30 rfl rfl (by omega) (by omega) (by omega)) rfl ?_
   refine JL_val (U32 (g32 st 5)) (Ev_load rfl (Ld_one Tryd.isAgg30 (MemAt.ent 0 rfl (Seg.get (g32_get (i := 5) (by rw [hs0]; omega)))))) rfl ?_
   refine JL_val _ (Ev_move rfl) rfl ?_
   refine JL_val (U32 ((g32 st 5) + vf)) (Ev_bini rfl rfl fun _ => bin_add_u32 (g32 st 5) vf) rfl ?_
   refine JL_val (Ptr nb1 6) (Ev_indexArr 8 30 1 6 Tryd.underlying31 Tryd.sizeOf30 rfl rfl (by omega) (by omega) (by omega)) rfl ?_
   refine JL_val (U32 (g32 st 6)) (Ev_load rfl (Ld_one Tryd.isAgg30 (MemAt.ent 0 rfl (Seg.get (g32_get (i := 6) (by rw [hs0]; omega)))))) rfl ?_
   refine JL_val _ (Ev_move rfl) rfl ?_
   refine JL_val (U32 ((g32 st 6) + vg)) (Ev_bini rfl rfl fun _ => bin_add_u32 (g32 st 6) vg) rfl ?_
   refine JL_val (Ptr nb1 7) (Ev_indexArr 8 30 1 7 Tryd.underlying31 Tryd.sizeOf30 rfl rfl (by omega) (by omega) (by omega)) rfl ?_
   refine JL_val (U32 (g32 st 7)) (Ev_load rfl (Ld_one Tryd.isAgg30 (MemAt.ent 0 rfl (Seg.get (g32_get (i := 7) (by rw [hs0]; omega)))))) rfl ?_
   refine JL_val _ (Ev_move rfl) rfl ?_
   refine JL_val (U32 ((g32 st 7) + vh)) (Ev_bini rfl rfl fun _ => bin_add_u32 (g32 st 7) vh) rfl ?_
   refine JL_val (.agg (cu32 ([(g32 st 0) + va, (g32 st 1) + vb, (g32 st 2) + vc, (g32 st 3) + vd, (g32 st 4) + ve, (g32 st 5) + vf, (g32 st 6) + vg, (g32 st 7) + vh])).toArray) (Ev_build [(0, U32 ((g32 st 0) + va)), (1, U32 ((g32 st 1) + vb)), (2, U32 ((g32 st 2) + vc)), (3, U32 ((g32 st 3) + vd)), (4, U32 ((g32 st 4) + ve)), (5, U32 ((g32 st 5) + vf)), (6, U32 ((g32 st 6) + vg)), (7, U32 ((g32 st 7) + vh))] _ rfl (fun _ => by kernel_rfl)) rfl ?_
   refine JL_step (Step_store 1 nb2 0 8 (cu32 (zr32 8)) 31 (.agg (cu32 ([(g32 st 0) + va, (g32 st 1) + vb, (g32 st 2) + vc, (g32 st 3) + vd, (g32 st 4) + ve, (g32 st 5) + vf, (g32 st 6) + vg, (g32 st 7) + vh])).toArray) (cu32 ([(g32 st 0) + va, (g32 st 1) + vb, (g32 st 2) + vc, (g32 st 3) + vd, (g32 st 4) + ve, (g32 st 5) + vf, (g32 st 6) + vg, (g32 st 7) + vh])) (cu32 ([(g32 st 0) + va, (g32 st 1) + vb, (g32 st 2) + vc, (g32 st 3) + vd, (g32 st 4) + ve, (g32 st 5) + vf, (g32 st 6) + vg, (g32 st 7) + vh])) rfl rfl rfl (by first | rfl | simp) Tryd.sizeOf31 (by simp []) (by first | exact one_u8 | exact one_u32 | exact one_u64 | (simp [cu8, cu32, cu64, Value.oneCell']; done)) (by simp [(zr32_len 8)]) (lay_whole (by simp [(zr32_len 8)]))) rfl ?_
   rintro v1 L1 ⟨rfl, rfl⟩
   show JL _ _ _ _ _ [⟨nb1, cu32 st, 31, (0, 0)⟩, ⟨nb2, cu32 ([(g32 st 0) + va, (g32 st 1) + vb, (g32 st 2) + vc, (g32 st 3) + vd, (g32 st 4) + ve, (g32 st 5) + vf, (g32 st 6) + vg, (g32 st 7) + vh]), 31, (0, 0)⟩, ⟨nb3, cu32 ww, 44, (0, 0)⟩]
   refine JL_nil ?_
   refine JQ_then ?_
   refine JC_ret ?_
   refine JQ_ret (.agg (cu32 ([(g32 st 0) + va, (g32 st 1) + vb, (g32 st 2) + vc, (g32 st 3) + vd, (g32 st 4) + ve, (g32 st 5) + vf, (g32 st 6) + vg, (g32 st 7) + vh])).toArray) (res1 Tryd.results29 (RV_cell rfl (Ld_agg Tryd.isAgg31 Tryd.sizeOf31 (by simp []) (MemAt.ent 1 rfl (Seg.whole _))))) fun w1 hw1 => ?_
   have e1 : t = 64 := by omega
   have e2 : r = 64 := by omega
   subst e1; subst e2
   have e3 : cpN constL st (spreadL blk) 64 = [va, vb, vc, vd, ve, vf, vg, vh] := by rw [spreadL, ← hx2]; exact hy2.symm
   refine ⟨_, [], rfl, ⟨?_, rfl⟩, hw1.sub (by simp) (by simp)⟩
   rw [comprL_eq hs0 _ _ _ _ _ _ _ _ e3]
end Go.Proofs.YtncoifiafklkjaaDoor
