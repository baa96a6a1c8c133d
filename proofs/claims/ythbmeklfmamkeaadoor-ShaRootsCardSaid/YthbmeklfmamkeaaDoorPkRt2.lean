import Derived.MakeChecks
import Derived.Laws.StructEq
import Derived.LaidEql
import Derived.Lib.LaidTab
import Derived.JoinedOf
import Derived.SevenTiedAt
import Derived.Test.YthbmeklfmamkeaaDoorPkRt1
namespace Go.Proofs.YthbmeklfmamkeaaDoor
open Go Go.Sx
set_option linter.unusedVariables false
set_option linter.unusedSimpArgs false
set_option maxRecDepth 100000
attribute [local irreducible] mid zr8 zr32 rotr wordL spreadL comprL cpN adN spN constL initL padL stN outN hashL sumG
theorem sum_abc : g8 (sumG constL initL [(97:UInt8), (98:UInt8), (99:UInt8)]) 0 = 186 ∧ g8 (sumG constL initL [(97:UInt8), (98:UInt8), (99:UInt8)]) 1 = 120 ∧ g8 (sumG constL initL [(97:UInt8), (98:UInt8), (99:UInt8)]) 2 = 22 ∧ g8 (sumG constL initL [(97:UInt8), (98:UInt8), (99:UInt8)]) 3 = 191 := by decide +kernel
theorem alive2_c  (w : World) (hG : GLs w) : Calls Tryd.prog 4 #[] w (Post w [] (fun v L => v = .bool true ∧ L = [])) := by
 refine enter w [] 23 [] [] Tryd.func4 rfl rfl (by simp) (BC (by simp) (by simp) (by simp)) ?_
 show JC _ _ _ [] _
 refine AH (AC (AA _ (AF rfl) rfl ?_))
 refine AI (AE (AH (AC (AO (A4 5 1 _ [(0, U8 (97:UInt8)), (1, U8 (98:UInt8)), (2, U8 (99:UInt8))] (cu8 ([(97:UInt8), (98:UInt8), (99:UInt8)])) AP BD Tryd.zeroValue5 rfl rfl rfl (by kernel_rfl)) rfl ?_))))
 rintro v1 L1 ⟨nb1, hnb1, rfl, rfl⟩
 show JL _ _ _ _ ((2, Slc nb1 0 3 3) :: _) [⟨nb1, cu8 ([(97:UInt8), (98:UInt8), (99:UInt8)]), 5, (0, 0)⟩]
 refine AO (Step_convMark 5 0 AP BR rfl rfl) rfl ?_
 rintro v1 L1 ⟨rfl, rfl⟩
 show JL _ _ _ _ ((3, Slc nb1 0 3 3) :: _) [⟨nb1, cu8 ([(97:UInt8), (98:UInt8), (99:UInt8)]), 5, (3, 4)⟩]
 refine AO (AR 9 [Slc nb1 0 3 3] (.agg (cu8 (sumG constL initL ([(97:UInt8), (98:UInt8), (99:UInt8)]))).toArray) (A2 [Slc nb1 0 3 3] Tryd.call9 rfl) (fun w1 hw1 => sum_c (some ⟨nb1, 0, none⟩) 3 3 ([(97:UInt8), (98:UInt8), (99:UInt8)]) w1 rfl (fun h => by cases h) (by omega) (RdB.of hw1 (MemAt.ent 0 rfl (A5 _)) (by simp)) (hG.at hw1))) rfl ?_
 rintro v1 L1 ⟨rfl, rfl⟩
 show JL _ _ _ _ ((4, .agg (cu8 (sumG constL initL ([(97:UInt8), (98:UInt8), (99:UInt8)]))).toArray) :: _) [_]
 refine AO (B6 _ (cu8 (zr8 32)) Tryd.zeroValue35 (by kernel_rfl)) rfl ?_
 rintro v1 L1 ⟨nb2, hnb2, rfl, rfl⟩
 show JL _ _ _ _ ((1, Ptr nb2 0) :: _) [_, ⟨nb2, cu8 (zr8 32), 35, (0, 0)⟩]
 refine AO (BP 1 nb2 0 32 (cu8 (zr8 32)) 35 (.agg (cu8 (sumG constL initL ([(97:UInt8), (98:UInt8), (99:UInt8)]))).toArray) (cu8 (sumG constL initL ([(97:UInt8), (98:UInt8), (99:UInt8)]))) (cu8 (sumG constL initL ([(97:UInt8), (98:UInt8), (99:UInt8)]))) rfl rfl rfl (by first | rfl | simp) Tryd.sizeOf35 (len_cu8 (sumG_len _ _ _)) (by first | exact one_u8 | exact one_u32 | exact one_u64 | (simp [cu8, cu32, cu64, Value.oneCell']; done)) (by simp [(zr8_len 32)]) (B3 (by simp [(zr8_len 32), (sumG_len _ _ _)]))) rfl ?_
 rintro v1 L1 ⟨rfl, rfl⟩
 show JL _ _ _ _ _ [_, ⟨nb2, cu8 (sumG constL initL ([(97:UInt8), (98:UInt8), (99:UInt8)])), 35, (0, 0)⟩]
 refine AI (AE (AH (AC (AA (Ptr nb2 0) (AV 32 5 1 0 Tryd.underlying35 BD rfl rfl (by omega) (by omega) (by omega)) rfl ?_))))
 refine AA (U8 (g8 (sumG constL initL ([(97:UInt8), (98:UInt8), (99:UInt8)])) 0)) (AW rfl (A7 Tryd.isAgg5 (MemAt.ent 1 rfl (Seg.get (g8_get (i := 0) (by rw [(sumG_len _ _ _)]; omega)))))) rfl ?_
 refine AA (.bool (decide ((g8 (sumG constL initL ([(97:UInt8), (98:UInt8), (99:UInt8)])) 0) = (186:UInt8)))) (AG rfl rfl fun _ => bin_eql_u8 (g8 (sumG constL initL ([(97:UInt8), (98:UInt8), (99:UInt8)])) 0) (186:UInt8)) rfl ?_
 refine AA _ (AB rfl) rfl ?_
 refine AK 3 8 true _ (Ptr nb2 1) rfl rfl (decide_eq_true (sum_abc.1)) (AV 32 5 1 1 Tryd.underlying35 BD rfl rfl (by omega) (by omega) (by omega)) rfl ?_
 refine AK 3 8 true _ (U8 (g8 (sumG constL initL ([(97:UInt8), (98:UInt8), (99:UInt8)])) 1)) rfl rfl (decide_eq_true (sum_abc.1)) (AW rfl (A7 Tryd.isAgg5 (MemAt.ent 1 rfl (Seg.get (g8_get (i := 1) (by rw [(sumG_len _ _ _)]; omega)))))) rfl ?_
 refine AK 3 8 true _ (.bool (decide ((g8 (sumG constL initL ([(97:UInt8), (98:UInt8), (99:UInt8)])) 1) = (120:UInt8)))) rfl rfl (decide_eq_true (sum_abc.1)) (AG rfl rfl fun _ => bin_eql_u8 (g8 (sumG constL initL ([(97:UInt8), (98:UInt8), (99:UInt8)])) 1) (120:UInt8)) rfl ?_
 refine AA _ (BH _ rfl (decide_eq_true (sum_abc.1)) rfl) rfl ?_
 refine AA _ (AB rfl) rfl ?_
 refine AK 8 13 true _ (Ptr nb2 2) rfl rfl (decide_eq_true (sum_abc.2.1)) (AV 32 5 1 2 Tryd.underlying35 BD rfl rfl (by omega) (by omega) (by omega)) rfl ?_
 refine AK 8 13 true _ (U8 (g8 (sumG constL initL ([(97:UInt8), (98:UInt8), (99:UInt8)])) 2)) rfl rfl (decide_eq_true (sum_abc.2.1)) (AW rfl (A7 Tryd.isAgg5 (MemAt.ent 1 rfl (Seg.get (g8_get (i := 2) (by rw [(sumG_len _ _ _)]; omega)))))) rfl ?_
 refine AK 8 13 true _ (.bool (decide ((g8 (sumG constL initL ([(97:UInt8), (98:UInt8), (99:UInt8)])) 2) = (22:UInt8)))) rfl rfl (decide_eq_true (sum_abc.2.1)) (AG rfl rfl fun _ => bin_eql_u8 (g8 (sumG constL initL ([(97:UInt8), (98:UInt8), (99:UInt8)])) 2) (22:UInt8)) rfl ?_
 refine AA _ (BH _ rfl (decide_eq_true (sum_abc.2.1)) rfl) rfl ?_
 refine AA _ (AB rfl) rfl ?_
 refine AK 13 18 true _ (Ptr nb2 3) rfl rfl (decide_eq_true (sum_abc.2.2.1)) (AV 32 5 1 3 Tryd.underlying35 BD rfl rfl (by omega) (by omega) (by omega)) rfl ?_
 refine AK 13 18 true _ (U8 (g8 (sumG constL initL ([(97:UInt8), (98:UInt8), (99:UInt8)])) 3)) rfl rfl (decide_eq_true (sum_abc.2.2.1)) (AW rfl (A7 Tryd.isAgg5 (MemAt.ent 1 rfl (Seg.get (g8_get (i := 3) (by rw [(sumG_len _ _ _)]; omega)))))) rfl ?_
 refine AK 13 18 true _ (.bool (decide ((g8 (sumG constL initL ([(97:UInt8), (98:UInt8), (99:UInt8)])) 3) = (191:UInt8)))) rfl rfl (decide_eq_true (sum_abc.2.2.1)) (AG rfl rfl fun _ => bin_eql_u8 (g8 (sumG constL initL ([(97:UInt8), (98:UInt8), (99:UInt8)])) 3) (191:UInt8)) rfl ?_
 refine AA _ (BH _ rfl (decide_eq_true (sum_abc.2.2.1)) rfl) rfl ?_
 refine AA _ (AF rfl) rfl ?_
 refine AI (AE (BM (BN (.bool (decide ((g8 (sumG constL initL ([(97:UInt8), (98:UInt8), (99:UInt8)])) 3) = (191:UInt8)))) (res1 Tryd.results4 (BI rfl)) fun w1 hw1 => ?_)))
 exact ⟨_, [], rfl, ⟨by rw [show (decide ((g8 (sumG constL initL ([(97:UInt8), (98:UInt8), (99:UInt8)])) 3) = (191:UInt8))) = true from (decide_eq_true (sum_abc.2.2.2))], rfl⟩, hw1.sub (by simp) (by simp)⟩
end Go.Proofs.YthbmeklfmamkeaaDoor
namespace Go.Sx
open Go Go.RowKit
open Go.ChangeShapes Go.WideShapes
set_option linter.unusedVariables false
set_option linter.unusedSimpArgs false
section
variable {H : Type} {enc : TypeId × Value → H} {P : Program} {w : World} {base : Nat} {spare : Nat → Bool} {held : Bool} {sz : Bool}
def TD (enc : TypeId × Value → H) (P : Program) (w : World) (base : Nat) (spare : Nat → Bool) (held sz : Bool) (t : TypeId) (cs : List Value) : Prop :=
 ∃ fuel d ps, DataW.trod enc P w base spare held fuel t cs = some (d, ps) ∧ (sz = true → (d.weights P t).all (· ≤ reachBytes) = true)
theorem TD.of {t : TypeId} {v : Value} {d : DataW H} {ps : List MemPlace} (h : DataW.Trod enc P w base spare held t v d ps) (hw : sz = true → (d.weights P t).all (· ≤ reachBytes) = true) : TD enc P w base spare held sz t v.cells.toList := by
 obtain ⟨fuel, hf⟩ := h
 exact ⟨fuel, d, ps, hf, hw⟩
theorem wAll_get {p : Nat → Bool} {e : TypeId} : ∀ (ds : List (DataW H)), (DataW.weightsAll P e ds).all p = true → ∀ (i : Nat) (d : DataW H), ds[i]? = some d → (d.weights P e).all p = true
 | [], _, i, d, h => by simp at h
 | d0 :: ds, h, i, d, hd => by
  rw [DataW.weightsAll, List.all_append, Bool.and_eq_true] at h
  cases i with
  | zero => simp at hd; subst hd; exact h.1
  | succ i => exact wAll_get ds h.2 i d (by simpa using hd)
variable {t : TypeId} {cs : List Value}
theorem TD.elem {n e : Nat} (i o s : Nat) (ht : P.underlying t = some (.array n e)) (hi : i < n) (hs : P.cellsOf e = s) (ho : o = i * s) (h : TD enc P w base spare held sz t cs) :
  TD enc P w base spare held sz e ((cs.drop o).take s) := by
 obtain ⟨fuel, d, ps, h, hw⟩ := h
 obtain ⟨xs, m, _, hx, hl, hlen, hf⟩ := DataW.trod_array ht h
 subst ho; subst hs
 have hlt : i < xs.length := by rw [hlen]; exact hi
 have hk := hf i hi
 rw [List.getElem?_eq_getElem hlt] at hk
 refine ⟨m, _, _, hk, fun hz => ?_⟩
 have hw := hw hz
 simp only [Prod.mk.injEq] at hx
 rw [hx.1, DataW.weights, ht] at hw
 exact wAll_get _ hw i _ (by simp [hlt])
theorem TD.u8 (ht : P.underlying t = some (.int .u8)) (h : TD enc P w base spare held sz t cs) : ∃ a : UInt8, cs = [U8 a] := by
 obtain ⟨fuel, d, ps, h, hw⟩ := h
 obtain ⟨n, rfl, _, hn⟩ := DataW.trod_int ht h
 obtain ⟨u, rfl⟩ := wf_u8 hn
 exact ⟨u, rfl⟩
theorem TD.u32 (ht : P.underlying t = some (.int .u32)) (h : TD enc P w base spare held sz t cs) : ∃ a : UInt32, cs = [U32 a] := by
 obtain ⟨fuel, d, ps, h, hw⟩ := h
 obtain ⟨n, rfl, _, hn⟩ := DataW.trod_int ht h
 obtain ⟨u, rfl⟩ := wf_u32 hn
 exact ⟨u, rfl⟩
theorem TD.u64 (ht : P.underlying t = some (.int .u64)) (h : TD enc P w base spare held sz t cs) : ∃ a : UInt64, cs = [U64 a] := by
 obtain ⟨fuel, d, ps, h, hw⟩ := h
 obtain ⟨n, rfl, _, hn⟩ := DataW.trod_int ht h
 obtain ⟨u, rfl⟩ := wf_u64 hn
 exact ⟨u, rfl⟩
theorem TD.i64 (ht : P.underlying t = some (.int .i64)) (h : TD enc P w base spare held sz t cs) : ∃ a : Int, cs = [I64 a] ∧ (-9223372036854775808 ≤ a ∧ a ≤ 9223372036854775807) := by
 obtain ⟨fuel, d, ps, h, hw⟩ := h
 obtain ⟨n, rfl, _, hn⟩ := DataW.trod_int ht h
 exact ⟨n, rfl, bounds_i64 hn⟩
theorem TD.bool (ht : P.underlying t = some .bool) (h : TD enc P w base spare held sz t cs) : ∃ a : Bool, cs = [.bool a] := by
 obtain ⟨fuel, d, ps, h, hw⟩ := h
 obtain ⟨b, rfl, _⟩ := DataW.trod_bool ht h
 exact ⟨b, rfl⟩
def RdV (w : World) (ao : Option Addr) (vs : List Value) : Prop := vs = [] ∨ ∃ b off, ao = some ⟨b, off, none⟩ ∧ RdA w b off vs
end
end Go.Sx
namespace Go.Proofs.YthbmeklfmamkeaaDoor
open Go Go.Sx
set_option linter.unusedVariables false
set_option linter.unusedSimpArgs false
theorem RdV.posR {w : World} {ao : Option Addr} {vs : List Value} (h : RdV w ao vs) (hv : 0 < vs.length) : ∃ b off, ao = some ⟨b, off, none⟩ ∧ RdA w b off vs := by
  rcases h with h | h
  · rw [h] at hv; simp at hv
  · exact h
theorem RdV.ofR {C : Cx} {L : List Ent} {w : World} {b off : Nat} {vs : List Value} (hw : Hp C.w0 C.M L w) (h : MemAt C L b off vs) : RdV w (some ⟨b, off, none⟩) vs := by
 cases vs with
 | nil => exact .inl rfl
 | cons v vs => exact .inr ⟨b, off, rfl, RdA.of hw h (by simp)⟩
section
variable {C : Cx} {F : Frm} {L : List Ent} {ty : TypeId}
theorem Cl_clo {f : FuncId} {x : Operand} {args : Array Operand} {ats : Array TypeId} (vs caps : List Value) (hcf : ∀ (args : Array Value) (w : World), Sem.run C.P (callFunc f args) w = Result.ok (Next.enter f args) w)
  (hx : ev F x = some (.func (.func f) #[] caps.toArray)) (h : args.toList.map (ev F) = vs.map some) : Cl C F L (.call { callee := .value x, args := args, argTypes := ats }) ty f (vs ++ caps).toArray := fun a w ha _ d pos aft g => by
 have : args.map a.eval = vs.toArray := by
  apply Array.toList_inj.1
  rw [Array.toList_map]
  generalize args.toList = l at h
  clear hcf hx
  induction l generalizing vs with
  | nil => cases vs <;> simp_all
  | cons o l ih =>
   cases vs with
   | nil => simp at h
   | cons v vs =>
    simp only [List.map_cons, List.cons.injEq] at h
    simp [ha.ev h.1, ih vs h.2]
 have h2 : a.eval x = .func (.func f) #[] caps.toArray := ha.ev hx
 simp [execOp, resolve, this, h2, Deferred.ofValue, invoke, hcf]
end
theorem rdV_atR {C : Cx} {L : List Ent} {w : World} {ao : Option Addr} {vs : List Value} (hw : Hp C.w0 C.M L w) (hM : C.M = []) (h : RdV C.w0 ao vs) : RdV w ao vs := by
  rcases h with h | ⟨b, off, h1, h2⟩
  · exact .inl h
  · cases vs with
    | nil => exact .inl rfl
    | cons v vs => exact .inr ⟨b, off, h1, RdA.of hw (h2.mem (by rw [hM]; simp)) (by simp)⟩
def fIx {α : Type} (p : α → Bool) (ls : List α) : Int := if ls.any p then (ls.findIdx p : Nat) else -1
theorem fIx_at {α : Type} {p : α → Bool} {ls : List α} {i : Nat} {x : α} (h : ls[i]? = some x) (hp : p x = true) (hlt : ∀ k, k < i → ∀ y, ls[k]? = some y → p y = false) : fIx p ls = i := by
 obtain ⟨hi, hx⟩ := List.getElem?_eq_some_iff.1 h
 have h1 : ls.any p = true := List.any_eq_true.2 ⟨x, hx ▸ List.getElem_mem hi, hp⟩
 have h2 : ls.findIdx p = i := by
  rw [List.findIdx_eq hi]
  exact ⟨by rw [hx]; exact hp, fun j hj => hlt j hj _ (List.getElem?_eq_getElem (by omega))⟩
 unfold fIx
 rw [if_pos h1, h2]
theorem fIx_no {α : Type} {p : α → Bool} {ls : List α} (h : ∀ k, k < ls.length → ∀ y, ls[k]? = some y → p y = false) : fIx p ls = -1 := by
 unfold fIx
 rw [if_neg]
 intro ha
 obtain ⟨x, hx, hp⟩ := List.any_eq_true.1 ha
 obtain ⟨k, hk, hk2⟩ := List.getElem_of_mem hx
 rw [h k hk x (by rw [List.getElem?_eq_getElem hk, hk2])] at hp
 exact absurd hp (by decide)
theorem fIx_ge {α : Type} (p : α → Bool) (ls : List α) : decide (0 ≤ fIx p ls) = ls.any p := by
 unfold fIx
 cases h : ls.any p with
 | true => rw [if_pos rfl]; exact decide_eq_true (by omega)
 | false => rw [if_neg (by decide)]; exact decide_eq_false (by omega)
theorem f_step {α : Type} {p : α → Bool} {ls : List α} {i : Nat} {x : α} (h : ls[i]? = some x) (hp : p x = false) (hlt : ∀ k, k < i → ∀ y, ls[k]? = some y → p y = false) : ∀ k, k < i + 1 → ∀ y, ls[k]? = some y → p y = false := fun k hk y hy => by
  by_cases e : k = i
  · rw [e, h] at hy
    injection hy with hy
    rw [← hy]; exact hp
  · exact hlt k (by omega) y hy
theorem g64_atR {l : List UInt64} {i : Nat} (h : i < l.length) : l[i]? = some (g64 l i) := by rw [g64_eq h, List.getElem?_eq_getElem h]
def prL : List Nat := [2, 3, 5, 7, 11, 13, 17, 19, 23, 29, 31, 37, 41, 43, 47, 53, 59, 61, 67, 71, 73, 79, 83, 89, 97, 101, 103, 107, 109, 113, 127, 131, 137, 139, 149, 151, 157, 163, 167, 173, 179, 181, 191, 193, 197, 199, 211, 223, 227, 229, 233, 239, 241, 251, 257, 263, 269, 271, 277, 281, 283, 293, 307, 311]
def isP (n : Nat) : Bool := prL.contains n
def prN (i : Nat) : Nat := prL.getD i 0
def fndN (N : Nat) : List Nat := prL.filter (fun q => decide (q < N))
def fnd (N : Nat) : List UInt64 := (fndN N).map UInt64.ofNat
def cnt (N : Nat) : Nat := (fndN N).length
theorem cnt_two : cnt 2 = 0 := by decide +kernel
theorem fnd_any : ∀ N, N < 312 → 2 ≤ N → (fnd N).any (fun p => decide (UInt64.ofNat N % p = 0)) = !isP N := by decide +kernel
theorem fnd_yes : ∀ N, N < 312 → isP N = true → fnd (N + 1) = fnd N ++ [UInt64.ofNat N] ∧ cnt (N + 1) = cnt N + 1 ∧ prN (cnt N) = N := by decide +kernel
theorem fnd_no : ∀ N, N < 312 → isP N = false → fnd (N + 1) = fnd N ∧ cnt (N + 1) = cnt N := by decide +kernel
theorem cnt_end : cnt 312 = 64 := by decide +kernel
theorem fnd_pos : ∀ N, N < 312 → (fnd N).all (fun p => decide (p ≠ 0)) = true := by decide +kernel
theorem pr_lt : ∀ i, i < 64 → prN i < 312 := by decide +kernel
theorem cnt_in {N i : Nat} (h : N ≤ 312) (hc : cnt N ≤ i) (hi : i < 64) : N < 312 := by
  rcases Nat.lt_or_ge N 312 with h1 | h1
  · exact h1
  · have : N = 312 := by omega
    rw [this, cnt_end] at hc; omega
def noDiv (N D : Nat) : Bool := (List.range D).all (fun k => decide (k < 2) || decide (N % k ≠ 0))
theorem noDiv_two (N : Nat) : noDiv N 2 = true := by
 unfold noDiv
 rw [List.all_eq_true]
 intro k hk
 rw [List.mem_range] at hk
 simp [hk]
theorem noDiv_succ (N D : Nat) (h : 2 ≤ D) : noDiv N (D + 1) = (noDiv N D && decide (N % D ≠ 0)) := by
 unfold noDiv
 rw [List.range_succ, List.all_append]
 simp [show ¬ D < 2 by omega]
theorem noDiv_end : ∀ N, N < 312 → 2 ≤ N → noDiv N N = isP N := by decide +kernel
theorem ofN_mod {N D : Nat} (hN : N < 2 ^ 64) (hD : D < 2 ^ 64) : UInt64.ofNat N % UInt64.ofNat D = 0 ↔ N % D = 0 := by
 rw [← UInt64.toNat_inj, UInt64.toNat_mod, UInt64.toNat_ofNat', UInt64.toNat_ofNat', Nat.mod_eq_of_lt hN, Nat.mod_eq_of_lt hD]
 exact Iff.rfl
def wholeN (i pw : Nat) : Nat := (List.range 20).countP (fun W => decide ((W + 1) ^ pw ≤ prN i))
def xN (i pw : Nat) : Nat := wholeN i pw * 4294967296 + (if pw = 3 then (g32 constL i).toNat else (g32 initL i).toNat)
def topN (x k : Nat) : Nat := x / 2 ^ k * 2 ^ k
theorem rB_iff : ∀ i, i < 64 → ∀ W, W < 19 → ((((W + 1) * 4294967296) ^ 3 ≤ prN i * 2 ^ 96 ↔ W < wholeN i 3) ∧ (((W + 1) * 4294967296) ^ 2 ≤ prN i * 2 ^ 64 ↔ W < wholeN i 2)) := by decide +kernel
theorem whole_lt : ∀ i, i < 64 → wholeN i 3 < 19 ∧ wholeN i 2 < 19 := by decide +kernel
def valA : List UInt64 → Nat
 | [] => 0
 | a :: l => a.toNat + 65536 * valA l
def Dig (l : List UInt64) : Prop := ∀ a ∈ l, a.toNat < 65536
theorem Dig.nil : Dig [] := fun _ h => by simp at h
theorem Dig.app {l : List UInt64} {a : UInt64} (h : Dig l) (ha : a.toNat < 65536) : Dig (l ++ [a]) := fun b hb => by
  rcases List.mem_append.1 hb with hb | hb
  · exact h b hb
  · rw [List.mem_singleton.1 hb]; exact ha
theorem Dig.at {l : List UInt64} (h : Dig l) {i : Nat} (hi : i < l.length) : (g64 l i).toNat < 65536 := by
 rw [g64_eq hi]; exact h _ (List.getElem_mem hi)
theorem valA_app (l : List UInt64) (a : UInt64) : valA (l ++ [a]) = valA l + a.toNat * 65536 ^ l.length := by
 induction l with
 | nil => simp [valA]
 | cons b l ih => rw [List.cons_append, valA, ih, valA, List.length_cons, Nat.pow_succ, Nat.mul_add]; simp only [Nat.mul_comm, Nat.mul_left_comm, Nat.mul_assoc, Nat.add_assoc]
theorem valA_take {l : List UInt64} {i : Nat} (h : i < l.length) : valA (l.take (i + 1)) = valA (l.take i) + (g64 l i).toNat * 65536 ^ i := by
 have e : l.take (i + 1) = l.take i ++ [g64 l i] := by rw [List.take_add_one, g64_atR h]; rfl
 rw [e, valA_app, List.length_take, Nat.min_eq_left (by omega)]
theorem times_step {x c s P q : Nat} {d : Nat} (hv : s + c * P = q) : (s + ((c + d) % 65536) * P) + ((c + d) / 65536) * (P * 65536) = q + d * P := by
 have h := Nat.mod_add_div (c + d) 65536
 have e : ((c + d) % 65536) * P + ((c + d) / 65536) * (P * 65536) = (c + d) * P := by
  conv => rhs; rw [← h]
  rw [Nat.add_mul]
  congr 1
  rw [Nat.mul_comm 65536 ((c + d) / 65536), Nat.mul_assoc, Nat.mul_comm 65536 P]
 rw [Nat.add_assoc, e, Nat.add_mul, ← hv]
 omega
def dg (c : Nat) : Nat := if c = 0 then 0 else if c < 65536 then 1 else if c < 4294967296 then 2 else if c < 281474976710656 then 3 else 4
theorem dg_le (c : Nat) : dg c ≤ 4 := by
 unfold dg
 repeat' split
 all_goals omega
theorem dg_step {c : Nat} (h : 0 < c) (hc : c < 2 ^ 64) : dg (c / 65536) < dg c := by
 unfold dg
 repeat' split
 all_goals omega
def hiA (l : List UInt64) (i : Nat) : Nat := valA (l.drop i)
theorem hiA_step {l : List UInt64} (i : Nat) : hiA l i = (if i < l.length then (g64 l i).toNat else 0) + 65536 * hiA l (i + 1) := by
  unfold hiA
  by_cases h : i < l.length
  · rw [if_pos h, List.drop_eq_getElem_cons h, valA, g64_eq h]
  · rw [if_neg h, List.drop_of_length_le (by omega), List.drop_of_length_le (by omega)]; rfl
theorem lo_lt {l : List UInt64} (h : Dig l) : ∀ i, ∃ r, valA l = r + 65536 ^ i * hiA l i ∧ r < 65536 ^ i
  | 0 => ⟨0, by simp [hiA], by simp⟩
  | i + 1 => by
    obtain ⟨r, h1, h2⟩ := lo_lt h i
    have h3 := hiA_step (l := l) i
    have hd : (if i < l.length then (g64 l i).toNat else 0) < 65536 := by
      split
      · rename_i hi; exact h.at hi
      · omega
    generalize (if i < l.length then (g64 l i).toNat else 0) = d at h3 hd
    refine ⟨r + 65536 ^ i * d, ?_, ?_⟩
    · rw [h1, h3, Nat.pow_succ, Nat.mul_add]; simp only [Nat.mul_assoc, Nat.add_assoc]
    · rw [Nat.pow_succ]
      have : 65536 ^ i * d ≤ 65536 ^ i * 65535 := Nat.mul_le_mul_left _ (by omega)
      omega
theorem less_of {a b : List UInt64} (ha : Dig a) (hb : Dig b) (i : Nat) (h : hiA a (i + 1) = hiA b (i + 1)) (x y : Nat) (hx : x = (if i < a.length then (g64 a i).toNat else 0)) (hy : y = (if i < b.length then (g64 b i).toNat else 0)) (hne : x ≠ y) : (x < y ↔ valA a < valA b) := by
  obtain ⟨r, h1, h2⟩ := lo_lt ha i
  obtain ⟨s, h3, h4⟩ := lo_lt hb i
  have e1 := hiA_step (l := a) i
  have e2 := hiA_step (l := b) i
  rw [← hx] at e1
  rw [← hy] at e2
  rw [h] at e1
  have key : ∀ {u v p q : Nat}, u + 1 ≤ v → p < 65536 ^ i → p + 65536 ^ i * u < q + 65536 ^ i * v := fun {u v p q} huv hp => by
    have : 65536 ^ i * (u + 1) ≤ 65536 ^ i * v := Nat.mul_le_mul_left _ huv
    rw [Nat.mul_add] at this; omega
  rw [h1, h3]
  constructor
  · intro hlt; exact key (by omega) h2
  · intro hlt
    rcases Nat.lt_or_ge x y with h5 | h5
    · exact h5
    · have := key (u := hiA b i) (v := hiA a i) (p := s) (q := r) (by omega) h4
      omega
theorem valA_one (a : UInt64) : valA [a] = a.toNat := by unfold valA valA; omega
theorem hiA_top {l : List UInt64} {i : Nat} (h : l.length ≤ i) : hiA l i = 0 := by unfold hiA; rw [List.drop_of_length_le h]; rfl
theorem u64lt (a b : UInt64) : a < b ↔ a.toNat < b.toNat := UInt64.lt_iff_toNat_lt
theorem less_ret {a b : List UInt64} (ha : Dig a) (hb : Dig b) (i : Nat) (h : hiA a (i + 1) = hiA b (i + 1)) {x y : UInt64} (hx : x.toNat = (if i < a.length then (g64 a i).toNat else 0)) (hy : y.toNat = (if i < b.length then (g64 b i).toNat else 0)) (hne : x ≠ y) : decide (x < y) = decide (valA a < valA b) := by
 have hn : x.toNat ≠ y.toNat := fun e => hne (UInt64.toNat_inj.1 e)
 exact decide_eq_decide.2 ((u64lt x y).trans (less_of ha hb i h x.toNat y.toNat hx hy hn))
theorem less_go {a b : List UInt64} (i : Nat) (h : hiA a (i + 1) = hiA b (i + 1)) {x y : UInt64} (hx : x.toNat = (if i < a.length then (g64 a i).toNat else 0)) (hy : y.toNat = (if i < b.length then (g64 b i).toNat else 0)) (he : x = y) : hiA a i = hiA b i := by
 rw [hiA_step (l := a) i, hiA_step (l := b) i, h, ← hx, ← hy, he]
theorem less_same {a b : List UInt64} (h : hiA a 0 = hiA b 0) : ¬ valA a < valA b := by
 unfold hiA at h
 rw [List.drop_zero, List.drop_zero] at h
 omega
theorem sum_toNat {c a x : UInt64} (hc : c.toNat < 1099511627776) (ha : a.toNat < 65536) (hx : x.toNat < 274877906944) : (c + a * x).toNat = c.toNat + a.toNat * x.toNat := by
 have h1 : a.toNat * x.toNat ≤ 65535 * 274877906943 := Nat.mul_le_mul (by omega) (by omega)
 rw [UInt64.toNat_add, UInt64.toNat_mul, Nat.mod_eq_of_lt (show a.toNat * x.toNat < 2 ^ 64 by omega), Nat.mod_eq_of_lt (by omega)]
theorem rem_toNat (s : UInt64) : (s % (65536:UInt64)).toNat = s.toNat % 65536 := UInt64.toNat_mod s 65536
theorem quo_toNat (s : UInt64) : (s / (65536:UInt64)).toNat = s.toNat / 65536 := UInt64.toNat_div s 65536
def TmI (l o : List UInt64) (c x : UInt64) (j : Nat) : Prop := Dig o ∧ o.length = j ∧ valA o + c.toNat * 65536 ^ j = valA (l.take j) * x.toNat ∧ c.toNat < 1099511627776 ∧ (l.length ≤ j → j + dg c.toNat ≤ l.length + 4)
theorem TmI.zero (l : List UInt64) (x : UInt64) (h : 0 < l.length) : TmI l [] 0 x 0 := ⟨Dig.nil, rfl, by simp [valA], by decide, fun h2 => by omega⟩
theorem TmI.go {l o : List UInt64} {c x : UInt64} {j : Nat} (h : TmI l o c x j) (hj : j < l.length) (hd : Dig l) (hx : x.toNat < 274877906944) : TmI l (o ++ [(c + g64 l j * x) % 65536]) ((c + g64 l j * x) / 65536) x (j + 1) := by
  obtain ⟨h1, h2, h3, h4, h5⟩ := h
  have hs := sum_toNat h4 (hd.at hj) hx
  have hm : (g64 l j).toNat * x.toNat ≤ 65535 * 274877906943 := Nat.mul_le_mul (by have := hd.at hj; omega) (by omega)
  refine ⟨h1.app (by rw [rem_toNat]; omega), by simp [h2], ?_, by rw [quo_toNat, hs]; omega, fun _ => ?_⟩
  · rw [valA_app, h2, rem_toNat, quo_toNat, hs, valA_take hj, Nat.pow_succ, Nat.add_mul, Nat.mul_right_comm]
    exact times_step (x := 0) h3
  · have := dg_le ((c + g64 l j * x) / 65536).toNat
    omega
theorem TmI.on {l o : List UInt64} {c x : UInt64} {j : Nat} (h : TmI l o c x j) (hj : l.length ≤ j) (hc : 0 < c.toNat) : TmI l (o ++ [c % 65536]) (c / 65536) x (j + 1) ∧ dg (c / 65536).toNat < dg c.toNat := by
  obtain ⟨h1, h2, h3, h4, h5⟩ := h
  have hd : dg (c / 65536).toNat < dg c.toNat := by rw [quo_toNat]; exact dg_step hc (by omega)
  refine ⟨⟨h1.app (by rw [rem_toNat]; omega), by simp [h2], ?_, by rw [quo_toNat]; omega, fun _ => ?_⟩, hd⟩
  · have h6 := times_step (x := 0) (d := 0) h3
    rw [Nat.add_zero, Nat.zero_mul, Nat.add_zero] at h6
    rw [valA_app, h2, rem_toNat, quo_toNat, Nat.pow_succ, h6, List.take_of_length_le (by omega), List.take_of_length_le (by omega)]
  · have := h5 hj; omega
theorem TmI.fin {l o : List UInt64} {c x : UInt64} {j : Nat} (h : TmI l o c x j) (hj : l.length ≤ j) (hc : c.toNat = 0) : Dig o ∧ valA o = valA l * x.toNat := by
 obtain ⟨h1, h2, h3, h4, h5⟩ := h
 rw [hc, Nat.zero_mul, Nat.add_zero, List.take_of_length_le hj] at h3
 exact ⟨h1, h3⟩
theorem pos_of {c : UInt64} (h : (0:UInt64) < c) : 0 < c.toNat := by
 have := UInt64.lt_iff_toNat_lt.1 h
 exact this
theorem zero_of {c : UInt64} (h : ¬ (0:UInt64) < c) : c.toNat = 0 := by
 have h1 : ¬ (0:UInt64).toNat < c.toNat := fun e => h (UInt64.lt_iff_toNat_lt.2 e)
 have h2 : (0:UInt64).toNat = 0 := rfl
 omega
def mulH (x y : UInt64) : UInt64 :=
 (((x >>> (32:UInt64)) * (y >>> (32:UInt64))) + ((((x >>> (32:UInt64)) * (y &&& (4294967295:UInt64))) + (((x &&& (4294967295:UInt64)) * (y &&& (4294967295:UInt64))) >>> (32:UInt64))) >>> (32:UInt64))) + ((((((x >>> (32:UInt64)) * (y &&& (4294967295:UInt64))) + (((x &&& (4294967295:UInt64)) * (y &&& (4294967295:UInt64))) >>> (32:UInt64))) &&& (4294967295:UInt64)) + ((x &&& (4294967295:UInt64)) * (y >>> (32:UInt64)))) >>> (32:UInt64))
def fitC (p x : UInt64) : Bool := decide ((mulH x x * x + mulH (x * x) x) < p <<< 32) || (decide ((mulH x x * x + mulH (x * x) x) = p <<< 32) && decide ((x * x) * x = 0))
def fitI (p x : UInt64) : Bool := decide (mulH x x < p) || (decide (mulH x x = p) && decide (x * x = 0))
def bitA (x k : Nat) : UInt64 := UInt64.ofNat (topN x (k + 1)) ||| ((1:UInt64) <<< UInt64.ofNat k)
theorem rootC_step : ∀ i, i < 64 → ∀ k, k < 36 → ((fitC (UInt64.ofNat (prN i)) (bitA (xN i 3) k) = true → bitA (xN i 3) k = UInt64.ofNat (topN (xN i 3) k)) ∧ (fitC (UInt64.ofNat (prN i)) (bitA (xN i 3) k) = false → UInt64.ofNat (topN (xN i 3) (k + 1)) = UInt64.ofNat (topN (xN i 3) k))) := by decide +kernel
theorem rootI_step : ∀ i, i < 8 → ∀ k, k < 36 → ((fitI (UInt64.ofNat (prN i)) (bitA (xN i 2) k) = true → bitA (xN i 2) k = UInt64.ofNat (topN (xN i 2) k)) ∧ (fitI (UInt64.ofNat (prN i)) (bitA (xN i 2) k) = false → UInt64.ofNat (topN (xN i 2) (k + 1)) = UInt64.ofNat (topN (xN i 2) k))) := by decide +kernel
theorem rootC_0 : ∀ i, i < 64 → UInt64.ofNat (topN (xN i 3) 36) = 0 ∧ (UInt64.ofNat (topN (xN i 3) 0)).toUInt32 = g32 constL i := by decide +kernel
theorem rootI_0 : ∀ i, i < 8 → UInt64.ofNat (topN (xN i 2) 36) = 0 ∧ (UInt64.ofNat (topN (xN i 2) 0)).toUInt32 = g32 initL i := by decide +kernel
theorem BU (N : Nat) : UInt64.ofNat N + 1 = UInt64.ofNat (N + 1) := by rw [UInt64.ofNat_add]; rfl
theorem ofN_nat {N : Nat} (h : N < 18446744073709551616) : (UInt64.ofNat N).toNat = N := by rw [UInt64.toNat_ofNat', Nat.mod_eq_of_lt (by omega)]
theorem ofN_lt {a b : Nat} (ha : a < 1000) (hb : b < 1000) : UInt64.ofNat a < UInt64.ofNat b ↔ a < b := by rw [UInt64.lt_iff_toNat_lt, ofN_nat (by omega), ofN_nat (by omega)]
theorem ofN_ne0 {a : Nat} (h : 0 < a) (ha : a < 1000) : UInt64.ofNat a ≠ 0 := fun e => by
 have := congrArg UInt64.toNat e
 rw [ofN_nat (by omega)] at this
 have h0 : (0:UInt64).toNat = 0 := rfl
 omega
theorem noDiv_go {N D : Nat} (hN : N < 1000) (hD : D < 1000) (h2 : 2 ≤ D) {b : Bool} (hb : b = noDiv N D) : (b && decide (UInt64.ofNat N % UInt64.ofNat D ≠ 0)) = noDiv N (D + 1) := by
 rw [noDiv_succ N D h2, hb]
 congr 1
 exact decide_eq_decide.2 (not_congr (ofN_mod (by omega) (by omega)))
theorem any_isP {fl : List UInt64} {nv : UInt64} {N : Nat} (hf : fl = fnd N) (hn : nv = UInt64.ofNat N) (h2 : 2 ≤ N) (h : N < 312) : fl.any (fun p => decide (nv % p = 0)) = !isP N := by
 rw [hf, hn]; exact fnd_any N h h2
theorem fnd_ne0 {fl : List UInt64} {N : Nat} (hf : fl = fnd N) (h : N < 312) {k : Nat} (hk : k < fl.length) : g64 fl k ≠ 0 := by
 have h1 := List.all_eq_true.1 (fnd_pos N h) (g64 fl k) (by rw [← hf, g64_eq hk]; exact List.getElem_mem hk)
 exact of_decide_eq_true h1
theorem shl32 {W : Nat} (h : W < 20) : ((UInt64.ofNat W + 1) <<< (32:UInt64)).toNat = (W + 1) * 4294967296 := by
 have : W = 0 ∨ W = 1 ∨ W = 2 ∨ W = 3 ∨ W = 4 ∨ W = 5 ∨ W = 6 ∨ W = 7 ∨ W = 8 ∨ W = 9 ∨ W = 10 ∨ W = 11 ∨ W = 12 ∨ W = 13 ∨ W = 14 ∨ W = 15 ∨ W = 16 ∨ W = 17 ∨ W = 18 ∨ W = 19 := by omega
 rcases this with rfl | rfl | rfl | rfl | rfl | rfl | rfl | rfl | rfl | rfl | rfl | rfl | rfl | rfl | rfl | rfl | rfl | rfl | rfl | rfl <;> rfl
def fx3 (x p : UInt64) : Bool := decide (x.toNat ^ 3 ≤ p.toNat * 79228162514264337593543950336)
def fx2 (x p : UInt64) : Bool := decide (x.toNat ^ 2 ≤ p.toNat * 18446744073709551616)
def rX (n : UInt32) (i pw : Nat) : UInt64 := (UInt64.ofNat (wholeN i pw) <<< (32:UInt64)) ||| n.toUInt64
theorem whole3 {i W : Nat} (hi : i < 64) (hW : W < 19) : fx3 ((UInt64.ofNat W + 1) <<< (32:UInt64)) (UInt64.ofNat (prN i)) = decide (W < wholeN i 3) := by
 unfold fx3
 rw [shl32 (by omega), ofN_nat (show prN i < _ by have := pr_lt i hi; omega)]
 exact decide_eq_decide.2 (rB_iff i hi W hW).1
theorem whole2 {i W : Nat} (hi : i < 64) (hW : W < 19) : fx2 ((UInt64.ofNat W + 1) <<< (32:UInt64)) (UInt64.ofNat (prN i)) = decide (W < wholeN i 2) := by
 unfold fx2
 rw [shl32 (by omega), ofN_nat (show prN i < _ by have := pr_lt i hi; omega)]
 exact decide_eq_decide.2 (rB_iff i hi W hW).2
theorem rX_lt (n : UInt32) {W : Nat} (h : W < 20) : ((UInt64.ofNat W <<< (32:UInt64)) ||| n.toUInt64).toNat < 137438953472 := by
  rw [UInt64.toNat_or]
  refine Nat.or_lt_two_pow (n := 37) ?_ ?_
  · have : W = 0 ∨ W = 1 ∨ W = 2 ∨ W = 3 ∨ W = 4 ∨ W = 5 ∨ W = 6 ∨ W = 7 ∨ W = 8 ∨ W = 9 ∨ W = 10 ∨ W = 11 ∨ W = 12 ∨ W = 13 ∨ W = 14 ∨ W = 15 ∨ W = 16 ∨ W = 17 ∨ W = 18 ∨ W = 19 := by omega
    rcases this with rfl | rfl | rfl | rfl | rfl | rfl | rfl | rfl | rfl | rfl | rfl | rfl | rfl | rfl | rfl | rfl | rfl | rfl | rfl | rfl <;> decide
  · have := n.toNat_lt
    rw [UInt32.toNat_toUInt64]; omega
theorem succ_toNat {x : UInt64} (h : x.toNat < 137438953472) : (x + 1).toNat = x.toNat + 1 := by
 have h1 : (1:UInt64).toNat = 1 := rfl
 rw [UInt64.toNat_add, h1, Nat.mod_eq_of_lt (by omega)]
theorem root_consts : ∀ i, i < 64 → (fx3 (rX (g32 constL i) i 3) (UInt64.ofNat (prN i)) && !fx3 (rX (g32 constL i) i 3 + 1) (UInt64.ofNat (prN i))) = true := by decide +kernel
theorem root_inits : ∀ i, i < 8 → (fx2 (rX (g32 initL i) i 2) (UInt64.ofNat (prN i)) && !fx2 (rX (g32 initL i) i 2 + 1) (UInt64.ofNat (prN i))) = true := by decide +kernel
end Go.Proofs.YthbmeklfmamkeaaDoor
namespace Go.Sx
open Go Go.RowKit
set_option linter.unusedVariables false
set_option linter.unusedSimpArgs false
section
variable {P : Program}
def PartV (P : Program) (t : TypeId) (cs : List Value) (off : Nat) (u : Value) : Prop := ∀ w, (part t cs.toArray off).run P w = .ok u w
theorem PartV.one {t : TypeId} {cs : List Value} {off : Nat} {v : Value} (hA : ∀ w, (isAgg t).run P w = .ok false w) (h : Seg cs off [v]) : PartV P t cs off v := fun w => by
 have h0 : cs[off]? = some v := by simpa using h 0 v rfl
 simp [part, hA w, h0]
theorem PartV.agg {t : TypeId} {cs vs : List Value} {off n : Nat} (hA : ∀ w, (isAgg t).run P w = .ok true w) (hS : ∀ w, (sizeOf t).run P w = .ok n w) (h : (cs.drop off).take n = vs) : PartV P t cs off (.agg vs.toArray) := fun w => by
 simp [part, hA w, hS w, ← h]
def EqV (P : Program) (d : Nat) (t : TypeId) (u v : Value) (b : Bool) : Prop := ∀ w, (Op.equalIn d t u v).run P w = .ok b w
theorem EqV.u64 {d : Nat} {t : TypeId} (he : P.underlying t = some (.int .u64)) (a b : UInt64) : EqV P (d + 1) t (U64 a) (U64 b) (decide (a = b)) := fun w => by
 have pe := run_equalIn_int (P := P) w d t .u64 .u64 a.toNat b.toNat he
 have e1 : ((a.toNat : Int) == (b.toNat : Int)) = decide (a = b) := by rw [Bool.eq_iff_iff]; simp [← UInt64.toNat_inj]; omega
 rw [e1] at pe
 simpa using pe
theorem EqV.u8 {d : Nat} {t : TypeId} (he : P.underlying t = some (.int .u8)) (a b : UInt8) : EqV P (d + 1) t (U8 a) (U8 b) (decide (a = b)) := fun w => by
 have pe := run_equalIn_int (P := P) w d t .u8 .u8 a.toNat b.toNat he
 have e1 : ((a.toNat : Int) == (b.toNat : Int)) = decide (a = b) := by rw [Bool.eq_iff_iff]; simp [← UInt8.toNat_inj]; omega
 rw [e1] at pe
 simpa using pe
theorem EqV.i64 {d : Nat} {t : TypeId} (he : P.underlying t = some (.int .i64)) (a b : Int) : EqV P (d + 1) t (I64 a) (I64 b) (decide (a = b)) := fun w => by
 have pe := run_equalIn_int (P := P) w d t .i64 .i64 a b he
 have e1 : (a == b) = decide (a = b) := rfl
 rw [e1] at pe
 simpa using pe
theorem EqV.bool {d : Nat} {t : TypeId} (he : P.underlying t = some .bool) (a b : Bool) : EqV P (d + 1) t (.bool a) (.bool b) (a == b) := fun w => by
 simp [Op.equalIn, run_underlying he]
inductive EqRs (P : Program) (d : Nat) (xs ys : List Value) : List (TypeId × Nat) → Bool → Prop
 | last (t o : Nat) (u v : Value) (b : Bool) : PartV P t xs o u → PartV P t ys o v → EqV P d t u v b → EqRs P d xs ys [(t, o)] b
 | cons (t o : Nat) (u v : Value) (b : Bool) (r : List (TypeId × Nat)) (c : Bool) : PartV P t xs o u → PartV P t ys o v → EqV P d t u v b → EqRs P d xs ys r c → EqRs P d xs ys ((t, o) :: r) (b && c)
theorem EqRs.run {d : Nat} {xs ys : List Value} {r : List (TypeId × Nat)} {b : Bool} (h : EqRs P d xs ys r b) : ∀ (fs : List Field), fs.map (fun f => (decide (f.name ≠ "_"), f.type, f.offset)) = r.map (fun x => (true, x.1, x.2)) →
    ∀ w, (Op.eqFields d xs.toArray ys.toArray fs).run P w = .ok b w := by
  induction h with
  | last t o u v b hx hy he =>
    intro fs hf w
    obtain ⟨f, rfl⟩ : ∃ f, fs = [f] := by
      cases fs with
      | nil => simp at hf
      | cons f r => cases r with
        | nil => exact ⟨f, rfl⟩
        | cons g r => simp at hf
    · simp only [List.map_cons, List.map_nil, List.cons.injEq, Prod.mk.injEq, and_true, decide_eq_true_eq] at hf
      obtain ⟨h1, h2, h3⟩ := hf
      rw [Op.eqFields, if_pos h1, h2, h3]
      simp only [Sem.run_bind, hx w, hy w, he w, Result.andThen_ok, Op.eqFields]
      cases b <;> simp
  | cons t o u v b r c hx hy he hr ih =>
    intro fs hf w
    cases fs with
    | nil => simp at hf
    | cons f fs =>
      simp only [List.map_cons, List.cons.injEq, Prod.mk.injEq, decide_eq_true_eq] at hf
      obtain ⟨⟨h1, h2, h3⟩, h4⟩ := hf
      rw [Op.eqFields, if_pos h1, h2, h3]
      simp only [Sem.run_bind, hx w, hy w, he w, Result.andThen_ok]
      cases b with
      | false => simp
      | true => simpa using ih fs h4 w
theorem dt_dt {cs : List Value} {a n b m o : Nat} (hb : b + m ≤ n) (ho : o = a + b) : ((((cs.drop a).take n).drop b).take m) = (cs.drop o).take m := by
 subst ho
 rw [List.drop_take, List.take_take, List.drop_drop, Nat.min_eq_left (by omega)]
theorem TD.sub {H : Type} {enc : TypeId × Value → H} {w : World} {base : Nat} {spare : Nat → Bool} {held sz : Bool} {t : TypeId} {cs : List Value} {a n b m o : Nat} (h : TD enc P w base spare held sz t ((((cs.drop a).take n).drop b).take m)) (hb : b + m ≤ n) (ho : o = a + b) :
  TD enc P w base spare held sz t ((cs.drop o).take m) := by rw [← dt_dt hb ho]; exact h
theorem Seg.split {cs p q vs : List Value} {off : Nat} (h : cs = p ++ (vs ++ q)) (hn : p.length = off) : Seg cs off vs := Seg.sub (p := p) (q := q) (o := 0) hn (by omega) (by rw [h, List.append_assoc]; exact A5 _)
end
section
variable {C : Cx} {F : Frm} {L : List Ent}
end
end Go.Sx
namespace Go.Sx
open Go Go.RowKit
set_option linter.unusedVariables false
set_option linter.unusedSimpArgs false
def errV (T e : Nat) : Value := if e = 0 then .nilIface else .iface T (I64 e)
theorem errV_pos {T e : Nat} (h : e ≠ 0) : errV T e = .iface T (I64 e) := if_neg h
section
variable {P : Program} {w : World}
end
end Go.Sx
namespace Go.Proofs.YthbmeklfmamkeaaDoor
open Go Go.Sx
set_option linter.unusedVariables false
set_option linter.unusedSimpArgs false
set_option maxRecDepth 100000
attribute [local irreducible] mid zr8 zr32 rotr wordL spreadL comprL cpN adN spN constL initL padL stN outN sumG fndN cnt prN isP noDiv valA mulH fitC fitI topN xN wholeN fx3 fx2 dg
theorem mul64_c (x y : UInt64) (w : World) : Calls Tryd.prog 13 #[U64 x, U64 y] w (Post w [] (fun v L => v = .tuple #[U64 (mulH x y), U64 (x * y)] ∧ L = [])) := by
 refine enter w [] 51 [] [U64 x, U64 y] Tryd.func13 rfl rfl (by simp) (BC (by simp) (by simp) (by simp)) ?_
 show JC _ _ _ [(0, U64 x), (1, U64 y)] _
 refine AH (AC (AA _ (AF rfl) rfl ?_))
 refine AA _ (AF rfl) rfl ?_
 refine AI (AE (AH (AC (AA _ (AB rfl) rfl ?_))))
 refine AA (U64 (x &&& (4294967295:UInt64))) (AG rfl rfl fun _ => bin_and_u64 x (4294967295:UInt64)) rfl ?_
 refine AA _ (AF rfl) rfl ?_
 refine AI (AE (AH (AC (AA _ (AB rfl) rfl ?_))))
 refine AA (U64 (x >>> (32:UInt64))) (AG rfl rfl fun _ => CK x _ _ 32 (by decide) rfl) rfl ?_
 refine AA _ (AF rfl) rfl ?_
 refine AI (AE (AH (AC (AA _ (AB rfl) rfl ?_))))
 refine AA (U64 (y &&& (4294967295:UInt64))) (AG rfl rfl fun _ => bin_and_u64 y (4294967295:UInt64)) rfl ?_
 refine AA _ (AF rfl) rfl ?_
 refine AI (AE (AH (AC (AA _ (AB rfl) rfl ?_))))
 refine AA (U64 (y >>> (32:UInt64))) (AG rfl rfl fun _ => CK y _ _ 32 (by decide) rfl) rfl ?_
 refine AA _ (AF rfl) rfl ?_
 refine AI (AE (AH (AC (AA _ (AB rfl) rfl ?_))))
 refine AA _ (AB rfl) rfl ?_
 refine AA (U64 ((x &&& (4294967295:UInt64)) * (y &&& (4294967295:UInt64)))) (AG rfl rfl fun _ => CC (x &&& (4294967295:UInt64)) (y &&& (4294967295:UInt64))) rfl ?_
 refine AA _ (AF rfl) rfl ?_
 refine AI (AE (AH (AC (AA _ (AB rfl) rfl ?_))))
 refine AA _ (AB rfl) rfl ?_
 refine AA (U64 ((x >>> (32:UInt64)) * (y &&& (4294967295:UInt64)))) (AG rfl rfl fun _ => CC (x >>> (32:UInt64)) (y &&& (4294967295:UInt64))) rfl ?_
 refine AA _ (AB rfl) rfl ?_
 refine AA (U64 (((x &&& (4294967295:UInt64)) * (y &&& (4294967295:UInt64))) >>> (32:UInt64))) (AG rfl rfl fun _ => CK ((x &&& (4294967295:UInt64)) * (y &&& (4294967295:UInt64))) _ _ 32 (by decide) rfl) rfl ?_
 refine AA (U64 (((x >>> (32:UInt64)) * (y &&& (4294967295:UInt64))) + (((x &&& (4294967295:UInt64)) * (y &&& (4294967295:UInt64))) >>> (32:UInt64)))) (AG rfl rfl fun _ => BG ((x >>> (32:UInt64)) * (y &&& (4294967295:UInt64))) (((x &&& (4294967295:UInt64)) * (y &&& (4294967295:UInt64))) >>> (32:UInt64))) rfl ?_
 refine AA _ (AF rfl) rfl ?_
 refine AI (AE (AH (AC (AA _ (AB rfl) rfl ?_))))
 refine AA (U64 ((((x >>> (32:UInt64)) * (y &&& (4294967295:UInt64))) + (((x &&& (4294967295:UInt64)) * (y &&& (4294967295:UInt64))) >>> (32:UInt64))) &&& (4294967295:UInt64))) (AG rfl rfl fun _ => bin_and_u64 (((x >>> (32:UInt64)) * (y &&& (4294967295:UInt64))) + (((x &&& (4294967295:UInt64)) * (y &&& (4294967295:UInt64))) >>> (32:UInt64))) (4294967295:UInt64)) rfl ?_
 refine AA _ (AF rfl) rfl ?_
 refine AI (AE (AH (AC (AA _ (AB rfl) rfl ?_))))
 refine AA (U64 ((((x >>> (32:UInt64)) * (y &&& (4294967295:UInt64))) + (((x &&& (4294967295:UInt64)) * (y &&& (4294967295:UInt64))) >>> (32:UInt64))) >>> (32:UInt64))) (AG rfl rfl fun _ => CK (((x >>> (32:UInt64)) * (y &&& (4294967295:UInt64))) + (((x &&& (4294967295:UInt64)) * (y &&& (4294967295:UInt64))) >>> (32:UInt64))) _ _ 32 (by decide) rfl) rfl ?_
 refine AA _ (AF rfl) rfl ?_
 refine AI (AE (AH (AC (AA _ (AB rfl) rfl ?_))))
 refine AA _ (AB rfl) rfl ?_
 refine AA _ (AB rfl) rfl ?_
 refine AA (U64 ((x &&& (4294967295:UInt64)) * (y >>> (32:UInt64)))) (AG rfl rfl fun _ => CC (x &&& (4294967295:UInt64)) (y >>> (32:UInt64))) rfl ?_
 refine AA (U64 (((((x >>> (32:UInt64)) * (y &&& (4294967295:UInt64))) + (((x &&& (4294967295:UInt64)) * (y &&& (4294967295:UInt64))) >>> (32:UInt64))) &&& (4294967295:UInt64)) + ((x &&& (4294967295:UInt64)) * (y >>> (32:UInt64))))) (AG rfl rfl fun _ => BG ((((x >>> (32:UInt64)) * (y &&& (4294967295:UInt64))) + (((x &&& (4294967295:UInt64)) * (y &&& (4294967295:UInt64))) >>> (32:UInt64))) &&& (4294967295:UInt64)) ((x &&& (4294967295:UInt64)) * (y >>> (32:UInt64)))) rfl ?_
 refine AA _ (AF rfl) rfl ?_
 refine AI (AE (AH (AC (AA _ (AB rfl) rfl ?_))))
 refine AA _ (AB rfl) rfl ?_
 refine AA (U64 ((x >>> (32:UInt64)) * (y >>> (32:UInt64)))) (AG rfl rfl fun _ => CC (x >>> (32:UInt64)) (y >>> (32:UInt64))) rfl ?_
 refine AA _ (AB rfl) rfl ?_
 refine AA (U64 (((x >>> (32:UInt64)) * (y >>> (32:UInt64))) + ((((x >>> (32:UInt64)) * (y &&& (4294967295:UInt64))) + (((x &&& (4294967295:UInt64)) * (y &&& (4294967295:UInt64))) >>> (32:UInt64))) >>> (32:UInt64)))) (AG rfl rfl fun _ => BG ((x >>> (32:UInt64)) * (y >>> (32:UInt64))) ((((x >>> (32:UInt64)) * (y &&& (4294967295:UInt64))) + (((x &&& (4294967295:UInt64)) * (y &&& (4294967295:UInt64))) >>> (32:UInt64))) >>> (32:UInt64))) rfl ?_
 refine AA _ (AB rfl) rfl ?_
 refine AA (U64 ((((((x >>> (32:UInt64)) * (y &&& (4294967295:UInt64))) + (((x &&& (4294967295:UInt64)) * (y &&& (4294967295:UInt64))) >>> (32:UInt64))) &&& (4294967295:UInt64)) + ((x &&& (4294967295:UInt64)) * (y >>> (32:UInt64)))) >>> (32:UInt64))) (AG rfl rfl fun _ => CK (((((x >>> (32:UInt64)) * (y &&& (4294967295:UInt64))) + (((x &&& (4294967295:UInt64)) * (y &&& (4294967295:UInt64))) >>> (32:UInt64))) &&& (4294967295:UInt64)) + ((x &&& (4294967295:UInt64)) * (y >>> (32:UInt64)))) _ _ 32 (by decide) rfl) rfl ?_
 refine AA (U64 ((((x >>> (32:UInt64)) * (y >>> (32:UInt64))) + ((((x >>> (32:UInt64)) * (y &&& (4294967295:UInt64))) + (((x &&& (4294967295:UInt64)) * (y &&& (4294967295:UInt64))) >>> (32:UInt64))) >>> (32:UInt64))) + ((((((x >>> (32:UInt64)) * (y &&& (4294967295:UInt64))) + (((x &&& (4294967295:UInt64)) * (y &&& (4294967295:UInt64))) >>> (32:UInt64))) &&& (4294967295:UInt64)) + ((x &&& (4294967295:UInt64)) * (y >>> (32:UInt64)))) >>> (32:UInt64)))) (AG rfl rfl fun _ => BG (((x >>> (32:UInt64)) * (y >>> (32:UInt64))) + ((((x >>> (32:UInt64)) * (y &&& (4294967295:UInt64))) + (((x &&& (4294967295:UInt64)) * (y &&& (4294967295:UInt64))) >>> (32:UInt64))) >>> (32:UInt64))) ((((((x >>> (32:UInt64)) * (y &&& (4294967295:UInt64))) + (((x &&& (4294967295:UInt64)) * (y &&& (4294967295:UInt64))) >>> (32:UInt64))) &&& (4294967295:UInt64)) + ((x &&& (4294967295:UInt64)) * (y >>> (32:UInt64)))) >>> (32:UInt64))) rfl ?_
 refine AA _ (AF rfl) rfl ?_
 refine AI (AE (AH (AC (AA _ (AB rfl) rfl ?_))))
 refine AA _ (AB rfl) rfl ?_
 refine AA (U64 (x * y)) (AG rfl rfl fun _ => CC x y) rfl ?_
 refine AA _ (AF rfl) rfl ?_
 refine AI (AE (BM (BN (.tuple #[U64 ((((x >>> (32:UInt64)) * (y >>> (32:UInt64))) + ((((x >>> (32:UInt64)) * (y &&& (4294967295:UInt64))) + (((x &&& (4294967295:UInt64)) * (y &&& (4294967295:UInt64))) >>> (32:UInt64))) >>> (32:UInt64))) + ((((((x >>> (32:UInt64)) * (y &&& (4294967295:UInt64))) + (((x &&& (4294967295:UInt64)) * (y &&& (4294967295:UInt64))) >>> (32:UInt64))) &&& (4294967295:UInt64)) + ((x &&& (4294967295:UInt64)) * (y >>> (32:UInt64)))) >>> (32:UInt64))), U64 (x * y)]) (res2 Tryd.results13 (BI rfl) (BI rfl)) fun w1 hw1 => ?_)))
 exact ⟨_, [], rfl, ⟨by unfold mulH; rfl, rfl⟩, hw1.sub (by simp) (by simp)⟩
theorem fitC_c (ob : Nat) (p : UInt64) (x : UInt64)  (w : World) (hO : RdA w ob 0 [U64 p])  : Calls Tryd.prog 12 #[U64 x, Ptr ob 0] w (Post w [] (fun v L => v = .bool (fitC p x) ∧ L = [])) := by
 refine enter w [] 40 [] [U64 x, Ptr ob 0] Tryd.func12 rfl rfl (by simp) (BC (by simp) (by simp) (by simp)) ?_
 show JC _ _ _ [(0, U64 x), (1, Ptr ob 0)] _
 refine AH (AC (AA _ (AF rfl) rfl ?_))
 refine AI (AE (AH (AC (AA _ (AB rfl) rfl ?_))))
 refine AA _ (AB rfl) rfl ?_
 refine AO (AR 13 [U64 x, U64 x] (.tuple #[U64 (mulH x x), U64 (x * x)]) (A2 [U64 x, U64 x] Tryd.call13 rfl) (fun w1 hw1 => mul64_c x x w1 )) rfl ?_
 rintro v1 L1 ⟨rfl, rfl⟩
 show JL _ _ _ _ ((12, .tuple #[U64 (mulH x x), U64 (x * x)]) :: _) []
 refine AA _ (AB rfl) rfl ?_
 refine AA _ (BQ rfl rfl) rfl ?_
 refine AA _ (BQ rfl rfl) rfl ?_
 refine AA _ (AF rfl) rfl ?_
 refine AA _ (AF rfl) rfl ?_
 refine AI (AE (AH (AC (AA _ (AB rfl) rfl ?_))))
 refine AA _ (AB rfl) rfl ?_
 refine AO (AR 13 [U64 (x * x), U64 x] (.tuple #[U64 (mulH (x * x) x), U64 ((x * x) * x)]) (A2 [U64 (x * x), U64 x] Tryd.call13 rfl) (fun w1 hw1 => mul64_c (x * x) x w1 )) rfl ?_
 rintro v1 L1 ⟨rfl, rfl⟩
 show JL _ _ _ _ ((18, .tuple #[U64 (mulH (x * x) x), U64 ((x * x) * x)]) :: _) []
 refine AA _ (AB rfl) rfl ?_
 refine AA _ (BQ rfl rfl) rfl ?_
 refine AA _ (BQ rfl rfl) rfl ?_
 refine AA _ (AF rfl) rfl ?_
 refine AA _ (AF rfl) rfl ?_
 refine AI (AE (AH (AC (AA _ (AB rfl) rfl ?_))))
 refine AA _ (AB rfl) rfl ?_
 refine AA (U64 ((mulH x x) * x)) (AG rfl rfl fun _ => CC (mulH x x) x) rfl ?_
 refine AA _ (AB rfl) rfl ?_
 refine AA (U64 (((mulH x x) * x) + (mulH (x * x) x))) (AG rfl rfl fun _ => BG ((mulH x x) * x) (mulH (x * x) x)) rfl ?_
 refine AA _ (AF rfl) rfl ?_
 refine AI (AE (AH (AC (AA _ (AB rfl) rfl ?_))))
 refine AA (U64 p) (AW rfl (A7 BE (BO (hO.mem (by simp)) (Seg.head) (by omega)))) rfl ?_
 refine AA (U64 (p <<< (32:UInt64))) (AG rfl rfl fun _ => CB p _ _ 32 (by decide) rfl) rfl ?_
 refine AA (.bool (decide ((((mulH x x) * x) + (mulH (x * x) x)) < (p <<< (32:UInt64))))) (AG rfl rfl fun _ => CM (((mulH x x) * x) + (mulH (x * x) x)) (p <<< (32:UInt64))) rfl ?_
 refine AA _ (AB rfl) rfl ?_
 rcases Bool.eq_false_or_eq_true (decide ((((mulH x x) * x) + (mulH (x * x) x)) < (p <<< (32:UInt64)))) with hb1 | hb1
 ·
  have hp1 : (((mulH x x) * x) + (mulH (x * x) x)) < (p <<< (32:UInt64)) := of_decide_eq_true hb1
  refine AL 4 30 false _ rfl rfl hb1 rfl ?_
  refine AL 4 30 false _ rfl rfl hb1 rfl ?_
  refine AL 4 30 false _ rfl rfl hb1 rfl ?_
  refine AL 4 30 false _ rfl rfl hb1 rfl ?_
  refine AL 4 30 false _ rfl rfl hb1 rfl ?_
  refine BJ 9 35 true rfl rfl rfl ?_
  refine BJ 9 35 true rfl rfl rfl ?_
  refine AL 4 30 false _ rfl rfl hb1 rfl ?_
  refine AA _ (BH _ rfl hb1 rfl) rfl ?_
  refine AA _ (AF rfl) rfl ?_
  refine AI (AE (BM (BN (.bool true) (res1 Tryd.results12 (BI rfl)) fun w1 hw1 => ?_)))
  refine ⟨_, [], rfl, ⟨congrArg Value.bool ?_, rfl⟩, hw1.sub (by simp) (by simp)⟩
  unfold fitC
  simp [*]
 ·
  have hp1 : ¬ ((((mulH x x) * x) + (mulH (x * x) x)) < (p <<< (32:UInt64))) := of_decide_eq_false hb1
  refine AK 4 30 false _ _ rfl rfl hb1 (AB rfl) rfl ?_
  refine AK 4 30 false _ (U64 p) rfl rfl hb1 (AW rfl (A7 BE (BO (hO.mem (by simp)) (Seg.head) (by omega)))) rfl ?_
  refine AK 4 30 false _ (U64 (p <<< (32:UInt64))) rfl rfl hb1 (AG rfl rfl fun _ => CB p _ _ 32 (by decide) rfl) rfl ?_
  refine AK 4 30 false _ (.bool (decide ((((mulH x x) * x) + (mulH (x * x) x)) = (p <<< (32:UInt64))))) rfl rfl hb1 (AG rfl rfl fun _ => bin_eql_u64 (((mulH x x) * x) + (mulH (x * x) x)) (p <<< (32:UInt64))) rfl ?_
  refine AK 4 30 false _ _ rfl rfl hb1 (AB rfl) rfl ?_
  rcases Bool.eq_false_or_eq_true (decide ((((mulH x x) * x) + (mulH (x * x) x)) = (p <<< (32:UInt64)))) with hb2 | hb2
  ·
   have hp2 : (((mulH x x) * x) + (mulH (x * x) x)) = (p <<< (32:UInt64)) := of_decide_eq_true hb2
   refine AK 9 35 true _ _ rfl rfl hb2 (AB rfl) rfl ?_
   refine AK 9 35 true _ (.bool (decide (((x * x) * x) = (0:UInt64)))) rfl rfl hb2 (AG rfl rfl fun _ => bin_eql_u64 ((x * x) * x) (0:UInt64)) rfl ?_
   refine AK 4 30 false _ _ rfl rfl hb1 (BH _ rfl hb2 rfl) rfl ?_
   refine AA _ (BB _ rfl hb1 rfl) rfl ?_
   refine AA _ (AF rfl) rfl ?_
   refine AI (AE (BM (BN (.bool (decide (((x * x) * x) = (0:UInt64)))) (res1 Tryd.results12 (BI rfl)) fun w1 hw1 => ?_)))
   refine ⟨_, [], rfl, ⟨congrArg Value.bool ?_, rfl⟩, hw1.sub (by simp) (by simp)⟩
   unfold fitC
   simp [*]
  ·
   have hp2 : ¬ ((((mulH x x) * x) + (mulH (x * x) x)) = (p <<< (32:UInt64))) := of_decide_eq_false hb2
   refine AL 9 35 true _ rfl rfl hb2 rfl ?_
   refine AL 9 35 true _ rfl rfl hb2 rfl ?_
   refine AK 4 30 false _ _ rfl rfl hb1 (BB _ rfl hb2 rfl) rfl ?_
   refine AA _ (BB _ rfl hb1 rfl) rfl ?_
   refine AA _ (AF rfl) rfl ?_
   refine AI (AE (BM (BN (.bool false) (res1 Tryd.results12 (BI rfl)) fun w1 hw1 => ?_)))
   refine ⟨_, [], rfl, ⟨congrArg Value.bool ?_, rfl⟩, hw1.sub (by simp) (by simp)⟩
   unfold fitC
   simp [*]
theorem fitI_c (ob : Nat) (p : UInt64) (x : UInt64)  (w : World) (hO : RdA w ob 0 [U64 p])  : Calls Tryd.prog 14 #[U64 x, Ptr ob 0] w (Post w [] (fun v L => v = .bool (fitI p x) ∧ L = [])) := by
 refine enter w [] 24 [] [U64 x, Ptr ob 0] Tryd.func14 rfl rfl (by simp) (BC (by simp) (by simp) (by simp)) ?_
 show JC _ _ _ [(0, U64 x), (1, Ptr ob 0)] _
 refine AH (AC (AA _ (AF rfl) rfl ?_))
 refine AI (AE (AH (AC (AA _ (AB rfl) rfl ?_))))
 refine AA _ (AB rfl) rfl ?_
 refine AO (AR 13 [U64 x, U64 x] (.tuple #[U64 (mulH x x), U64 (x * x)]) (A2 [U64 x, U64 x] Tryd.call13 rfl) (fun w1 hw1 => mul64_c x x w1 )) rfl ?_
 rintro v1 L1 ⟨rfl, rfl⟩
 show JL _ _ _ _ ((9, .tuple #[U64 (mulH x x), U64 (x * x)]) :: _) []
 refine AA _ (AB rfl) rfl ?_
 refine AA _ (BQ rfl rfl) rfl ?_
 refine AA _ (BQ rfl rfl) rfl ?_
 refine AA _ (AF rfl) rfl ?_
 refine AA _ (AF rfl) rfl ?_
 refine AI (AE (AH (AC (AA _ (AB rfl) rfl ?_))))
 refine AA (U64 p) (AW rfl (A7 BE (BO (hO.mem (by simp)) (Seg.head) (by omega)))) rfl ?_
 refine AA (.bool (decide ((mulH x x) < p))) (AG rfl rfl fun _ => CM (mulH x x) p) rfl ?_
 refine AA _ (AB rfl) rfl ?_
 rcases Bool.eq_false_or_eq_true (decide ((mulH x x) < p)) with hb1 | hb1
 ·
  have hp1 : (mulH x x) < p := of_decide_eq_true hb1
  refine AL 3 15 false _ rfl rfl hb1 rfl ?_
  refine AL 3 15 false _ rfl rfl hb1 rfl ?_
  refine AL 3 15 false _ rfl rfl hb1 rfl ?_
  refine AL 3 15 false _ rfl rfl hb1 rfl ?_
  refine BJ 7 19 true rfl rfl rfl ?_
  refine BJ 7 19 true rfl rfl rfl ?_
  refine AL 3 15 false _ rfl rfl hb1 rfl ?_
  refine AA _ (BH _ rfl hb1 rfl) rfl ?_
  refine AA _ (AF rfl) rfl ?_
  refine AI (AE (BM (BN (.bool true) (res1 Tryd.results14 (BI rfl)) fun w1 hw1 => ?_)))
  refine ⟨_, [], rfl, ⟨congrArg Value.bool ?_, rfl⟩, hw1.sub (by simp) (by simp)⟩
  unfold fitI
  simp [*]
 ·
  have hp1 : ¬ ((mulH x x) < p) := of_decide_eq_false hb1
  refine AK 3 15 false _ _ rfl rfl hb1 (AB rfl) rfl ?_
  refine AK 3 15 false _ (U64 p) rfl rfl hb1 (AW rfl (A7 BE (BO (hO.mem (by simp)) (Seg.head) (by omega)))) rfl ?_
  refine AK 3 15 false _ (.bool (decide ((mulH x x) = p))) rfl rfl hb1 (AG rfl rfl fun _ => bin_eql_u64 (mulH x x) p) rfl ?_
  refine AK 3 15 false _ _ rfl rfl hb1 (AB rfl) rfl ?_
  rcases Bool.eq_false_or_eq_true (decide ((mulH x x) = p)) with hb2 | hb2
  ·
   have hp2 : (mulH x x) = p := of_decide_eq_true hb2
   refine AK 7 19 true _ _ rfl rfl hb2 (AB rfl) rfl ?_
   refine AK 7 19 true _ (.bool (decide ((x * x) = (0:UInt64)))) rfl rfl hb2 (AG rfl rfl fun _ => bin_eql_u64 (x * x) (0:UInt64)) rfl ?_
   refine AK 3 15 false _ _ rfl rfl hb1 (BH _ rfl hb2 rfl) rfl ?_
   refine AA _ (BB _ rfl hb1 rfl) rfl ?_
   refine AA _ (AF rfl) rfl ?_
   refine AI (AE (BM (BN (.bool (decide ((x * x) = (0:UInt64)))) (res1 Tryd.results14 (BI rfl)) fun w1 hw1 => ?_)))
   refine ⟨_, [], rfl, ⟨congrArg Value.bool ?_, rfl⟩, hw1.sub (by simp) (by simp)⟩
   unfold fitI
   simp [*]
  ·
   have hp2 : ¬ ((mulH x x) = p) := of_decide_eq_false hb2
   refine AL 7 19 true _ rfl rfl hb2 rfl ?_
   refine AL 7 19 true _ rfl rfl hb2 rfl ?_
   refine AK 3 15 false _ _ rfl rfl hb1 (BB _ rfl hb2 rfl) rfl ?_
   refine AA _ (BB _ rfl hb1 rfl) rfl ?_
   refine AA _ (AF rfl) rfl ?_
   refine AI (AE (BM (BN (.bool false) (res1 Tryd.results14 (BI rfl)) fun w1 hw1 => ?_)))
   refine ⟨_, [], rfl, ⟨congrArg Value.bool ?_, rfl⟩, hw1.sub (by simp) (by simp)⟩
   unfold fitI
   simp [*]
theorem rootC_c (ob : Nat) (p : UInt64) (i : Nat)  (w : World) (hO : RdA w ob 0 [U64 p]) (hi : i < 64) (hp : p = UInt64.ofNat (prN i))  : Calls Tryd.prog 11 #[.func (.func 12) #[] #[Ptr ob 0]] w (Post w [] (fun v L => v = U32 (g32 constL i) ∧ L = [])) := by
 refine enter w [] 21 [] [.func (.func 12) #[] #[Ptr ob 0]] Tryd.func11 rfl rfl (by simp) (BC (by simp) (by simp) (by simp)) ?_
 show JC _ _ _ [(0, .func (.func 12) #[] #[Ptr ob 0])] _
 refine AH (AC (AA _ (AF rfl) rfl ?_))
 refine AI (AE (AH (AC (AA _ (AF rfl) rfl ?_))))
 refine AI (AE (AH (AH (AC (AA _ (AF rfl) rfl ?_)))))
 refine AI (AE (AY (B7 (ι := Nat × UInt64) (fun ⟨j, y⟩ => [(0, .func (.func 12) #[] #[Ptr ob 0]), (2, U32 (0:UInt32)), (3, U64 y), (4, I64 (-(j:Int) + 35))]) (fun ⟨j, y⟩ => []) (fun ⟨j, y⟩ => j ≤ 36 ∧ y = UInt64.ofNat (topN (xN i 3) (36 - j))) (fun ⟨j, y⟩ => 36 - j) (0, 0) ⟨by omega, (rootC_0 i hi).1.symm⟩ (AD rfl (AD rfl (AD rfl (AD (BY (by omega)) (Sub.nil))))) rfl ?_)))
 rintro ⟨j, y⟩ ⟨hx1, hx2⟩
 show JC _ _ _ [(0, .func (.func 12) #[] #[Ptr ob 0]), (2, U32 (0:UInt32)), (3, U64 y), (4, I64 (-(j:Int) + 35))] []
 refine AH (AH (AC (AA _ (AB rfl) rfl ?_)))
 refine AA (.bool (decide ((0:Int) ≤ (-(j:Int) + 35)))) (AG rfl rfl fun _ => B4 _ _) rfl ?_
 refine AI (AE (BK (decide ((0:Int) ≤ (-(j:Int) + 35))) rfl (fun hb1 => ?_) (fun hb1 => ?_)))
 ·
  have hp1 : (0:Int) ≤ (-(j:Int) + 35) := of_decide_eq_true hb1
  refine AZ (AE (AH (AY (AH (AC (AA _ (AB rfl) rfl ?_))))))
  refine AA _ (AB rfl) rfl ?_
  refine AA _ (AB rfl) rfl ?_
  refine AA (U64 ((1:UInt64) <<< UInt64.ofNat (35 - j))) (AG rfl rfl fun _ => CB (1:UInt64) _ _ (35 - j) (by omega) (by omega)) rfl ?_
  refine AA (U64 (y ||| ((1:UInt64) <<< UInt64.ofNat (35 - j)))) (AG rfl rfl fun _ => bin_or_u64 y ((1:UInt64) <<< UInt64.ofNat (35 - j))) rfl ?_
  refine AO (AR 12 [U64 (y ||| ((1:UInt64) <<< UInt64.ofNat (35 - j))), Ptr ob 0] (.bool (fitC p (y ||| ((1:UInt64) <<< UInt64.ofNat (35 - j))))) (Cl_clo [U64 (y ||| ((1:UInt64) <<< UInt64.ofNat (35 - j)))] [Ptr ob 0] Tryd.call12 rfl rfl) (fun w1 hw1 => fitC_c ob p (y ||| ((1:UInt64) <<< UInt64.ofNat (35 - j))) w1 (RdA_at hw1 hO (by simp) (by simp)))) rfl ?_
  rintro v1 L1 ⟨rfl, rfl⟩
  show JL _ _ _ _ ((14, .bool (fitC p (y ||| ((1:UInt64) <<< UInt64.ofNat (35 - j))))) :: _) []
  refine AI (AE (BK (fitC p (y ||| ((1:UInt64) <<< UInt64.ofNat (35 - j)))) rfl (fun hb2 => ?_) (fun hb2 => ?_)))
  ·
   refine AC (AA _ (AB rfl) rfl ?_)
   refine AA _ (AB rfl) rfl ?_
   refine AA (U64 ((1:UInt64) <<< UInt64.ofNat (35 - j))) (AG rfl rfl fun _ => CB (1:UInt64) _ _ (35 - j) (by omega) (by omega)) rfl ?_
   refine AA (U64 (y ||| ((1:UInt64) <<< UInt64.ofNat (35 - j)))) (AG rfl rfl fun _ => bin_or_u64 y ((1:UInt64) <<< UInt64.ofNat (35 - j))) rfl ?_
   refine AA _ (AF rfl) rfl ?_
   refine AI (AS (AE (AC (AA _ (AB rfl) rfl ?_))))
   refine AA (I64 (-(j:Int) + 34)) (AG rfl rfl fun _ => BT _ _ (-(j:Int) + 34) (by omega) (by omega)) rfl ?_
   refine AA _ (AF rfl) rfl ?_
   refine AI (A8 (B0 (j + 1, y ||| ((1:UInt64) <<< UInt64.ofNat (35 - j))) ⟨by omega, by have h := (rootC_step i hi (35 - j) (by omega)).1 (by rw [← hp, bitA, show 35 - j + 1 = 36 - j by omega, ← hx2]; exact hb2); rw [bitA, show 35 - j + 1 = 36 - j by omega, ← hx2] at h; rw [h, show 36 - (j + 1) = 35 - j by omega]⟩ (by first | (simp; omega) | simp | (dsimp only; omega) | omega) (AD rfl (AD rfl (AD rfl (AD (BY (by omega)) (Sub.nil))))) rfl))
  ·
   refine AZ (AS (AE (AC (AA _ (AB rfl) rfl ?_))))
   refine AA (I64 (-(j:Int) + 34)) (AG rfl rfl fun _ => BT _ _ (-(j:Int) + 34) (by omega) (by omega)) rfl ?_
   refine AA _ (AF rfl) rfl ?_
   refine AI (A8 (B0 (j + 1, y) ⟨by omega, by have h := (rootC_step i hi (35 - j) (by omega)).2 (by rw [← hp, bitA, show 35 - j + 1 = 36 - j by omega, ← hx2]; exact hb2); rw [show 35 - j + 1 = 36 - j by omega, ← hx2] at h; rw [h, show 36 - (j + 1) = 35 - j by omega]⟩ (by first | (simp; omega) | simp | (dsimp only; omega) | omega) (AD rfl (AD rfl (AD rfl (AD (BY (by omega)) (Sub.nil))))) rfl))
 ·
  have hp1 : ¬ ((0:Int) ≤ (-(j:Int) + 35)) := of_decide_eq_false hb1
  refine B5 (AN (AN (BF (AE (AH (AC (AA _ (AB rfl) rfl ?_)))))))
  refine AA (U32 y.toUInt32) (CH _ _ rfl fun _ => conv_u64_u32 (by rw [Tryd.underlying38]; rfl) A3 _) rfl ?_
  refine AA _ (AF rfl) rfl ?_
  refine AI (AE (BM (BN (U32 y.toUInt32) (res1 Tryd.results11 (BI rfl)) fun w1 hw1 => ?_)))
  obtain rfl : j = 36 := by omega
  exact ⟨_, [], rfl, ⟨by rw [hx2]; exact congrArg U32 (rootC_0 i hi).2, rfl⟩, hw1.sub (by simp) (by simp)⟩
theorem rootI_c (ob : Nat) (p : UInt64) (i : Nat)  (w : World) (hO : RdA w ob 0 [U64 p]) (hi : i < 8) (hp : p = UInt64.ofNat (prN i))  : Calls Tryd.prog 11 #[.func (.func 14) #[] #[Ptr ob 0]] w (Post w [] (fun v L => v = U32 (g32 initL i) ∧ L = [])) := by
 refine enter w [] 21 [] [.func (.func 14) #[] #[Ptr ob 0]] Tryd.func11 rfl rfl (by simp) (BC (by simp) (by simp) (by simp)) ?_
 show JC _ _ _ [(0, .func (.func 14) #[] #[Ptr ob 0])] _
 refine AH (AC (AA _ (AF rfl) rfl ?_))
 refine AI (AE (AH (AC (AA _ (AF rfl) rfl ?_))))
 refine AI (AE (AH (AH (AC (AA _ (AF rfl) rfl ?_)))))
 refine AI (AE (AY (B7 (ι := Nat × UInt64) (fun ⟨j, y⟩ => [(0, .func (.func 14) #[] #[Ptr ob 0]), (2, U32 (0:UInt32)), (3, U64 y), (4, I64 (-(j:Int) + 35))]) (fun ⟨j, y⟩ => []) (fun ⟨j, y⟩ => j ≤ 36 ∧ y = UInt64.ofNat (topN (xN i 2) (36 - j))) (fun ⟨j, y⟩ => 36 - j) (0, 0) ⟨by omega, (rootI_0 i hi).1.symm⟩ (AD rfl (AD rfl (AD rfl (AD (BY (by omega)) (Sub.nil))))) rfl ?_)))
 rintro ⟨j, y⟩ ⟨hx1, hx2⟩
 show JC _ _ _ [(0, .func (.func 14) #[] #[Ptr ob 0]), (2, U32 (0:UInt32)), (3, U64 y), (4, I64 (-(j:Int) + 35))] []
 refine AH (AH (AC (AA _ (AB rfl) rfl ?_)))
 refine AA (.bool (decide ((0:Int) ≤ (-(j:Int) + 35)))) (AG rfl rfl fun _ => B4 _ _) rfl ?_
 refine AI (AE (BK (decide ((0:Int) ≤ (-(j:Int) + 35))) rfl (fun hb1 => ?_) (fun hb1 => ?_)))
 ·
  have hp1 : (0:Int) ≤ (-(j:Int) + 35) := of_decide_eq_true hb1
  refine AZ (AE (AH (AY (AH (AC (AA _ (AB rfl) rfl ?_))))))
  refine AA _ (AB rfl) rfl ?_
  refine AA _ (AB rfl) rfl ?_
  refine AA (U64 ((1:UInt64) <<< UInt64.ofNat (35 - j))) (AG rfl rfl fun _ => CB (1:UInt64) _ _ (35 - j) (by omega) (by omega)) rfl ?_
  refine AA (U64 (y ||| ((1:UInt64) <<< UInt64.ofNat (35 - j)))) (AG rfl rfl fun _ => bin_or_u64 y ((1:UInt64) <<< UInt64.ofNat (35 - j))) rfl ?_
  refine AO (AR 14 [U64 (y ||| ((1:UInt64) <<< UInt64.ofNat (35 - j))), Ptr ob 0] (.bool (fitI p (y ||| ((1:UInt64) <<< UInt64.ofNat (35 - j))))) (Cl_clo [U64 (y ||| ((1:UInt64) <<< UInt64.ofNat (35 - j)))] [Ptr ob 0] Tryd.call14 rfl rfl) (fun w1 hw1 => fitI_c ob p (y ||| ((1:UInt64) <<< UInt64.ofNat (35 - j))) w1 (RdA_at hw1 hO (by simp) (by simp)))) rfl ?_
  rintro v1 L1 ⟨rfl, rfl⟩
  show JL _ _ _ _ ((14, .bool (fitI p (y ||| ((1:UInt64) <<< UInt64.ofNat (35 - j))))) :: _) []
  refine AI (AE (BK (fitI p (y ||| ((1:UInt64) <<< UInt64.ofNat (35 - j)))) rfl (fun hb2 => ?_) (fun hb2 => ?_)))
  ·
   refine AC (AA _ (AB rfl) rfl ?_)
   refine AA _ (AB rfl) rfl ?_
   refine AA (U64 ((1:UInt64) <<< UInt64.ofNat (35 - j))) (AG rfl rfl fun _ => CB (1:UInt64) _ _ (35 - j) (by omega) (by omega)) rfl ?_
   refine AA (U64 (y ||| ((1:UInt64) <<< UInt64.ofNat (35 - j)))) (AG rfl rfl fun _ => bin_or_u64 y ((1:UInt64) <<< UInt64.ofNat (35 - j))) rfl ?_
   refine AA _ (AF rfl) rfl ?_
   refine AI (AS (AE (AC (AA _ (AB rfl) rfl ?_))))
   refine AA (I64 (-(j:Int) + 34)) (AG rfl rfl fun _ => BT _ _ (-(j:Int) + 34) (by omega) (by omega)) rfl ?_
   refine AA _ (AF rfl) rfl ?_
   refine AI (A8 (B0 (j + 1, y ||| ((1:UInt64) <<< UInt64.ofNat (35 - j))) ⟨by omega, by have h := (rootI_step i hi (35 - j) (by omega)).1 (by rw [← hp, bitA, show 35 - j + 1 = 36 - j by omega, ← hx2]; exact hb2); rw [bitA, show 35 - j + 1 = 36 - j by omega, ← hx2] at h; rw [h, show 36 - (j + 1) = 35 - j by omega]⟩ (by first | (simp; omega) | simp | (dsimp only; omega) | omega) (AD rfl (AD rfl (AD rfl (AD (BY (by omega)) (Sub.nil))))) rfl))
  ·
   refine AZ (AS (AE (AC (AA _ (AB rfl) rfl ?_))))
   refine AA (I64 (-(j:Int) + 34)) (AG rfl rfl fun _ => BT _ _ (-(j:Int) + 34) (by omega) (by omega)) rfl ?_
   refine AA _ (AF rfl) rfl ?_
   refine AI (A8 (B0 (j + 1, y) ⟨by omega, by have h := (rootI_step i hi (35 - j) (by omega)).2 (by rw [← hp, bitA, show 35 - j + 1 = 36 - j by omega, ← hx2]; exact hb2); rw [show 35 - j + 1 = 36 - j by omega, ← hx2] at h; rw [h, show 36 - (j + 1) = 35 - j by omega]⟩ (by first | (simp; omega) | simp | (dsimp only; omega) | omega) (AD rfl (AD rfl (AD rfl (AD (BY (by omega)) (Sub.nil))))) rfl))
 ·
  have hp1 : ¬ ((0:Int) ≤ (-(j:Int) + 35)) := of_decide_eq_false hb1
  refine B5 (AN (AN (BF (AE (AH (AC (AA _ (AB rfl) rfl ?_)))))))
  refine AA (U32 y.toUInt32) (CH _ _ rfl fun _ => conv_u64_u32 (by rw [Tryd.underlying38]; rfl) A3 _) rfl ?_
  refine AA _ (AF rfl) rfl ?_
  refine AI (AE (BM (BN (U32 y.toUInt32) (res1 Tryd.results11 (BI rfl)) fun w1 hw1 => ?_)))
  obtain rfl : j = 36 := by omega
  exact ⟨_, [], rfl, ⟨by rw [hx2]; exact congrArg U32 (rootI_0 i hi).2, rfl⟩, hw1.sub (by simp) (by simp)⟩
end Go.Proofs.YthbmeklfmamkeaaDoor
namespace Go.Proofs.YthbmeklfmamkeaaDoor
open Go Go.Sx
set_option linter.unusedVariables false
set_option linter.unusedSimpArgs false
set_option maxRecDepth 100000
attribute [local irreducible] mid zr8 zr32 rotr wordL spreadL comprL cpN adN spN constL initL padL stN outN sumG fndN cnt prN isP noDiv valA mulH fitC fitI topN xN wholeN fx3 fx2 dg
theorem times_c (ai : Option Addr) (ni ci : Nat) (l : List UInt64) (xm : UInt64)  (w : World) (hl : l.length = ni) (hnm : ni ≤ 1000) (hnc : ni ≤ ci) (hcm : ci ≤ maxLen) (hv : RdV w ai (cu64 l)) (hd : Dig l) (hxx : xm.toNat < 274877906944) (hp : 0 < ni)  : Calls Tryd.prog 22 #[.slice ai ni ci, U64 xm] w (Post w [] (fun v L => ∃ g m sp cap o, v = Slc g 0 m cap ∧ L = [⟨g, cu64 o ++ sp, 38, (0, 0)⟩] ∧ o.length = m ∧ sp.length = cap - m ∧ m ≤ cap ∧ cap ≤ maxLen ∧ Dig o ∧ valA o = valA l * xm.toNat ∧ 0 < m ∧ m ≤ ni + 5)) := by
 have hmx : maxLen = 9223372036854775807 := rfl
 refine enter w [] 40 [] [.slice ai ni ci, U64 xm] Tryd.func22 rfl rfl (by simp) (BC (by simp) (by simp) (by simp)) ?_
 show JC _ _ _ [(0, .slice ai ni ci), (1, U64 xm)] _
 refine AH (AC (AA _ (AF rfl) rfl ?_))
 refine AI (AE (AH (AC (AA _ (AF rfl) rfl ?_))))
 refine AI (AE (AH (AC (AA _ (AF rfl) rfl ?_))))
 refine AI (AE (AH (AH (AC (AA _ (AF rfl) rfl ?_)))))
 refine AI (AE (AY (B7 (ι := (Unit) ⊕ (Nat × UInt64 × List UInt64 × Nat × List Value × Nat)) (fun x => match x with | .inl _ => [(0, .slice ai ni ci), (1, U64 xm), (4, .slice none 0 0), (5, .slice none 0 0), (6, U64 (0:UInt64)), (7, I64 (0:Int))] | .inr ⟨j, c, o, gf, sp, cp⟩ => [(0, .slice ai ni ci), (1, U64 xm), (4, .slice none 0 0), (5, Slc gf 0 j cp), (6, U64 c), (7, I64 ((j:Int)))]) (fun x => match x with | .inl _ => [] | .inr ⟨j, c, o, gf, sp, cp⟩ => [⟨gf, cu64 o ++ sp, 38, (0, 0)⟩]) (fun x => match x with | .inl _ => True | .inr ⟨j, c, o, gf, sp, cp⟩ => 0 < j ∧ j ≤ ni + 5 ∧ TmI l o c xm j ∧ o.length = j ∧ sp.length = cp - j ∧ j ≤ cp ∧ cp ≤ maxLen) (fun x => match x with | .inl _ => 5 * ni + 10 | .inr ⟨j, c, o, gf, sp, cp⟩ => 5 * (ni - j) + dg c.toNat) (.inl ()) trivial (AD rfl (AD rfl (AD rfl (AD rfl (AD rfl (AD rfl (Sub.nil))))))) rfl ?_)))
 rintro (_ | ⟨j, c, o, gf, sp, cp⟩) hx
 ·
  obtain _ := hx
  show JC _ _ _ [(0, .slice ai ni ci), (1, U64 xm), (4, .slice none 0 0), (5, .slice none 0 0), (6, U64 (0:UInt64)), (7, I64 (0:Int))] []
  refine AH (AH (AC (AA _ (AB rfl) rfl ?_)))
  refine AA _ (AB rfl) rfl ?_
  refine AA (I64 ((ni:Int))) (Ev_len AM rfl) rfl ?_
  refine AA (.bool (decide ((0:Int) < ((ni:Int))))) (AG rfl rfl fun _ => A9 _ _) rfl ?_
  refine AA _ (AB rfl) rfl ?_
  refine AL 4 13 false _ rfl rfl (decide_eq_true (by omega)) rfl ?_
  refine AL 4 13 false _ rfl rfl (decide_eq_true (by omega)) rfl ?_
  refine AA _ (BH _ rfl (decide_eq_true (by omega)) rfl) rfl ?_
  refine AI (AE (CJ _ rfl rfl ?_))
  refine AZ (AE (AH (AY (AH (AC (AA _ (AB rfl) rfl ?_))))))
  refine AA _ (AF rfl) rfl ?_
  refine AI (AE (AH (AH (AC (AA _ (AB rfl) rfl ?_)))))
  refine AA _ (AB rfl) rfl ?_
  refine AA (I64 ((ni:Int))) (Ev_len AM rfl) rfl ?_
  refine AA (.bool (decide ((0:Int) < ((ni:Int))))) (AG rfl rfl fun _ => A9 _ _) rfl ?_
  refine AI (AE (CJ _ rfl (decide_eq_true (by omega)) ?_))
  refine AC (AA _ (AB rfl) rfl ?_)
  refine AA _ (AB rfl) rfl ?_
  refine AA _ (AB rfl) rfl ?_
  obtain ⟨bz1, oz1, hz1, hm1⟩ := RdV.posR hv (by rw [cu64_length, hl]; omega)
  refine AA (Ptr bz1 oz1) (CD 38 1 oz1 AM A1 rfl hz1 rfl (by omega) (by omega) (by omega)) rfl ?_
  refine AA (U64 (g64 l 0)) (AW rfl (A7 BE (BO (hm1.mem (by simp)) (Seg.get (g64_get (i := 0) (by rw [hl]; omega))) (by omega)))) rfl ?_
  refine AA _ (AB rfl) rfl ?_
  refine AA (U64 ((g64 l 0) * xm)) (AG rfl rfl fun _ => CC (g64 l 0) xm) rfl ?_
  refine AA (U64 ((0:UInt64) + ((g64 l 0) * xm))) (AG rfl rfl fun _ => BG (0:UInt64) ((g64 l 0) * xm)) rfl ?_
  refine AA _ (AF rfl) rfl ?_
  refine AI (AE (AH (AC (AA _ (AB rfl) rfl ?_))))
  refine AA _ (AB rfl) rfl ?_
  refine AA (U64 (((0:UInt64) + ((g64 l 0) * xm)) % (65536:UInt64))) (AG rfl rfl fun _ => bin_rem_u64 ((0:UInt64) + ((g64 l 0) * xm)) (65536:UInt64) (by decide)) rfl ?_
  refine AO (A4 38 1 _ [(0, U64 (((0:UInt64) + ((g64 l 0) * xm)) % (65536:UInt64)))] ([U64 (((0:UInt64) + ((g64 l 0) * xm)) % (65536:UInt64))]) AM A1 BA rfl rfl rfl (by kernel_rfl)) rfl ?_
  rintro v1 L1 ⟨nb1, hnb1, rfl, rfl⟩
  show JL _ _ _ _ ((35, Slc nb1 0 1 1) :: _) [⟨nb1, [U64 (((0:UInt64) + ((g64 l 0) * xm)) % (65536:UInt64))], 38, (0, 0)⟩]
  refine AO (Step_appM64 53 38 [false] (.slice none 0 0) 0 ([] : List UInt64) ([((0:UInt64) + ((g64 l 0) * xm)) % (65536:UInt64)]) (some ⟨nb1, 0, none⟩) 1 1 1 AM Tryd.info38 rfl (.inl ⟨rfl, rfl, rfl, rfl, by omega⟩) rfl (by simp) (SrcAt.mem (MemAt.ent 0 rfl (Seg.head))) (by omega) (by unfold maxLen; omega) (by omega)) rfl ?_
  rintro v1 L1 ⟨nb2, sp1, cp1, hg1, rfl, rfl, ha1, ha2, ha3, ha4⟩
  show JL _ _ _ _ ((36, Slc nb2 0 1 cp1) :: _) [_, ⟨nb2, cu64 (([] : List UInt64) ++ ([((0:UInt64) + ((g64 l 0) * xm)) % (65536:UInt64)])) ++ sp1, 38, (0, 0)⟩]
  refine AA _ (AF rfl) rfl ?_
  refine AI (AE (AC (AA _ (AB rfl) rfl ?_)))
  refine AA (U64 (((0:UInt64) + ((g64 l 0) * xm)) / (65536:UInt64))) (AG rfl rfl fun _ => bin_quo_u64 ((0:UInt64) + ((g64 l 0) * xm)) (65536:UInt64) (by decide)) rfl ?_
  refine AA _ (AF rfl) rfl ?_
  refine AI (AS (AE (AC (AA _ (AB rfl) rfl ?_))))
  refine AA (I64 (1:Int)) (AG rfl rfl fun _ => BW _ _ (1:Int) (by omega) (by omega)) rfl ?_
  refine AA _ (AF rfl) rfl ?_
  refine AI (A8 (CR [false, true] ?_))
  show K _ _ [_] _
  have hg := TmI.go (TmI.zero l xm (by omega)) (j := 0) (by omega) hd hxx
  have hdg := dg_le (((0:UInt64) + ((g64 l 0) * xm)) / (65536:UInt64)).toNat
  refine B0 (.inr (1, ((0:UInt64) + ((g64 l 0) * xm)) / (65536:UInt64), ([] : List UInt64) ++ ([((0:UInt64) + ((g64 l 0) * xm)) % (65536:UInt64)]), nb2, sp1, cp1)) ⟨by omega, by first | omega | (have h5 := hg.2.2.2.2; omega), hg, (ha1).trans (by first | rfl | simp +arith), (ha2).trans (by first | rfl | simp +arith), by omega, by omega⟩ (by dsimp only; omega) (AD rfl (AD rfl (AD rfl (AD rfl (AD rfl (AD rfl (Sub.nil))))))) rfl
 ·
  obtain ⟨hx1, hx2, hx3, hx4, hx5, hx6, hx7⟩ := hx
  show JC _ _ _ [(0, .slice ai ni ci), (1, U64 xm), (4, .slice none 0 0), (5, Slc gf 0 j cp), (6, U64 c), (7, I64 ((j:Int)))] [⟨gf, cu64 o ++ sp, 38, (0, 0)⟩]
  refine AH (AH (AC (AA _ (AB rfl) rfl ?_)))
  refine AA _ (AB rfl) rfl ?_
  refine AA (I64 ((ni:Int))) (Ev_len AM rfl) rfl ?_
  refine AA (.bool (decide (((j:Int)) < ((ni:Int))))) (AG rfl rfl fun _ => A9 _ _) rfl ?_
  refine AA _ (AB rfl) rfl ?_
  rcases Bool.eq_false_or_eq_true (decide (((j:Int)) < ((ni:Int)))) with hb1 | hb1
  ·
   have hp1 : ((j:Int)) < ((ni:Int)) := of_decide_eq_true hb1
   refine AL 4 13 false _ rfl rfl hb1 rfl ?_
   refine AL 4 13 false _ rfl rfl hb1 rfl ?_
   refine AA _ (BH _ rfl hb1 rfl) rfl ?_
   refine AI (AE (CJ _ rfl rfl ?_))
   refine AZ (AE (AH (AY (AH (AC (AA _ (AB rfl) rfl ?_))))))
   refine AA _ (AF rfl) rfl ?_
   refine AI (AE (AH (AH (AC (AA _ (AB rfl) rfl ?_)))))
   refine AA _ (AB rfl) rfl ?_
   refine AA (I64 ((ni:Int))) (Ev_len AM rfl) rfl ?_
   refine AA (.bool (decide (((j:Int)) < ((ni:Int))))) (AG rfl rfl fun _ => A9 _ _) rfl ?_
   refine AI (AE (CJ _ rfl hb1 ?_))
   refine AC (AA _ (AB rfl) rfl ?_)
   refine AA _ (AB rfl) rfl ?_
   refine AA _ (AB rfl) rfl ?_
   obtain ⟨bz2, oz2, hz2, hm2⟩ := RdV.posR hv (by rw [cu64_length, hl]; omega)
   refine AA (Ptr bz2 (j + oz2)) (CD 38 1 (j + oz2) AM A1 rfl hz2 rfl (by omega) (by omega) (by omega)) rfl ?_
   refine AA (U64 (g64 l j)) (AW rfl (A7 BE (BO (hm2.mem (by simp)) (Seg.get (g64_get (i := j) (by rw [hl]; omega))) (by omega)))) rfl ?_
   refine AA _ (AB rfl) rfl ?_
   refine AA (U64 ((g64 l j) * xm)) (AG rfl rfl fun _ => CC (g64 l j) xm) rfl ?_
   refine AA (U64 (c + ((g64 l j) * xm))) (AG rfl rfl fun _ => BG c ((g64 l j) * xm)) rfl ?_
   refine AA _ (AF rfl) rfl ?_
   refine AI (AE (AH (AC (AA _ (AB rfl) rfl ?_))))
   refine AA _ (AB rfl) rfl ?_
   refine AA (U64 ((c + ((g64 l j) * xm)) % (65536:UInt64))) (AG rfl rfl fun _ => bin_rem_u64 (c + ((g64 l j) * xm)) (65536:UInt64) (by decide)) rfl ?_
   refine AO (A4 38 1 _ [(0, U64 ((c + ((g64 l j) * xm)) % (65536:UInt64)))] ([U64 ((c + ((g64 l j) * xm)) % (65536:UInt64))]) AM A1 BA rfl rfl rfl (by kernel_rfl)) rfl ?_
   rintro v1 L1 ⟨nb3, hnb3, rfl, rfl⟩
   show JL _ _ _ _ ((35, Slc nb3 0 1 1) :: _) [_, ⟨nb3, [U64 ((c + ((g64 l j) * xm)) % (65536:UInt64))], 38, (0, 0)⟩]
   refine AO (Step_appM64 53 38 [true, false] (Slc gf 0 j cp) j o ([(c + ((g64 l j) * xm)) % (65536:UInt64)]) (some ⟨nb3, 0, none⟩) 1 1 (j + 1) AM Tryd.info38 rfl (.inr ⟨gf, sp, cp, rfl, rfl, (by first | exact hx4 | simp [hx4]), hx5, (by omega), (by omega)⟩) rfl (by simp) (SrcAt.mem (MemAt.ent 1 rfl (Seg.head))) (by omega) (by unfold maxLen; omega) (by omega)) rfl ?_
   rintro v1 L1 ⟨nb4, sp2, cp2, hg2, rfl, rfl, ha5, ha6, ha7, ha8⟩
   show JL _ _ _ _ ((36, Slc nb4 0 (j + 1) cp2) :: _) [_, ⟨nb4, cu64 (o ++ ([(c + ((g64 l j) * xm)) % (65536:UInt64)])) ++ sp2, 38, (0, 0)⟩]
   refine AA _ (AF rfl) rfl ?_
   refine AI (AE (AC (AA _ (AB rfl) rfl ?_)))
   refine AA (U64 ((c + ((g64 l j) * xm)) / (65536:UInt64))) (AG rfl rfl fun _ => bin_quo_u64 (c + ((g64 l j) * xm)) (65536:UInt64) (by decide)) rfl ?_
   refine AA _ (AF rfl) rfl ?_
   refine AI (AS (AE (AC (AA _ (AB rfl) rfl ?_))))
   refine AA (I64 ((j:Int) + 1)) (AG rfl rfl fun _ => BW _ _ ((j:Int) + 1) (by omega) (by omega)) rfl ?_
   refine AA _ (AF rfl) rfl ?_
   refine AI (A8 (CR [false, true] ?_))
   show K _ _ [_] _
   have hg := TmI.go (hx3) (j := j) (by omega) hd hxx
   have hdg := dg_le ((c + ((g64 l j) * xm)) / (65536:UInt64)).toNat
   refine B0 (.inr (j + 1, (c + ((g64 l j) * xm)) / (65536:UInt64), o ++ ([(c + ((g64 l j) * xm)) % (65536:UInt64)]), nb4, sp2, cp2)) ⟨by omega, by first | omega | (have h5 := hg.2.2.2.2; omega), hg, (ha5).trans (by first | rfl | simp +arith), (ha6).trans (by first | rfl | simp +arith), by omega, by omega⟩ (by dsimp only; omega) (AD rfl (AD rfl (AD rfl (AD rfl (AD rfl (AD rfl (Sub.nil))))))) rfl
  ·
   have hp1 : ¬ (((j:Int)) < ((ni:Int))) := of_decide_eq_false hb1
   refine AK 4 13 false _ _ rfl rfl hb1 (AB rfl) rfl ?_
   refine AK 4 13 false _ (.bool (decide ((0:UInt64) < c))) rfl rfl hb1 (AG rfl rfl fun _ => bin_gtr_u64 c (0:UInt64)) rfl ?_
   refine AA _ (BB _ rfl hb1 rfl) rfl ?_
   refine AI (AE (BK (decide ((0:UInt64) < c)) rfl (fun hb2 => ?_) (fun hb2 => ?_)))
   ·
    have hp2 : (0:UInt64) < c := of_decide_eq_true hb2
    refine AZ (AE (AH (AY (AH (AC (AA _ (AB rfl) rfl ?_))))))
    refine AA _ (AF rfl) rfl ?_
    refine AI (AE (AH (AH (AC (AA _ (AB rfl) rfl ?_)))))
    refine AA _ (AB rfl) rfl ?_
    refine AA (I64 ((ni:Int))) (Ev_len AM rfl) rfl ?_
    refine AA (.bool (decide (((j:Int)) < ((ni:Int))))) (AG rfl rfl fun _ => A9 _ _) rfl ?_
    refine AI (AE (BX _ rfl hb1 ?_))
    refine AZ (AE (AH (AC (AA _ (AB rfl) rfl ?_))))
    refine AA _ (AB rfl) rfl ?_
    refine AA (U64 (c % (65536:UInt64))) (AG rfl rfl fun _ => bin_rem_u64 c (65536:UInt64) (by decide)) rfl ?_
    refine AO (A4 38 1 _ [(0, U64 (c % (65536:UInt64)))] ([U64 (c % (65536:UInt64))]) AM A1 BA rfl rfl rfl (by kernel_rfl)) rfl ?_
    rintro v1 L1 ⟨nb5, hnb5, rfl, rfl⟩
    show JL _ _ _ _ ((35, Slc nb5 0 1 1) :: _) [_, ⟨nb5, [U64 (c % (65536:UInt64))], 38, (0, 0)⟩]
    refine AO (Step_appM64 53 38 [true, false] (Slc gf 0 j cp) j o ([c % (65536:UInt64)]) (some ⟨nb5, 0, none⟩) 1 1 (j + 1) AM Tryd.info38 rfl (.inr ⟨gf, sp, cp, rfl, rfl, (by first | exact hx4 | simp [hx4]), hx5, (by omega), (by omega)⟩) rfl (by simp) (SrcAt.mem (MemAt.ent 1 rfl (Seg.head))) (by omega) (by unfold maxLen; omega) (by omega)) rfl ?_
    rintro v1 L1 ⟨nb6, sp3, cp3, hg3, rfl, rfl, ha9, ha10, ha11, ha12⟩
    show JL _ _ _ _ ((36, Slc nb6 0 (j + 1) cp3) :: _) [_, ⟨nb6, cu64 (o ++ ([c % (65536:UInt64)])) ++ sp3, 38, (0, 0)⟩]
    refine AA _ (AF rfl) rfl ?_
    refine AI (AE (AC (AA _ (AB rfl) rfl ?_)))
    refine AA (U64 (c / (65536:UInt64))) (AG rfl rfl fun _ => bin_quo_u64 c (65536:UInt64) (by decide)) rfl ?_
    refine AA _ (AF rfl) rfl ?_
    refine AI (AS (AE (AC (AA _ (AB rfl) rfl ?_))))
    refine AA (I64 ((j:Int) + 1)) (AG rfl rfl fun _ => BW _ _ ((j:Int) + 1) (by omega) (by omega)) rfl ?_
    refine AA _ (AF rfl) rfl ?_
    refine AI (A8 (CR [false, true] ?_))
    show K _ _ [_] _
    have hg := TmI.on hx3 (by omega) (pos_of (of_decide_eq_true hb2))
    refine B0 (.inr (j + 1, c / (65536:UInt64), o ++ ([c % (65536:UInt64)]), nb6, sp3, cp3)) ⟨by omega, by have h5 := hg.1.2.2.2.2; have := hx3.2.2.2.2; omega, hg.1, (ha9).trans (by first | rfl | simp +arith), (ha10).trans (by first | rfl | simp +arith), by omega, by omega⟩ (by dsimp only; omega) (AD rfl (AD rfl (AD rfl (AD rfl (AD rfl (AD rfl (Sub.nil))))))) rfl
   ·
    have hp2 : ¬ ((0:UInt64) < c) := of_decide_eq_false hb2
    refine B5 (AN (AN (BF (AE (AH (AC (AA _ (AB rfl) rfl ?_)))))))
    refine AA _ (AF rfl) rfl ?_
    refine AI (AE (BM (BN (Slc gf 0 j cp) (res1 Tryd.results22 (BI rfl)) fun w1 hw1 => ?_)))
    have hf := TmI.fin hx3 (by omega) (zero_of (of_decide_eq_false hb2))
    exact ⟨_, _, rfl, ⟨gf, j, sp, cp, o, rfl, rfl, hx4, hx5, hx6, hx7, hf.1, hf.2, hx1, hx2⟩, hw1.sub (by simp) (by simp)⟩
theorem less_c (ai : Option Addr) (ni ci : Nat) (l : List UInt64) (ai2 : Option Addr) (ni2 ci2 : Nat) (l2 : List UInt64)  (w : World) (hl : l.length = ni) (hnm : ni ≤ 1000) (hnc : ni ≤ ci) (hcm : ci ≤ maxLen) (hv : RdV w ai (cu64 l)) (hl2 : l2.length = ni2) (hnm2 : ni2 ≤ 1000) (hnc2 : ni2 ≤ ci2) (hcm2 : ci2 ≤ maxLen) (hv2 : RdV w ai2 (cu64 l2)) (hd : Dig l) (hd2 : Dig l2)  : Calls Tryd.prog 23 #[.slice ai ni ci, .slice ai2 ni2 ci2] w (Post w [] (fun v L => v = .bool (decide (valA l < valA l2)) ∧ L = [])) := by
 have hmx : maxLen = 9223372036854775807 := rfl
 refine enter w [] 39 [] [.slice ai ni ci, .slice ai2 ni2 ci2] Tryd.func23 rfl rfl (by simp) (BC (by simp) (by simp) (by simp)) ?_
 show JC _ _ _ [(0, .slice ai ni ci), (1, .slice ai2 ni2 ci2)] _
 refine AH (AC (AA _ (AF rfl) rfl ?_))
 refine AI (AE (AH (AH (AC (AA _ (AB rfl) rfl ?_)))))
 refine AA (I64 ((ni:Int))) (Ev_len AM rfl) rfl ?_
 refine AA _ (AB rfl) rfl ?_
 refine AA (I64 ((ni2:Int))) (Ev_len AM rfl) rfl ?_
 refine AA (I64 ((ni2:Int) + (ni:Int))) (AG rfl rfl fun _ => BW _ _ ((ni2:Int) + (ni:Int)) (by omega) (by omega)) rfl ?_
 refine AA _ (AF rfl) rfl ?_
 refine AI (AE (AY (B7 (ι := Nat) (fun q => [(0, .slice ai ni ci), (1, .slice ai2 ni2 ci2), (5, I64 ((ni2:Int) + (ni:Int) - (q:Int)))]) (fun q => []) (fun q => q ≤ ni + ni2 + 1 ∧ hiA l (ni + ni2 + 1 - q) = hiA l2 (ni + ni2 + 1 - q)) (fun q => ni + ni2 + 1 - q) 0 ⟨by omega, by rw [hiA_top (by omega), hiA_top (by omega)]⟩ (AD rfl (AD rfl (AD (BY (by omega)) (Sub.nil)))) rfl ?_)))
 rintro q ⟨hi1, hi2⟩
 show JC _ _ _ [(0, .slice ai ni ci), (1, .slice ai2 ni2 ci2), (5, I64 ((ni2:Int) + (ni:Int) - (q:Int)))] []
 refine AH (AH (AC (AA _ (AB rfl) rfl ?_)))
 refine AA (.bool (decide ((0:Int) ≤ ((ni2:Int) + (ni:Int) - (q:Int))))) (AG rfl rfl fun _ => B4 _ _) rfl ?_
 refine AI (AE (BK (decide ((0:Int) ≤ ((ni2:Int) + (ni:Int) - (q:Int)))) rfl (fun hb1 => ?_) (fun hb1 => ?_)))
 ·
  have hp1 : (0:Int) ≤ ((ni2:Int) + (ni:Int) - (q:Int)) := of_decide_eq_true hb1
  refine AZ (AE (AH (AY (AH (AC (AA _ (AF rfl) rfl ?_))))))
  refine AA _ (AF rfl) rfl ?_
  refine AI (AE (AH (AH (AC (AA _ (AB rfl) rfl ?_)))))
  refine AA _ (AB rfl) rfl ?_
  refine AA (I64 ((ni:Int))) (Ev_len AM rfl) rfl ?_
  refine AA (.bool (decide (((ni2:Int) + (ni:Int) - (q:Int)) < ((ni:Int))))) (AG rfl rfl fun _ => A9 _ _) rfl ?_
  refine AI (AE (BK (decide (((ni2:Int) + (ni:Int) - (q:Int)) < ((ni:Int)))) rfl (fun hb2 => ?_) (fun hb2 => ?_)))
  ·
   have hp2 : ((ni2:Int) + (ni:Int) - (q:Int)) < ((ni:Int)) := of_decide_eq_true hb2
   refine AC (AA _ (AB rfl) rfl ?_)
   refine AA _ (AB rfl) rfl ?_
   obtain ⟨bz1, oz1, hz1, hm1⟩ := RdV.posR hv (by rw [cu64_length, hl]; omega)
   refine AA (Ptr bz1 (ni2 + ni + oz1 - q)) (CD 38 1 (ni2 + ni + oz1 - q) AM A1 rfl hz1 rfl (by omega) (by omega) (by omega)) rfl ?_
   refine AA (U64 (g64 l (ni2 + ni - q))) (AW rfl (A7 BE (BO (hm1.mem (by simp)) (Seg.get (g64_get (i := (ni2 + ni - q)) (by rw [hl]; omega))) (by omega)))) rfl ?_
   refine AA _ (AF rfl) rfl ?_
   refine AI (AE (AH (AH (AC (AA _ (AB rfl) rfl ?_)))))
   refine AA _ (AB rfl) rfl ?_
   refine AA (I64 ((ni2:Int))) (Ev_len AM rfl) rfl ?_
   refine AA (.bool (decide (((ni2:Int) + (ni:Int) - (q:Int)) < ((ni2:Int))))) (AG rfl rfl fun _ => A9 _ _) rfl ?_
   refine AI (AE (BK (decide (((ni2:Int) + (ni:Int) - (q:Int)) < ((ni2:Int)))) rfl (fun hb3 => ?_) (fun hb3 => ?_)))
   ·
    have hp3 : ((ni2:Int) + (ni:Int) - (q:Int)) < ((ni2:Int)) := of_decide_eq_true hb3
    refine AC (AA _ (AB rfl) rfl ?_)
    refine AA _ (AB rfl) rfl ?_
    obtain ⟨bz2, oz2, hz2, hm2⟩ := RdV.posR hv2 (by rw [cu64_length, hl2]; omega)
    refine AA (Ptr bz2 (ni2 + ni + oz2 - q)) (CD 38 1 (ni2 + ni + oz2 - q) AM A1 rfl hz2 rfl (by omega) (by omega) (by omega)) rfl ?_
    refine AA (U64 (g64 l2 (ni2 + ni - q))) (AW rfl (A7 BE (BO (hm2.mem (by simp)) (Seg.get (g64_get (i := (ni2 + ni - q)) (by rw [hl2]; omega))) (by omega)))) rfl ?_
    refine AA _ (AF rfl) rfl ?_
    refine AI (AE (AH (AC (AA _ (AB rfl) rfl ?_))))
    refine AA _ (AB rfl) rfl ?_
    refine AA (.bool (decide ((g64 l (ni2 + ni - q)) ≠ (g64 l2 (ni2 + ni - q))))) (AG rfl rfl fun _ => bin_neq_u64 (g64 l (ni2 + ni - q)) (g64 l2 (ni2 + ni - q))) rfl ?_
    refine AI (AE (BK (decide ((g64 l (ni2 + ni - q)) ≠ (g64 l2 (ni2 + ni - q)))) rfl (fun hb4 => ?_) (fun hb4 => ?_)))
    ·
     have hp4 : (g64 l (ni2 + ni - q)) ≠ (g64 l2 (ni2 + ni - q)) := of_decide_eq_true hb4
     refine AH (AC (AA _ (AB rfl) rfl ?_))
     refine AA _ (AB rfl) rfl ?_
     refine AA (.bool (decide ((g64 l (ni2 + ni - q)) < (g64 l2 (ni2 + ni - q))))) (AG rfl rfl fun _ => CM (g64 l (ni2 + ni - q)) (g64 l2 (ni2 + ni - q))) rfl ?_
     refine AA _ (AF rfl) rfl ?_
     refine AI (AE (BM (CA (A6 (A6 (CA (A6 (BN (.bool (decide ((g64 l (ni2 + ni - q)) < (g64 l2 (ni2 + ni - q))))) (res1 Tryd.results23 (BI rfl)) fun w1 hw1 => ?_))))))))
     exact ⟨_, [], rfl, ⟨congrArg Value.bool (less_ret (x := g64 l (ni2 + ni - q)) (y := g64 l2 (ni2 + ni - q)) hd hd2 (ni2 + ni - q) (by rw [show ni2 + ni - q + 1 = ni + ni2 + 1 - q by omega]; exact hi2) (by rw [if_pos (by omega)]) (by rw [if_pos (by omega)]) (of_decide_eq_true hb4)), rfl⟩, hw1.sub (by simp) (by simp)⟩
    ·
     have hp4 : ¬ ((g64 l (ni2 + ni - q)) ≠ (g64 l2 (ni2 + ni - q))) := of_decide_eq_false hb4
     refine AZ (AS (AE (AC (AA _ (AB rfl) rfl ?_))))
     refine AA (I64 ((ni2:Int) + (ni:Int) - (q:Int) - 1)) (AG rfl rfl fun _ => BT _ _ ((ni2:Int) + (ni:Int) - (q:Int) - 1) (by omega) (by omega)) rfl ?_
     refine AA _ (AF rfl) rfl ?_
     refine AI (A8 (B0 (q + 1) ⟨by omega, by rw [show ni + ni2 + 1 - (q + 1) = ni2 + ni - q by omega]; exact less_go (x := g64 l (ni2 + ni - q)) (y := g64 l2 (ni2 + ni - q)) (ni2 + ni - q) (by rw [show ni2 + ni - q + 1 = ni + ni2 + 1 - q by omega]; exact hi2) (by rw [if_pos (by omega)]) (by rw [if_pos (by omega)]) (Classical.not_not.1 (of_decide_eq_false hb4))⟩ (by first | (simp; omega) | simp | (dsimp only; omega) | omega) (AD rfl (AD rfl (AD (BY (by omega)) (Sub.nil)))) rfl))
   ·
    have hp3 : ¬ (((ni2:Int) + (ni:Int) - (q:Int)) < ((ni2:Int))) := of_decide_eq_false hb3
    refine AZ (AE (AH (AC (AA _ (AB rfl) rfl ?_))))
    refine AA _ (AB rfl) rfl ?_
    refine AA (.bool (decide ((g64 l (ni2 + ni - q)) ≠ (0:UInt64)))) (AG rfl rfl fun _ => bin_neq_u64 (g64 l (ni2 + ni - q)) (0:UInt64)) rfl ?_
    refine AI (AE (BK (decide ((g64 l (ni2 + ni - q)) ≠ (0:UInt64))) rfl (fun hb5 => ?_) (fun hb5 => ?_)))
    ·
     have hp5 : (g64 l (ni2 + ni - q)) ≠ (0:UInt64) := of_decide_eq_true hb5
     refine AH (AC (AA _ (AB rfl) rfl ?_))
     refine AA _ (AB rfl) rfl ?_
     refine AA (.bool (decide ((g64 l (ni2 + ni - q)) < (0:UInt64)))) (AG rfl rfl fun _ => CM (g64 l (ni2 + ni - q)) (0:UInt64)) rfl ?_
     refine AA _ (AF rfl) rfl ?_
     refine AI (AE (BM (CA (A6 (A6 (CA (A6 (BN (.bool (decide ((g64 l (ni2 + ni - q)) < (0:UInt64)))) (res1 Tryd.results23 (BI rfl)) fun w1 hw1 => ?_))))))))
     exact ⟨_, [], rfl, ⟨congrArg Value.bool (less_ret (x := g64 l (ni2 + ni - q)) (y := (0:UInt64)) hd hd2 (ni2 + ni - q) (by rw [show ni2 + ni - q + 1 = ni + ni2 + 1 - q by omega]; exact hi2) (by rw [if_pos (by omega)]) (by rw [if_neg (by omega)]; rfl) (of_decide_eq_true hb5)), rfl⟩, hw1.sub (by simp) (by simp)⟩
    ·
     have hp5 : ¬ ((g64 l (ni2 + ni - q)) ≠ (0:UInt64)) := of_decide_eq_false hb5
     refine AZ (AS (AE (AC (AA _ (AB rfl) rfl ?_))))
     refine AA (I64 ((ni2:Int) + (ni:Int) - (q:Int) - 1)) (AG rfl rfl fun _ => BT _ _ ((ni2:Int) + (ni:Int) - (q:Int) - 1) (by omega) (by omega)) rfl ?_
     refine AA _ (AF rfl) rfl ?_
     refine AI (A8 (B0 (q + 1) ⟨by omega, by rw [show ni + ni2 + 1 - (q + 1) = ni2 + ni - q by omega]; exact less_go (x := g64 l (ni2 + ni - q)) (y := (0:UInt64)) (ni2 + ni - q) (by rw [show ni2 + ni - q + 1 = ni + ni2 + 1 - q by omega]; exact hi2) (by rw [if_pos (by omega)]) (by rw [if_neg (by omega)]; rfl) (Classical.not_not.1 (of_decide_eq_false hb5))⟩ (by first | (simp; omega) | simp | (dsimp only; omega) | omega) (AD rfl (AD rfl (AD (BY (by omega)) (Sub.nil)))) rfl))
  ·
   have hp2 : ¬ (((ni2:Int) + (ni:Int) - (q:Int)) < ((ni:Int))) := of_decide_eq_false hb2
   refine AZ (AE (AH (AH (AC (AA _ (AB rfl) rfl ?_)))))
   refine AA _ (AB rfl) rfl ?_
   refine AA (I64 ((ni2:Int))) (Ev_len AM rfl) rfl ?_
   refine AA (.bool (decide (((ni2:Int) + (ni:Int) - (q:Int)) < ((ni2:Int))))) (AG rfl rfl fun _ => A9 _ _) rfl ?_
   refine AI (AE (BK (decide (((ni2:Int) + (ni:Int) - (q:Int)) < ((ni2:Int)))) rfl (fun hb6 => ?_) (fun hb6 => ?_)))
   ·
    have hp6 : ((ni2:Int) + (ni:Int) - (q:Int)) < ((ni2:Int)) := of_decide_eq_true hb6
    refine AC (AA _ (AB rfl) rfl ?_)
    refine AA _ (AB rfl) rfl ?_
    obtain ⟨bz3, oz3, hz3, hm3⟩ := RdV.posR hv2 (by rw [cu64_length, hl2]; omega)
    refine AA (Ptr bz3 (ni2 + ni + oz3 - q)) (CD 38 1 (ni2 + ni + oz3 - q) AM A1 rfl hz3 rfl (by omega) (by omega) (by omega)) rfl ?_
    refine AA (U64 (g64 l2 (ni2 + ni - q))) (AW rfl (A7 BE (BO (hm3.mem (by simp)) (Seg.get (g64_get (i := (ni2 + ni - q)) (by rw [hl2]; omega))) (by omega)))) rfl ?_
    refine AA _ (AF rfl) rfl ?_
    refine AI (AE (AH (AC (AA _ (AB rfl) rfl ?_))))
    refine AA _ (AB rfl) rfl ?_
    refine AA (.bool (decide ((0:UInt64) ≠ (g64 l2 (ni2 + ni - q))))) (AG rfl rfl fun _ => bin_neq_u64 (0:UInt64) (g64 l2 (ni2 + ni - q))) rfl ?_
    refine AI (AE (BK (decide ((0:UInt64) ≠ (g64 l2 (ni2 + ni - q)))) rfl (fun hb7 => ?_) (fun hb7 => ?_)))
    ·
     have hp7 : (0:UInt64) ≠ (g64 l2 (ni2 + ni - q)) := of_decide_eq_true hb7
     refine AH (AC (AA _ (AB rfl) rfl ?_))
     refine AA _ (AB rfl) rfl ?_
     refine AA (.bool (decide ((0:UInt64) < (g64 l2 (ni2 + ni - q))))) (AG rfl rfl fun _ => CM (0:UInt64) (g64 l2 (ni2 + ni - q))) rfl ?_
     refine AA _ (AF rfl) rfl ?_
     refine AI (AE (BM (CA (A6 (A6 (CA (A6 (BN (.bool (decide ((0:UInt64) < (g64 l2 (ni2 + ni - q))))) (res1 Tryd.results23 (BI rfl)) fun w1 hw1 => ?_))))))))
     exact ⟨_, [], rfl, ⟨congrArg Value.bool (less_ret (x := (0:UInt64)) (y := g64 l2 (ni2 + ni - q)) hd hd2 (ni2 + ni - q) (by rw [show ni2 + ni - q + 1 = ni + ni2 + 1 - q by omega]; exact hi2) (by rw [if_neg (by omega)]; rfl) (by rw [if_pos (by omega)]) (of_decide_eq_true hb7)), rfl⟩, hw1.sub (by simp) (by simp)⟩
    ·
     have hp7 : ¬ ((0:UInt64) ≠ (g64 l2 (ni2 + ni - q))) := of_decide_eq_false hb7
     refine AZ (AS (AE (AC (AA _ (AB rfl) rfl ?_))))
     refine AA (I64 ((ni2:Int) + (ni:Int) - (q:Int) - 1)) (AG rfl rfl fun _ => BT _ _ ((ni2:Int) + (ni:Int) - (q:Int) - 1) (by omega) (by omega)) rfl ?_
     refine AA _ (AF rfl) rfl ?_
     refine AI (A8 (B0 (q + 1) ⟨by omega, by rw [show ni + ni2 + 1 - (q + 1) = ni2 + ni - q by omega]; exact less_go (x := (0:UInt64)) (y := g64 l2 (ni2 + ni - q)) (ni2 + ni - q) (by rw [show ni2 + ni - q + 1 = ni + ni2 + 1 - q by omega]; exact hi2) (by rw [if_neg (by omega)]; rfl) (by rw [if_pos (by omega)]) (Classical.not_not.1 (of_decide_eq_false hb7))⟩ (by first | (simp; omega) | simp | (dsimp only; omega) | omega) (AD rfl (AD rfl (AD (BY (by omega)) (Sub.nil)))) rfl))
   ·
    have hp6 : ¬ (((ni2:Int) + (ni:Int) - (q:Int)) < ((ni2:Int))) := of_decide_eq_false hb6
    refine AZ (AE (AH (AC (AA _ (AB rfl) rfl ?_))))
    refine AA _ (AB rfl) rfl ?_
    refine AA (.bool (decide ((0:UInt64) ≠ (0:UInt64)))) (AG rfl rfl fun _ => bin_neq_u64 (0:UInt64) (0:UInt64)) rfl ?_
    refine AI (AE (BX _ rfl (by decide) ?_))
    refine AZ (AS (AE (AC (AA _ (AB rfl) rfl ?_))))
    refine AA (I64 ((ni2:Int) + (ni:Int) - (q:Int) - 1)) (AG rfl rfl fun _ => BT _ _ ((ni2:Int) + (ni:Int) - (q:Int) - 1) (by omega) (by omega)) rfl ?_
    refine AA _ (AF rfl) rfl ?_
    refine AI (A8 (B0 (q + 1) ⟨by omega, by rw [show ni + ni2 + 1 - (q + 1) = ni2 + ni - q by omega]; exact less_go (x := (0:UInt64)) (y := (0:UInt64)) (ni2 + ni - q) (by rw [show ni2 + ni - q + 1 = ni + ni2 + 1 - q by omega]; exact hi2) (by rw [if_neg (by omega)]; rfl) (by rw [if_neg (by omega)]; rfl) rfl⟩ (by first | (simp; omega) | simp | (dsimp only; omega) | omega) (AD rfl (AD rfl (AD (BY (by omega)) (Sub.nil)))) rfl))
 ·
  have hp1 : ¬ ((0:Int) ≤ ((ni2:Int) + (ni:Int) - (q:Int))) := of_decide_eq_false hb1
  refine B5 (AN (AN (BF (AE (AH (AC (AA _ (AF rfl) rfl ?_)))))))
  refine AI (AE (BM (BN (.bool false) (res1 Tryd.results23 (BI rfl)) fun w1 hw1 => ?_)))
  obtain rfl : q = ni + ni2 + 1 := by omega
  rw [show ni + ni2 + 1 - (ni + ni2 + 1) = 0 by omega] at hi2
  exact ⟨_, [], rfl, ⟨congrArg Value.bool (decide_eq_false (less_same hi2)).symm, rfl⟩, hw1.sub (by simp) (by simp)⟩
end Go.Proofs.YthbmeklfmamkeaaDoor
namespace Go.Proofs.YthbmeklfmamkeaaDoor
open Go Go.Sx
set_option linter.unusedVariables false
set_option linter.unusedSimpArgs false
set_option maxRecDepth 100000
attribute [local irreducible] mid zr8 zr32 rotr wordL spreadL comprL cpN adN spN constL initL padL stN outN sumG fndN cnt prN isP noDiv valA mulH fitC fitI topN xN wholeN fx3 fx2 dg
theorem prime1_c (ob : Nat) (n : UInt64) (p : UInt64)  (w : World) (hp : p ≠ 0) (hO : RdA w ob 0 [U64 n])  : Calls Tryd.prog 21 #[U64 p, Ptr ob 0] w (Post w [] (fun v L => v = .bool (decide (n % p = 0)) ∧ L = [])) := by
 refine enter w [] 8 [] [U64 p, Ptr ob 0] Tryd.func21 rfl rfl (by simp) (BC (by simp) (by simp) (by simp)) ?_
 show JC _ _ _ [(0, U64 p), (1, Ptr ob 0)] _
 refine AH (AC (AA _ (AF rfl) rfl ?_))
 refine AI (AE (AH (AC (AA (U64 n) (AW rfl (A7 BE (BO (hO.mem (by simp)) (Seg.head) (by omega)))) rfl ?_))))
 refine AA _ (AB rfl) rfl ?_
 refine AA (U64 (n % p)) (AG rfl rfl fun _ => bin_rem_u64 n p hp) rfl ?_
 refine AA (.bool (decide ((n % p) = (0:UInt64)))) (AG rfl rfl fun _ => bin_eql_u64 (n % p) (0:UInt64)) rfl ?_
 refine AA _ (AF rfl) rfl ?_
 refine AI (AE (BM (BN (.bool (decide ((n % p) = (0:UInt64)))) (res1 Tryd.results21 (BI rfl)) fun w1 hw1 => ?_)))
 exact ⟨_, [], rfl, ⟨rfl, rfl⟩, hw1.sub (by simp) (by simp)⟩
theorem ixP_c (ob : Nat) (n : UInt64) (ai : Option Addr) (ni ci : Nat) (l : List UInt64)  (w : World) (hl : l.length = ni) (hnm : ni ≤ 1000) (hnc : ni ≤ ci) (hcm : ci ≤ maxLen) (hv : RdV w ai (cu64 l)) (hnz : ∀ k, k < ni → g64 l k ≠ 0) (hO : RdA w ob 0 [U64 n])  : Calls Tryd.prog 28 #[.slice ai ni ci, .func (.func 21) #[] #[Ptr ob 0]] w (Post w [] (fun v L => v = I64 (fIx (fun p => decide (n % p = 0)) l) ∧ L = [])) := by
 have hmx : maxLen = 9223372036854775807 := rfl
 refine enter w [] 19 [] [.slice ai ni ci, .func (.func 21) #[] #[Ptr ob 0]] Tryd.func28 rfl rfl (by simp) (BC (by simp) (by simp) (by simp)) ?_
 show JC _ _ _ [(0, .slice ai ni ci), (1, .func (.func 21) #[] #[Ptr ob 0])] _
 refine AH (AC (AA _ (AF rfl) rfl ?_))
 refine AI (AE (AH (AH (AC (AA _ (AB rfl) rfl ?_)))))
 refine AA (I64 ((ni:Int))) (Ev_len AM rfl) rfl ?_
 refine AA _ (AB rfl) rfl ?_
 refine AI (AE (AY (B7 (ι := Nat) (fun i => [(0, .slice ai ni ci), (1, .func (.func 21) #[] #[Ptr ob 0]), (7, I64 ((ni:Int))), (8, I64 ((i:Int)))]) (fun i => []) (fun i => i ≤ ni ∧ ∀ k, k < i → ∀ y, l[k]? = some y → (fun p => decide (n % p = 0)) y = false) (fun i => ni - i) 0 ⟨by omega, fun k hk => absurd hk (by omega)⟩ (AD rfl (AD rfl (AD rfl (AD rfl (Sub.nil))))) rfl ?_)))
 rintro i ⟨hi1, hi2⟩
 show JC _ _ _ [(0, .slice ai ni ci), (1, .func (.func 21) #[] #[Ptr ob 0]), (7, I64 ((ni:Int))), (8, I64 ((i:Int)))] []
 refine AH (AC (AA (.bool (decide (((i:Int)) < ((ni:Int))))) (AG rfl rfl fun _ => A9 _ _) rfl ?_))
 refine AI (AE (AH (BK (decide (((i:Int)) < ((ni:Int)))) rfl (fun hb1 => ?_) (fun hb1 => ?_))))
 ·
  have hp1 : ((i:Int)) < ((ni:Int)) := of_decide_eq_true hb1
  refine AZ (AE (AH (AY (AH (AC (AA _ (AB rfl) rfl ?_))))))
  refine AA _ (AF rfl) rfl ?_
  refine AI (AE (AH (AC (AA _ (AB rfl) rfl ?_))))
  refine AA _ (AB rfl) rfl ?_
  refine AA _ (AB rfl) rfl ?_
  obtain ⟨bz1, oz1, hz1, hm1⟩ := RdV.posR hv (by rw [cu64_length, hl]; omega)
  refine AA (Ptr bz1 (i + oz1)) (CD 38 1 (i + oz1) AM A1 rfl hz1 rfl (by omega) (by omega) (by omega)) rfl ?_
  refine AA (U64 (g64 l i)) (AW rfl (A7 BE (BO (hm1.mem (by simp)) (Seg.get (g64_get (i := i) (by rw [hl]; omega))) (by omega)))) rfl ?_
  refine AO (AR 21 [U64 (g64 l i), Ptr ob 0] (.bool (decide (n % (g64 l i) = 0))) (Cl_clo [U64 (g64 l i)] [Ptr ob 0] Tryd.call21 rfl rfl) (fun w1 hw1 => prime1_c ob n (g64 l i) w1 (hnz _ (by omega)) (RdA_at hw1 hO (by simp) (by simp)))) rfl ?_
  rintro v1 L1 ⟨rfl, rfl⟩
  show JL _ _ _ _ ((16, .bool (decide (n % (g64 l i) = 0))) :: _) []
  refine AI (AE (BK (decide (n % (g64 l i) = 0)) rfl (fun hb2 => ?_) (fun hb2 => ?_)))
  ·
   have hp2 : n % (g64 l i) = 0 := of_decide_eq_true hb2
   refine AH (AC (AA _ (AB rfl) rfl ?_))
   refine AA _ (AF rfl) rfl ?_
   refine AI (AE (BM (CA (A6 (A6 (CA (A6 (BN (I64 ((i:Int))) (res1 Tryd.results28 (BI rfl)) fun w1 hw1 => ?_))))))))
   have e1 : fIx (fun p => decide (n % p = 0)) l = i := fIx_at (g64_atR (by omega)) (by assumption) hi2
   exact ⟨_, [], rfl, ⟨by rw [e1], rfl⟩, hw1.sub (by simp) (by simp)⟩
  ·
   have hp2 : ¬ (n % (g64 l i) = 0) := of_decide_eq_false hb2
   refine AZ (AS (AE (AC (AA (I64 ((i:Int) + 1)) (AG rfl rfl fun _ => BW _ _ ((i:Int) + 1) (by omega) (by omega)) rfl ?_))))
   refine AA _ (AB rfl) rfl ?_
   refine AI (A8 (B0 (i + 1) ⟨by omega, f_step (g64_atR (by omega)) (by assumption) hi2⟩ (by first | (simp; omega) | simp | (dsimp only; omega) | omega) (AD rfl (AD rfl (AD rfl (AD rfl (Sub.nil))))) rfl))
 ·
  have hp1 : ¬ (((i:Int)) < ((ni:Int))) := of_decide_eq_false hb1
  refine B5 (AN (AN (BF (AE (AH (AC (AA _ (AF rfl) rfl ?_)))))))
  refine AI (AE (BM (BN (I64 (-1:Int)) (res1 Tryd.results28 (BI rfl)) fun w1 hw1 => ?_)))
  have e1 : fIx (fun p => decide (n % p = 0)) l = -1 := fIx_no (by rw [hl]; intro k hk; exact hi2 k (by omega))
  exact ⟨_, [], rfl, ⟨by rw [e1], rfl⟩, hw1.sub (by simp) (by simp)⟩
theorem cfP_c (ob : Nat) (n : UInt64) (ai : Option Addr) (ni ci : Nat) (l : List UInt64)  (w : World) (hl : l.length = ni) (hnm : ni ≤ 1000) (hnc : ni ≤ ci) (hcm : ci ≤ maxLen) (hv : RdV w ai (cu64 l)) (hnz : ∀ k, k < ni → g64 l k ≠ 0) (hO : RdA w ob 0 [U64 n])  : Calls Tryd.prog 20 #[.slice ai ni ci, .func (.func 21) #[] #[Ptr ob 0]] w (Post w [] (fun v L => v = .bool (l.any (fun p => decide (n % p = 0))) ∧ L = [])) := by
 refine enter w [] 9 [] [.slice ai ni ci, .func (.func 21) #[] #[Ptr ob 0]] Tryd.func20 rfl rfl (by simp) (BC (by simp) (by simp) (by simp)) ?_
 show JC _ _ _ [(0, .slice ai ni ci), (1, .func (.func 21) #[] #[Ptr ob 0])] _
 refine AH (AC (AA _ (AF rfl) rfl ?_))
 refine AI (AE (AH (AC (AA _ (AB rfl) rfl ?_))))
 refine AA _ (AB rfl) rfl ?_
 refine AO (AR 28 [.slice ai ni ci, .func (.func 21) #[] #[Ptr ob 0]] (I64 ((fIx (fun p => decide (n % p = 0)) l))) (A2 [.slice ai ni ci, .func (.func 21) #[] #[Ptr ob 0]] Tryd.call28 rfl) (fun w1 hw1 => ixP_c ob n ai ni ci l w1 hl hnm hnc hcm (rdV_atR hw1 rfl hv) hnz (RdA_at hw1 hO (by simp) (by simp)))) rfl ?_
 rintro v1 L1 ⟨rfl, rfl⟩
 show JL _ _ _ _ ((7, I64 ((fIx (fun p => decide (n % p = 0)) l))) :: _) []
 refine AA (.bool (decide ((0:Int) ≤ ((fIx (fun p => decide (n % p = 0)) l))))) (AG rfl rfl fun _ => B4 _ _) rfl ?_
 refine AA _ (AF rfl) rfl ?_
 refine AI (AE (BM (BN (.bool (decide ((0:Int) ≤ ((fIx (fun p => decide (n % p = 0)) l))))) (res1 Tryd.results20 (BI rfl)) fun w1 hw1 => ?_)))
 exact ⟨_, [], rfl, ⟨congrArg Value.bool (fIx_ge _ _), rfl⟩, hw1.sub (by simp) (by simp)⟩
theorem prime_c (i : Nat)  (w : World) (hi : i < 64)  : Calls Tryd.prog 10 #[I64 ((i:Int))] w (Post w [] (fun v L => v = U64 (UInt64.ofNat (prN i)) ∧ L = [])) := by
 have hmx : maxLen = 9223372036854775807 := rfl
 refine enter w [] 20 [] [I64 ((i:Int))] Tryd.func10 rfl rfl (by simp) (BC (by simp) (by simp) (by simp)) ?_
 show JC _ _ _ [(0, I64 ((i:Int)))] _
 refine AH (AC (AA _ (AF rfl) rfl ?_))
 refine AI (AE (AH (AC (AA _ (AF rfl) rfl ?_))))
 refine AI (AE (AH (AC (AO (B6 _ ([U64 (0:UInt64)]) BA (by kernel_rfl)) rfl ?_))))
 rintro v1 L1 ⟨nb1, hnb1, rfl, rfl⟩
 show JL _ _ _ _ ((4, Ptr nb1 0) :: _) [⟨nb1, [U64 (0:UInt64)], 38, (0, 0)⟩]
 refine AO (BP 0 nb1 0 1 ([U64 (0:UInt64)]) 38 (U64 (2:UInt64)) ([U64 (2:UInt64)]) ([U64 (2:UInt64)]) rfl rfl rfl rfl A1 rfl (by simp [Value.oneCell']) (Nat.le_of_ble_eq_true rfl) (B3 (by simp []))) rfl ?_
 rintro v1 L1 ⟨rfl, rfl⟩
 show JL _ _ _ _ _ [⟨nb1, [U64 (2:UInt64)], 38, (0, 0)⟩]
 refine AI (AE (AY (B7 (ι := (Nat) ⊕ (Nat × Nat × UInt64 × List UInt64 × Nat × List Value × Nat × Nat)) (fun x => match x with | .inl pn => [(0, I64 ((i:Int))), (3, .slice none 0 0), (4, Ptr pn 0)] | .inr ⟨N, m, nv, fl, gf, sp, cp, pn⟩ => [(0, I64 ((i:Int))), (3, Slc gf 0 m cp), (4, Ptr pn 0)]) (fun x => match x with | .inl pn => [⟨pn, [U64 (2:UInt64)], 38, (0, 0)⟩] | .inr ⟨N, m, nv, fl, gf, sp, cp, pn⟩ => [⟨pn, [U64 nv], 38, (0, 0)⟩, ⟨gf, cu64 fl ++ sp, 38, (0, 0)⟩]) (fun x => match x with | .inl pn => True | .inr ⟨N, m, nv, fl, gf, sp, cp, pn⟩ => 2 ≤ N ∧ N < 312 ∧ nv = UInt64.ofNat N ∧ fl = fnd N ∧ m = cnt N ∧ m ≤ i ∧ 0 < m ∧ sp.length = cp - m ∧ m ≤ cp ∧ cp ≤ maxLen ∧ fl.length = m) (fun x => match x with | .inl pn => 400 | .inr ⟨N, m, nv, fl, gf, sp, cp, pn⟩ => 312 - N) (.inl nb1) trivial (AD rfl (AD rfl (AD rfl (Sub.nil)))) rfl ?_)))
 rintro (pn | ⟨N, m, nv, fl, gf, sp, cp, pn⟩) hx
 ·
  obtain _ := hx
  show JC _ _ _ [(0, I64 ((i:Int))), (3, .slice none 0 0), (4, Ptr pn 0)] [⟨pn, [U64 (2:UInt64)], 38, (0, 0)⟩]
  refine AH (AY (AH (AH (AC (AA _ (AB rfl) rfl ?_)))))
  refine AA (.func (.func 21) #[] #[Ptr pn 0]) (Ev_makeFunc (vs := [Ptr pn 0]) rfl (fun _ _ => rfl)) rfl ?_
  refine AO (AR 20 [.slice none 0 0, .func (.func 21) #[] #[Ptr pn 0]] (.bool (([] : List UInt64).any (fun p => decide ((2:UInt64) % p = 0)))) (A2 [.slice none 0 0, .func (.func 21) #[] #[Ptr pn 0]] Tryd.call20 rfl) (fun w1 hw1 => cfP_c pn (2:UInt64) none 0 0 ([] : List UInt64) w1 rfl (by omega) (by omega) (by omega) (.inl rfl) (fun k hk => absurd hk (by omega)) (RdA.of hw1 (MemAt.ent 0 rfl (A5 _)) (by simp)))) rfl ?_
  rintro v1 L1 ⟨rfl, rfl⟩
  show JL _ _ _ _ ((9, .bool (([] : List UInt64).any (fun p => decide ((2:UInt64) % p = 0)))) :: _) [_]
  refine AI (AE (BX _ rfl rfl ?_))
  refine AZ (AE (AH (AC (AA _ (AB rfl) rfl ?_))))
  refine AA (U64 (2:UInt64)) (AW rfl (A7 BE (MemAt.ent 0 rfl (Seg.head)))) rfl ?_
  refine AO (A4 38 1 _ [(0, U64 (2:UInt64))] ([U64 (2:UInt64)]) AM A1 BA rfl rfl rfl (by kernel_rfl)) rfl ?_
  rintro v1 L1 ⟨nb2, hnb2, rfl, rfl⟩
  show JL _ _ _ _ ((12, Slc nb2 0 1 1) :: _) [_, ⟨nb2, [U64 (2:UInt64)], 38, (0, 0)⟩]
  refine AO (Step_appM64 53 38 [false, false] (.slice none 0 0) 0 ([] : List UInt64) ([(2:UInt64)]) (some ⟨nb2, 0, none⟩) 1 1 1 AM Tryd.info38 rfl (.inl ⟨rfl, rfl, rfl, rfl, by omega⟩) rfl (by simp) (SrcAt.mem (MemAt.ent 1 rfl (Seg.head))) (by omega) (by unfold maxLen; omega) (by omega)) rfl ?_
  rintro v1 L1 ⟨nb3, sp1, cp1, hg1, rfl, rfl, ha1, ha2, ha3, ha4⟩
  show JL _ _ _ _ ((13, Slc nb3 0 1 cp1) :: _) [_, _, ⟨nb3, cu64 (([] : List UInt64) ++ ([(2:UInt64)])) ++ sp1, 38, (0, 0)⟩]
  refine AA _ (AF rfl) rfl ?_
  refine AI (AE (AH (AC (AA _ (AB rfl) rfl ?_))))
  refine AA (I64 (1:Int)) (Ev_len AM rfl) rfl ?_
  refine AA _ (AB rfl) rfl ?_
  refine AA (.bool (decide (((i:Int)) < (1:Int)))) (AG rfl rfl fun _ => bin_gtr_i _ _) rfl ?_
  refine AI (AE (BK (decide (((i:Int)) < (1:Int))) rfl (fun hb1 => ?_) (fun hb1 => ?_)))
  ·
   have hp1 : ((i:Int)) < (1:Int) := of_decide_eq_true hb1
   refine AH (AC (AA (U64 (2:UInt64)) (AW rfl (A7 BE (MemAt.ent 0 rfl (Seg.head)))) rfl ?_))
   refine AA _ (AF rfl) rfl ?_
   refine AI (AE (BM (CA (A6 (A6 (CA (BN (U64 (2:UInt64)) (res1 Tryd.results10 (BI rfl)) fun w1 hw1 => ?_)))))))
   obtain rfl : i = 0 := by omega
   exact ⟨_, [], rfl, ⟨by rw [show prN 0 = 2 by decide +kernel]; rfl, rfl⟩, hw1.sub (by simp) (by simp)⟩
  ·
   have hp1 : ¬ (((i:Int)) < (1:Int)) := of_decide_eq_false hb1
   refine AZ (AS (AE (AH (AH (AC (AA (U64 (2:UInt64)) (AW rfl (A7 BE (MemAt.ent 0 rfl (Seg.head)))) rfl ?_))))))
   refine AI (AE (AC (AO (B6 _ ([U64 (0:UInt64)]) BA (by kernel_rfl)) rfl ?_)))
   rintro v1 L1 ⟨nb4, hnb4, rfl, rfl⟩
   show JL _ _ _ _ ((4, Ptr nb4 0) :: _) [_, _, _, ⟨nb4, [U64 (0:UInt64)], 38, (0, 0)⟩]
   refine AO (BP 3 nb4 0 1 ([U64 (0:UInt64)]) 38 (U64 (2:UInt64)) ([U64 (2:UInt64)]) ([U64 (2:UInt64)]) rfl rfl rfl rfl A1 rfl (by simp [Value.oneCell']) (Nat.le_of_ble_eq_true rfl) (B3 (by simp []))) rfl ?_
   rintro v1 L1 ⟨rfl, rfl⟩
   show JL _ _ _ _ _ [_, _, _, ⟨nb4, [U64 (2:UInt64)], 38, (0, 0)⟩]
   refine AI (AE (AC (AA (U64 (2:UInt64)) (AW rfl (A7 BE (MemAt.ent 3 rfl (Seg.head)))) rfl ?_)))
   refine AA (U64 ((2:UInt64) + (1:UInt64))) (AG rfl rfl fun _ => BG (2:UInt64) (1:UInt64)) rfl ?_
   refine AO (BP 3 nb4 0 1 ([U64 (2:UInt64)]) 38 (U64 ((2:UInt64) + (1:UInt64))) ([U64 ((2:UInt64) + (1:UInt64))]) ([U64 ((2:UInt64) + (1:UInt64))]) rfl rfl rfl rfl A1 rfl (by simp [Value.oneCell']) (Nat.le_of_ble_eq_true rfl) (B3 (by simp []))) rfl ?_
   rintro v1 L1 ⟨rfl, rfl⟩
   show JL _ _ _ _ _ [_, _, _, ⟨nb4, [U64 ((2:UInt64) + (1:UInt64))], 38, (0, 0)⟩]
   refine AI (A8 (CR [false, false, true, true] ?_))
   show K _ _ [_, _] _
   refine K_pick [1, 0] (by decide) ?_
   show K _ _ [_, _] _
   refine B0 (.inr (3, 1, (2:UInt64) + (1:UInt64), ([] : List UInt64) ++ ([(2:UInt64)]), nb3, sp1, cp1, nb4)) ⟨by omega, by omega, by decide, by decide +kernel, by decide +kernel, by omega, by omega, by omega, by omega, by omega, rfl⟩ (by first | (simp; omega) | simp | (dsimp only; omega) | omega) (AD rfl (AD rfl (AD rfl (Sub.nil)))) rfl
 ·
  obtain ⟨hx1, hx2, hx3, hx4, hx5, hx6, hx7, hx8, hx9, hx10, hx11⟩ := hx
  show JC _ _ _ [(0, I64 ((i:Int))), (3, Slc gf 0 m cp), (4, Ptr pn 0)] [⟨pn, [U64 nv], 38, (0, 0)⟩, ⟨gf, cu64 fl ++ sp, 38, (0, 0)⟩]
  refine AH (AY (AH (AH (AC (AA _ (AB rfl) rfl ?_)))))
  refine AA (.func (.func 21) #[] #[Ptr pn 0]) (Ev_makeFunc (vs := [Ptr pn 0]) rfl (fun _ _ => rfl)) rfl ?_
  refine AO (AR 20 [Slc gf 0 m cp, .func (.func 21) #[] #[Ptr pn 0]] (.bool (fl.any (fun p => decide (nv % p = 0)))) (A2 [Slc gf 0 m cp, .func (.func 21) #[] #[Ptr pn 0]] Tryd.call20 rfl) (fun w1 hw1 => cfP_c pn nv (some ⟨gf, 0, none⟩) m cp fl w1 hx11 (by omega) (by omega) (by omega) (RdV.ofR hw1 (MemAt.ent 1 rfl (Seg.left (A5 _)))) (fun k hk => fnd_ne0 hx4 (by omega) (by omega)) (RdA.of hw1 (MemAt.ent 0 rfl (A5 _)) (by simp)))) rfl ?_
  rintro v1 L1 ⟨rfl, rfl⟩
  show JL _ _ _ _ ((9, .bool (fl.any (fun p => decide (nv % p = 0)))) :: _) [_, _]
  refine AI (AE (BK (fl.any (fun p => decide (nv % p = 0))) rfl (fun hb2 => ?_) (fun hb2 => ?_)))
  ·
   refine B5 (AN (BF (AE (AH (AH (AC (AA (U64 nv) (AW rfl (A7 BE (MemAt.ent 0 rfl (Seg.head)))) rfl ?_)))))))
   refine AI (AE (AC (AO (B6 _ ([U64 (0:UInt64)]) BA (by kernel_rfl)) rfl ?_)))
   rintro v1 L1 ⟨nb5, hnb5, rfl, rfl⟩
   show JL _ _ _ _ ((4, Ptr nb5 0) :: _) [_, _, ⟨nb5, [U64 (0:UInt64)], 38, (0, 0)⟩]
   refine AO (BP 2 nb5 0 1 ([U64 (0:UInt64)]) 38 (U64 nv) ([U64 nv]) ([U64 nv]) rfl rfl rfl rfl A1 rfl (by simp [Value.oneCell']) (Nat.le_of_ble_eq_true rfl) (B3 (by simp []))) rfl ?_
   rintro v1 L1 ⟨rfl, rfl⟩
   show JL _ _ _ _ _ [_, _, ⟨nb5, [U64 nv], 38, (0, 0)⟩]
   refine AI (AE (AC (AA (U64 nv) (AW rfl (A7 BE (MemAt.ent 2 rfl (Seg.head)))) rfl ?_)))
   refine AA (U64 (nv + (1:UInt64))) (AG rfl rfl fun _ => BG nv (1:UInt64)) rfl ?_
   refine AO (BP 2 nb5 0 1 ([U64 nv]) 38 (U64 (nv + (1:UInt64))) ([U64 (nv + (1:UInt64))]) ([U64 (nv + (1:UInt64))]) rfl rfl rfl rfl A1 rfl (by simp [Value.oneCell']) (Nat.le_of_ble_eq_true rfl) (B3 (by simp []))) rfl ?_
   rintro v1 L1 ⟨rfl, rfl⟩
   show JL _ _ _ _ _ [_, _, ⟨nb5, [U64 (nv + (1:UInt64))], 38, (0, 0)⟩]
   refine AI (A8 (CR [false, true, true] ?_))
   show K _ _ [_, _] _
   refine K_pick [1, 0] (by decide) ?_
   show K _ _ [_, _] _
   have hnp : isP N = false := by
    have h := any_isP hx4 hx3 hx1 hx2
    rw [hb2] at h
    simpa using h
   obtain ⟨hq1, hq2⟩ := fnd_no N hx2 hnp
   have hlt : N + 1 < 312 := cnt_in (by omega) (show cnt (N + 1) ≤ i by omega) hi
   refine B0 (.inr (N + 1, m, nv + (1:UInt64), fl, gf, sp, cp, nb5)) ⟨by omega, hlt, by rw [hx3, BU], by rw [hq1]; exact hx4, by rw [hq2]; exact hx5, hx6, hx7, hx8, hx9, hx10, hx11⟩ (by first | (simp; omega) | simp | (dsimp only; omega) | omega) (AD rfl (AD rfl (AD rfl (Sub.nil)))) rfl
  ·
   refine AZ (AE (AH (AC (AA _ (AB rfl) rfl ?_))))
   refine AA (U64 nv) (AW rfl (A7 BE (MemAt.ent 0 rfl (Seg.head)))) rfl ?_
   refine AO (A4 38 1 _ [(0, U64 nv)] ([U64 nv]) AM A1 BA rfl rfl rfl (by kernel_rfl)) rfl ?_
   rintro v1 L1 ⟨nb6, hnb6, rfl, rfl⟩
   show JL _ _ _ _ ((12, Slc nb6 0 1 1) :: _) [_, _, ⟨nb6, [U64 nv], 38, (0, 0)⟩]
   refine AO (Step_appM64 53 38 [false, true, false] (Slc gf 0 m cp) m fl ([nv]) (some ⟨nb6, 0, none⟩) 1 1 (m + 1) AM Tryd.info38 rfl (.inr ⟨gf, sp, cp, rfl, rfl, (by first | exact hx11 | simp [hx11]), hx8, (by omega), (by omega)⟩) rfl (by simp) (SrcAt.mem (MemAt.ent 2 rfl (Seg.head))) (by omega) (by unfold maxLen; omega) (by omega)) rfl ?_
   rintro v1 L1 ⟨nb7, sp2, cp2, hg2, rfl, rfl, ha5, ha6, ha7, ha8⟩
   show JL _ _ _ _ ((13, Slc nb7 0 (m + 1) cp2) :: _) [_, _, ⟨nb7, cu64 (fl ++ ([nv])) ++ sp2, 38, (0, 0)⟩]
   refine AA _ (AF rfl) rfl ?_
   refine AI (AE (AH (AC (AA _ (AB rfl) rfl ?_))))
   refine AA (I64 ((m:Int) + 1)) (Ev_lenX AM rfl (by omega)) rfl ?_
   refine AA _ (AB rfl) rfl ?_
   refine AA (.bool (decide (((i:Int)) < ((m:Int) + 1)))) (AG rfl rfl fun _ => bin_gtr_i _ _) rfl ?_
   refine AI (AE (BK (decide (((i:Int)) < ((m:Int) + 1))) rfl (fun hb3 => ?_) (fun hb3 => ?_)))
   ·
    have hp3 : ((i:Int)) < ((m:Int) + 1) := of_decide_eq_true hb3
    refine AH (AC (AA (U64 nv) (AW rfl (A7 BE (MemAt.ent 0 rfl (Seg.head)))) rfl ?_))
    refine AA _ (AF rfl) rfl ?_
    refine AI (AE (BM (CA (A6 (A6 (CA (BN (U64 nv) (res1 Tryd.results10 (BI rfl)) fun w1 hw1 => ?_)))))))
    have hnp : isP N = true := by
     have h := any_isP hx4 hx3 hx1 hx2
     rw [hb2] at h
     simpa using h
    obtain ⟨hq1, hq2, hq3⟩ := fnd_yes N hx2 hnp
    have e1 : prN i = N := by rw [← hq3]; congr 1; omega
    exact ⟨_, [], rfl, ⟨by rw [hx3, e1], rfl⟩, hw1.sub (by simp) (by simp)⟩
   ·
    have hp3 : ¬ (((i:Int)) < ((m:Int) + 1)) := of_decide_eq_false hb3
    refine AZ (AS (AE (AH (AH (AC (AA (U64 nv) (AW rfl (A7 BE (MemAt.ent 0 rfl (Seg.head)))) rfl ?_))))))
    refine AI (AE (AC (AO (B6 _ ([U64 (0:UInt64)]) BA (by kernel_rfl)) rfl ?_)))
    rintro v1 L1 ⟨nb8, hnb8, rfl, rfl⟩
    show JL _ _ _ _ ((4, Ptr nb8 0) :: _) [_, _, _, ⟨nb8, [U64 (0:UInt64)], 38, (0, 0)⟩]
    refine AO (BP 3 nb8 0 1 ([U64 (0:UInt64)]) 38 (U64 nv) ([U64 nv]) ([U64 nv]) rfl rfl rfl rfl A1 rfl (by simp [Value.oneCell']) (Nat.le_of_ble_eq_true rfl) (B3 (by simp []))) rfl ?_
    rintro v1 L1 ⟨rfl, rfl⟩
    show JL _ _ _ _ _ [_, _, _, ⟨nb8, [U64 nv], 38, (0, 0)⟩]
    refine AI (AE (AC (AA (U64 nv) (AW rfl (A7 BE (MemAt.ent 3 rfl (Seg.head)))) rfl ?_)))
    refine AA (U64 (nv + (1:UInt64))) (AG rfl rfl fun _ => BG nv (1:UInt64)) rfl ?_
    refine AO (BP 3 nb8 0 1 ([U64 nv]) 38 (U64 (nv + (1:UInt64))) ([U64 (nv + (1:UInt64))]) ([U64 (nv + (1:UInt64))]) rfl rfl rfl rfl A1 rfl (by simp [Value.oneCell']) (Nat.le_of_ble_eq_true rfl) (B3 (by simp []))) rfl ?_
    rintro v1 L1 ⟨rfl, rfl⟩
    show JL _ _ _ _ _ [_, _, _, ⟨nb8, [U64 (nv + (1:UInt64))], 38, (0, 0)⟩]
    refine AI (A8 (CR [false, false, true, true] ?_))
    show K _ _ [_, _] _
    refine K_pick [1, 0] (by decide) ?_
    show K _ _ [_, _] _
    have hnp : isP N = true := by
     have h := any_isP hx4 hx3 hx1 hx2
     rw [hb2] at h
     simpa using h
    obtain ⟨hq1, hq2, hq3⟩ := fnd_yes N hx2 hnp
    have hlt : N + 1 < 312 := cnt_in (by omega) (show cnt (N + 1) ≤ i by omega) hi
    refine B0 (.inr (N + 1, m + 1, nv + (1:UInt64), fl ++ ([nv]), nb7, sp2, cp2, nb8)) ⟨by omega, hlt, by rw [hx3, BU], by rw [hq1, hx4, hx3], by omega, by omega, by omega, (ha6).trans (by omega), by omega, by omega, (ha5).trans (by omega)⟩ (by first | (simp; omega) | simp | (dsimp only; omega) | omega) (AD rfl (AD rfl (AD rfl (Sub.nil)))) rfl
theorem const_c (i : Nat)  (w : World) (hi : i < 64)  : Calls Tryd.prog 5 #[I64 ((i:Int))] w (Post w [] (fun v L => v = .tuple #[U32 (g32 constL i), .nilIface] ∧ L = [])) := by
 refine enter w [] 16 [] [I64 ((i:Int))] Tryd.func5 rfl rfl (by simp) (BC (by simp) (by simp) (by simp)) ?_
 show JC _ _ _ [(0, I64 ((i:Int)))] _
 refine AH (AC (AA _ (AF rfl) rfl ?_))
 refine AA _ (AF rfl) rfl ?_
 refine AI (AE (AH (AH (AC (AA _ (AB rfl) rfl ?_)))))
 refine AA (.bool (decide (((i:Int)) < (0:Int)))) (AG rfl rfl fun _ => A9 _ _) rfl ?_
 refine AA _ (AB rfl) rfl ?_
 refine AK 2 7 false _ _ rfl rfl (decide_eq_false (by omega)) (AB rfl) rfl ?_
 refine AK 2 7 false _ (.bool (decide ((64:Int) ≤ ((i:Int))))) rfl rfl (decide_eq_false (by omega)) (AG rfl rfl fun _ => B4 _ _) rfl ?_
 refine AA _ (BB _ rfl (decide_eq_false (by omega)) rfl) rfl ?_
 refine AI (AE (BX _ rfl (decide_eq_false (by omega)) ?_))
 refine AZ (AE (AH (AC (AA _ (AB rfl) rfl ?_))))
 refine AO (AR 10 [I64 ((i:Int))] (U64 (UInt64.ofNat (prN i))) (A2 [I64 ((i:Int))] Tryd.call10 rfl) (fun w1 hw1 => prime_c i w1 (by omega))) rfl ?_
 rintro v1 L1 ⟨rfl, rfl⟩
 show JL _ _ _ _ ((13, U64 (UInt64.ofNat (prN i))) :: _) []
 refine AO (B6 _ ([U64 (0:UInt64)]) BA (by kernel_rfl)) rfl ?_
 rintro v1 L1 ⟨nb1, hnb1, rfl, rfl⟩
 show JL _ _ _ _ ((4, Ptr nb1 0) :: _) [⟨nb1, [U64 (0:UInt64)], 38, (0, 0)⟩]
 refine AO (BP 0 nb1 0 1 ([U64 (0:UInt64)]) 38 (U64 (UInt64.ofNat (prN i))) ([U64 (UInt64.ofNat (prN i))]) ([U64 (UInt64.ofNat (prN i))]) rfl rfl rfl rfl A1 rfl (by simp [Value.oneCell']) (Nat.le_of_ble_eq_true rfl) (B3 (by simp []))) rfl ?_
 rintro v1 L1 ⟨rfl, rfl⟩
 show JL _ _ _ _ _ [⟨nb1, [U64 (UInt64.ofNat (prN i))], 38, (0, 0)⟩]
 refine AI (AE (AH (AC (AA (.func (.func 12) #[] #[Ptr nb1 0]) (Ev_makeFunc (vs := [Ptr nb1 0]) rfl (fun _ _ => rfl)) rfl ?_))))
 refine AO (AR 11 [.func (.func 12) #[] #[Ptr nb1 0]] (U32 (g32 constL i)) (A2 [.func (.func 12) #[] #[Ptr nb1 0]] Tryd.call11 rfl) (fun w1 hw1 => rootC_c nb1 (UInt64.ofNat (prN i)) i w1 (RdA.of hw1 (MemAt.ent 0 rfl (A5 _)) (by simp)) (by omega) rfl)) rfl ?_
 rintro v1 L1 ⟨rfl, rfl⟩
 show JL _ _ _ _ ((15, U32 (g32 constL i)) :: _) [_]
 refine AA _ (AF rfl) rfl ?_
 refine AA _ (AF rfl) rfl ?_
 refine AI (AE (BM (BN (.tuple #[U32 (g32 constL i), .nilIface]) (res2 Tryd.results5 (BI rfl) (BI rfl)) fun w1 hw1 => ?_)))
 exact ⟨_, [], rfl, ⟨rfl, rfl⟩, hw1.sub (by simp) (by simp)⟩
theorem constB_c (i : Int)  (w : World) (hi : i < 0 ∨ 64 ≤ i)  : Calls Tryd.prog 5 #[I64 (i)] w (Post w [] (fun v L => v = .tuple #[U32 0, .iface 29 (I64 1)] ∧ L = [])) := by
 refine enter w [] 16 [] [I64 (i)] Tryd.func5 rfl rfl (by simp) (BC (by simp) (by simp) (by simp)) ?_
 show JC _ _ _ [(0, I64 (i))] _
 refine AH (AC (AA _ (AF rfl) rfl ?_))
 refine AA _ (AF rfl) rfl ?_
 refine AI (AE (AH (AH (AC (AA _ (AB rfl) rfl ?_)))))
 refine AA (.bool (decide ((i) < (0:Int)))) (AG rfl rfl fun _ => A9 _ _) rfl ?_
 refine AA _ (AB rfl) rfl ?_
 rcases Bool.eq_false_or_eq_true (decide ((i) < (0:Int))) with hb1 | hb1
 ·
  have hp1 : (i) < (0:Int) := of_decide_eq_true hb1
  refine AL 2 7 false _ rfl rfl hb1 rfl ?_
  refine AL 2 7 false _ rfl rfl hb1 rfl ?_
  refine AA _ (BH _ rfl hb1 rfl) rfl ?_
  refine AI (AE (CJ _ rfl rfl ?_))
  refine AH (AC (AA (.iface 29 (I64 (1:Int))) (Ev_iface Tryd.underlying29 rfl rfl) rfl ?_))
  refine AA _ (AF rfl) rfl ?_
  refine AA _ (AF rfl) rfl ?_
  refine AI (AE (BM (A6 (BN (.tuple #[U32 (0:UInt32), .iface 29 (I64 (1:Int))]) (res2 Tryd.results5 (BI rfl) (BI rfl)) fun w1 hw1 => ?_))))
  exact ⟨_, [], rfl, ⟨rfl, rfl⟩, hw1.sub (by simp) (by simp)⟩
 ·
  have hp1 : ¬ ((i) < (0:Int)) := of_decide_eq_false hb1
  refine AK 2 7 false _ _ rfl rfl hb1 (AB rfl) rfl ?_
  refine AK 2 7 false _ (.bool (decide ((64:Int) ≤ (i)))) rfl rfl hb1 (AG rfl rfl fun _ => B4 _ _) rfl ?_
  refine AA _ (BB _ rfl hb1 rfl) rfl ?_
  refine AI (AE (CJ _ rfl (decide_eq_true (by omega)) ?_))
  refine AH (AC (AA (.iface 29 (I64 (1:Int))) (Ev_iface Tryd.underlying29 rfl rfl) rfl ?_))
  refine AA _ (AF rfl) rfl ?_
  refine AA _ (AF rfl) rfl ?_
  refine AI (AE (BM (A6 (BN (.tuple #[U32 (0:UInt32), .iface 29 (I64 (1:Int))]) (res2 Tryd.results5 (BI rfl) (BI rfl)) fun w1 hw1 => ?_))))
  exact ⟨_, [], rfl, ⟨rfl, rfl⟩, hw1.sub (by simp) (by simp)⟩
theorem init_c (i : Nat)  (w : World) (hi : i < 8)  : Calls Tryd.prog 6 #[I64 ((i:Int))] w (Post w [] (fun v L => v = .tuple #[U32 (g32 initL i), .nilIface] ∧ L = [])) := by
 refine enter w [] 16 [] [I64 ((i:Int))] Tryd.func6 rfl rfl (by simp) (BC (by simp) (by simp) (by simp)) ?_
 show JC _ _ _ [(0, I64 ((i:Int)))] _
 refine AH (AC (AA _ (AF rfl) rfl ?_))
 refine AA _ (AF rfl) rfl ?_
 refine AI (AE (AH (AH (AC (AA _ (AB rfl) rfl ?_)))))
 refine AA (.bool (decide (((i:Int)) < (0:Int)))) (AG rfl rfl fun _ => A9 _ _) rfl ?_
 refine AA _ (AB rfl) rfl ?_
 refine AK 2 7 false _ _ rfl rfl (decide_eq_false (by omega)) (AB rfl) rfl ?_
 refine AK 2 7 false _ (.bool (decide ((8:Int) ≤ ((i:Int))))) rfl rfl (decide_eq_false (by omega)) (AG rfl rfl fun _ => B4 _ _) rfl ?_
 refine AA _ (BB _ rfl (decide_eq_false (by omega)) rfl) rfl ?_
 refine AI (AE (BX _ rfl (decide_eq_false (by omega)) ?_))
 refine AZ (AE (AH (AC (AA _ (AB rfl) rfl ?_))))
 refine AO (AR 10 [I64 ((i:Int))] (U64 (UInt64.ofNat (prN i))) (A2 [I64 ((i:Int))] Tryd.call10 rfl) (fun w1 hw1 => prime_c i w1 (by omega))) rfl ?_
 rintro v1 L1 ⟨rfl, rfl⟩
 show JL _ _ _ _ ((13, U64 (UInt64.ofNat (prN i))) :: _) []
 refine AO (B6 _ ([U64 (0:UInt64)]) BA (by kernel_rfl)) rfl ?_
 rintro v1 L1 ⟨nb1, hnb1, rfl, rfl⟩
 show JL _ _ _ _ ((4, Ptr nb1 0) :: _) [⟨nb1, [U64 (0:UInt64)], 38, (0, 0)⟩]
 refine AO (BP 0 nb1 0 1 ([U64 (0:UInt64)]) 38 (U64 (UInt64.ofNat (prN i))) ([U64 (UInt64.ofNat (prN i))]) ([U64 (UInt64.ofNat (prN i))]) rfl rfl rfl rfl A1 rfl (by simp [Value.oneCell']) (Nat.le_of_ble_eq_true rfl) (B3 (by simp []))) rfl ?_
 rintro v1 L1 ⟨rfl, rfl⟩
 show JL _ _ _ _ _ [⟨nb1, [U64 (UInt64.ofNat (prN i))], 38, (0, 0)⟩]
 refine AI (AE (AH (AC (AA (.func (.func 14) #[] #[Ptr nb1 0]) (Ev_makeFunc (vs := [Ptr nb1 0]) rfl (fun _ _ => rfl)) rfl ?_))))
 refine AO (AR 11 [.func (.func 14) #[] #[Ptr nb1 0]] (U32 (g32 initL i)) (A2 [.func (.func 14) #[] #[Ptr nb1 0]] Tryd.call11 rfl) (fun w1 hw1 => rootI_c nb1 (UInt64.ofNat (prN i)) i w1 (RdA.of hw1 (MemAt.ent 0 rfl (A5 _)) (by simp)) (by omega) rfl)) rfl ?_
 rintro v1 L1 ⟨rfl, rfl⟩
 show JL _ _ _ _ ((15, U32 (g32 initL i)) :: _) [_]
 refine AA _ (AF rfl) rfl ?_
 refine AA _ (AF rfl) rfl ?_
 refine AI (AE (BM (BN (.tuple #[U32 (g32 initL i), .nilIface]) (res2 Tryd.results6 (BI rfl) (BI rfl)) fun w1 hw1 => ?_)))
 exact ⟨_, [], rfl, ⟨rfl, rfl⟩, hw1.sub (by simp) (by simp)⟩
theorem initB_c (i : Int)  (w : World) (hi : i < 0 ∨ 8 ≤ i)  : Calls Tryd.prog 6 #[I64 (i)] w (Post w [] (fun v L => v = .tuple #[U32 0, .iface 29 (I64 1)] ∧ L = [])) := by
 refine enter w [] 16 [] [I64 (i)] Tryd.func6 rfl rfl (by simp) (BC (by simp) (by simp) (by simp)) ?_
 show JC _ _ _ [(0, I64 (i))] _
 refine AH (AC (AA _ (AF rfl) rfl ?_))
 refine AA _ (AF rfl) rfl ?_
 refine AI (AE (AH (AH (AC (AA _ (AB rfl) rfl ?_)))))
 refine AA (.bool (decide ((i) < (0:Int)))) (AG rfl rfl fun _ => A9 _ _) rfl ?_
 refine AA _ (AB rfl) rfl ?_
 rcases Bool.eq_false_or_eq_true (decide ((i) < (0:Int))) with hb1 | hb1
 ·
  have hp1 : (i) < (0:Int) := of_decide_eq_true hb1
  refine AL 2 7 false _ rfl rfl hb1 rfl ?_
  refine AL 2 7 false _ rfl rfl hb1 rfl ?_
  refine AA _ (BH _ rfl hb1 rfl) rfl ?_
  refine AI (AE (CJ _ rfl rfl ?_))
  refine AH (AC (AA (.iface 29 (I64 (1:Int))) (Ev_iface Tryd.underlying29 rfl rfl) rfl ?_))
  refine AA _ (AF rfl) rfl ?_
  refine AA _ (AF rfl) rfl ?_
  refine AI (AE (BM (A6 (BN (.tuple #[U32 (0:UInt32), .iface 29 (I64 (1:Int))]) (res2 Tryd.results6 (BI rfl) (BI rfl)) fun w1 hw1 => ?_))))
  exact ⟨_, [], rfl, ⟨rfl, rfl⟩, hw1.sub (by simp) (by simp)⟩
 ·
  have hp1 : ¬ ((i) < (0:Int)) := of_decide_eq_false hb1
  refine AK 2 7 false _ _ rfl rfl hb1 (AB rfl) rfl ?_
  refine AK 2 7 false _ (.bool (decide ((8:Int) ≤ (i)))) rfl rfl hb1 (AG rfl rfl fun _ => B4 _ _) rfl ?_
  refine AA _ (BB _ rfl hb1 rfl) rfl ?_
  refine AI (AE (CJ _ rfl (decide_eq_true (by omega)) ?_))
  refine AH (AC (AA (.iface 29 (I64 (1:Int))) (Ev_iface Tryd.underlying29 rfl rfl) rfl ?_))
  refine AA _ (AF rfl) rfl ?_
  refine AA _ (AF rfl) rfl ?_
  refine AI (AE (BM (A6 (BN (.tuple #[U32 (0:UInt32), .iface 29 (I64 (1:Int))]) (res2 Tryd.results6 (BI rfl) (BI rfl)) fun w1 hw1 => ?_))))
  exact ⟨_, [], rfl, ⟨rfl, rfl⟩, hw1.sub (by simp) (by simp)⟩
end Go.Proofs.YthbmeklfmamkeaaDoor
namespace Go.Proofs.YthbmeklfmamkeaaDoor
open Go Go.Sx
set_option linter.unusedVariables false
set_option linter.unusedSimpArgs false
set_option maxRecDepth 100000
attribute [local irreducible] mid zr8 zr32 rotr wordL spreadL comprL cpN adN spN constL initL padL stN outN sumG fndN cnt prN isP noDiv valA mulH fitC fitI topN xN wholeN fx3 fx2 dg
theorem not_ltB (a b : Nat) : (!decide (a < b)) = decide (b ≤ a) := by
  by_cases h : a < b
  · rw [decide_eq_true h, decide_eq_false (by omega)]; rfl
  · rw [decide_eq_false h, decide_eq_true (by omega)]; rfl

theorem rroot3_c (x p : UInt64)  (w : World) (hxl : x.toNat < 274877906944) (hpl : p.toNat < 65536)  : Calls Tryd.prog 16 #[U64 x, U64 p, I64 (3:Int)] w (Post w [] (fun v L => v = .bool (fx3 x p) ∧ L = [])) := by
 have hmx : maxLen = 9223372036854775807 := rfl
 refine enter w [] 33 [] [U64 x, U64 p, I64 (3:Int)] Tryd.func16 rfl rfl (by simp) (BC (by simp) (by simp) (by simp)) ?_
 show JC _ _ _ [(0, U64 x), (1, U64 p), (2, I64 (3:Int))] _
 refine AH (AC (AA _ (AF rfl) rfl ?_))
 refine AI (AE (AH (AC (AO (A4 38 1 _ [(0, U64 (1:UInt64))] ([U64 (1:UInt64)]) AM A1 BA rfl rfl rfl (by kernel_rfl)) rfl ?_))))
 rintro v1 L1 ⟨nb1, hnb1, rfl, rfl⟩
 show JL _ _ _ _ ((11, Slc nb1 0 1 1) :: _) [⟨nb1, [U64 (1:UInt64)], 38, (0, 0)⟩]
 refine AA _ (AF rfl) rfl ?_
 refine AI (AE (AH (AH (AC (AA _ (AF rfl) rfl ?_)))))
 refine AI (AE (AY (B7 (ι := Nat × Nat × List UInt64 × Nat × List Value × Nat) (fun ⟨ka, mka, oa, gka, spka, cpka⟩ => [(0, U64 x), (1, U64 p), (2, I64 (3:Int)), (6, .bool false), (8, I64 ((ka:Int))), (7, Slc gka 0 mka cpka)]) (fun ⟨ka, mka, oa, gka, spka, cpka⟩ => [⟨gka, cu64 oa ++ spka, 38, (0, 0)⟩]) (fun ⟨ka, mka, oa, gka, spka, cpka⟩ => ka ≤ 3 ∧ mka ≤ 1 + 5 * ka ∧ oa.length = mka ∧ spka.length = cpka - mka ∧ mka ≤ cpka ∧ cpka ≤ maxLen ∧ Dig oa ∧ valA oa = 1 * x.toNat ^ ka ∧ 0 < mka) (fun ⟨ka, mka, oa, gka, spka, cpka⟩ => 3 - ka) (0, 1, [(1:UInt64)], nb1, [], 1) ⟨by omega, by omega, rfl, rfl, by omega, by omega, (fun a ha => by rw [List.mem_singleton.1 ha]; decide), by rw [valA_one, Nat.pow_zero, Nat.mul_one]; rfl, by omega⟩ (AD rfl (AD rfl (AD rfl (AD rfl (AD rfl (AD rfl (Sub.nil))))))) rfl ?_)))
 rintro ⟨ka, mka, oa, gka, spka, cpka⟩ ⟨hA1, hA8, hA2, hA3, hA6, hA7, hA4, hA5, hA9⟩
 show JC _ _ _ [(0, U64 x), (1, U64 p), (2, I64 (3:Int)), (6, .bool false), (8, I64 ((ka:Int))), (7, Slc gka 0 mka cpka)] [⟨gka, cu64 oa ++ spka, 38, (0, 0)⟩]
 refine AH (AH (AC (AA _ (AB rfl) rfl ?_)))
 refine AA _ (AB rfl) rfl ?_
 refine AA (.bool (decide (((ka:Int)) < (3:Int)))) (AG rfl rfl fun _ => A9 _ _) rfl ?_
 refine AI (AE (BK (decide (((ka:Int)) < (3:Int))) rfl (fun hb1 => ?_) (fun hb1 => ?_)))
 ·
  have hp1 : ((ka:Int)) < (3:Int) := of_decide_eq_true hb1
  refine AZ (AE (AH (AY (AC (AA _ (AB rfl) rfl ?_)))))
  refine AA _ (AB rfl) rfl ?_
  refine AO (Step_callN 22 [Slc gka 0 mka cpka, U64 x] _ (A2 [Slc gka 0 mka cpka, U64 x] Tryd.call22 rfl) (fun w1 hw1 => times_c (some ⟨gka, 0, none⟩) mka cpka oa x w1 hA2 (by omega) (by omega) (by omega) (RdV.ofR hw1 (MemAt.ent 0 rfl (Seg.left (A5 _)))) hA4 hxl (by omega))) rfl ?_
  rintro v1 L1 ⟨_, ⟨nb2, tw1, sp1, cp1, od1, rfl, rfl, hc1, hc2, hc3, hc4, hc5, hc6, hc7, hc8⟩, rfl⟩
  show JL _ _ _ _ ((19, Slc nb2 0 tw1 cp1) :: _) [_, ⟨nb2, cu64 od1 ++ sp1, 38, (0, 0)⟩]
  refine AA _ (AF rfl) rfl ?_
  refine AI (AS (AE (AC (AA _ (AB rfl) rfl ?_))))
  refine AA (I64 ((ka:Int) + 1)) (AG rfl rfl fun _ => BW _ _ ((ka:Int) + 1) (by omega) (by omega)) rfl ?_
  refine AA _ (AF rfl) rfl ?_
  refine AI (A8 (CR [false, true] ?_))
  show K _ _ [_] _
  refine B0 (ka + 1, tw1, od1, nb2, sp1, cp1) ⟨by omega, by omega, hc1, hc2, by omega, by omega, hc5, by rw [hc6, hA5, Nat.pow_succ, Nat.mul_assoc], by omega⟩ (by first | (simp; omega) | simp | (dsimp only; omega) | omega) (AD rfl (AD rfl (AD rfl (AD rfl (AD rfl (AD rfl (Sub.nil))))))) rfl
 ·
  have hp1 : ¬ (((ka:Int)) < (3:Int)) := of_decide_eq_false hb1
  refine B5 (AN (AN (BF (AE (AH (AC (AA _ (AB rfl) rfl ?_)))))))
  refine AO (A4 38 1 _ [(0, U64 p)] ([U64 p]) AM A1 BA rfl rfl rfl (by kernel_rfl)) rfl ?_
  rintro v1 L1 ⟨nb3, hnb3, rfl, rfl⟩
  show JL _ _ _ _ ((21, Slc nb3 0 1 1) :: _) [_, ⟨nb3, [U64 p], 38, (0, 0)⟩]
  refine AA _ (AF rfl) rfl ?_
  refine AI (AE (AH (AH (AC (AA _ (AF rfl) rfl ?_)))))
  refine AI (AE (AY (B7 (ι := Nat × Nat × List UInt64 × Nat × List Value × Nat) (fun ⟨kb, mkb, ob, gkb, spkb, cpkb⟩ => [(2, I64 (3:Int)), (6, .bool false), (7, Slc gka 0 mka cpka), (10, I64 ((kb:Int))), (9, Slc gkb 0 mkb cpkb)]) (fun ⟨kb, mkb, ob, gkb, spkb, cpkb⟩ => [⟨gka, cu64 oa ++ spka, 38, (0, 0)⟩, ⟨gkb, cu64 ob ++ spkb, 38, (0, 0)⟩]) (fun ⟨kb, mkb, ob, gkb, spkb, cpkb⟩ => kb ≤ 3 ∧ mkb ≤ 1 + 5 * kb ∧ ob.length = mkb ∧ spkb.length = cpkb - mkb ∧ mkb ≤ cpkb ∧ cpkb ≤ maxLen ∧ Dig ob ∧ valA ob = p.toNat * (4294967296:UInt64).toNat ^ kb ∧ 0 < mkb) (fun ⟨kb, mkb, ob, gkb, spkb, cpkb⟩ => 3 - kb) (0, 1, [p], nb3, [], 1) ⟨by omega, by omega, rfl, rfl, by omega, by omega, (fun a ha => by rw [List.mem_singleton.1 ha]; exact hpl), by rw [valA_one, Nat.pow_zero, Nat.mul_one], by omega⟩ (AD rfl (AD rfl (AD rfl (AD rfl (AD rfl (Sub.nil)))))) rfl ?_)))
  rintro ⟨kb, mkb, ob, gkb, spkb, cpkb⟩ ⟨hB1, hB8, hB2, hB3, hB6, hB7, hB4, hB5, hB9⟩
  show JC _ _ _ [(2, I64 (3:Int)), (6, .bool false), (7, Slc gka 0 mka cpka), (10, I64 ((kb:Int))), (9, Slc gkb 0 mkb cpkb)] [⟨gka, cu64 oa ++ spka, 38, (0, 0)⟩, ⟨gkb, cu64 ob ++ spkb, 38, (0, 0)⟩]
  refine AH (AH (AC (AA _ (AB rfl) rfl ?_)))
  refine AA _ (AB rfl) rfl ?_
  refine AA (.bool (decide (((kb:Int)) < (3:Int)))) (AG rfl rfl fun _ => A9 _ _) rfl ?_
  refine AI (AE (BK (decide (((kb:Int)) < (3:Int))) rfl (fun hb2 => ?_) (fun hb2 => ?_)))
  ·
   have hp2 : ((kb:Int)) < (3:Int) := of_decide_eq_true hb2
   refine AZ (AE (AH (AY (AC (AA _ (AB rfl) rfl ?_)))))
   refine AO (Step_callN 22 [Slc gkb 0 mkb cpkb, U64 (4294967296:UInt64)] _ (A2 [Slc gkb 0 mkb cpkb, U64 (4294967296:UInt64)] Tryd.call22 rfl) (fun w1 hw1 => times_c (some ⟨gkb, 0, none⟩) mkb cpkb ob (4294967296:UInt64) w1 hB2 (by omega) (by omega) (by omega) (RdV.ofR hw1 (MemAt.ent 1 rfl (Seg.left (A5 _)))) hB4 (by decide) (by omega))) rfl ?_
   rintro v1 L1 ⟨_, ⟨nb4, tw2, sp2, cp2, od2, rfl, rfl, hc9, hc10, hc11, hc12, hc13, hc14, hc15, hc16⟩, rfl⟩
   show JL _ _ _ _ ((28, Slc nb4 0 tw2 cp2) :: _) [_, _, ⟨nb4, cu64 od2 ++ sp2, 38, (0, 0)⟩]
   refine AA _ (AF rfl) rfl ?_
   refine AI (AS (AE (AC (AA _ (AB rfl) rfl ?_))))
   refine AA (I64 ((kb:Int) + 1)) (AG rfl rfl fun _ => BW _ _ ((kb:Int) + 1) (by omega) (by omega)) rfl ?_
   refine AA _ (AF rfl) rfl ?_
   refine AI (A8 (CR [true, false, true] ?_))
   show K _ _ [_, _] _
   refine B0 (kb + 1, tw2, od2, nb4, sp2, cp2) ⟨by omega, by omega, hc9, hc10, by omega, by omega, hc13, by rw [hc14, hB5, Nat.pow_succ, Nat.mul_assoc], by omega⟩ (by first | (simp; omega) | simp | (dsimp only; omega) | omega) (AD rfl (AD rfl (AD rfl (AD rfl (AD rfl (Sub.nil)))))) rfl
  ·
   have hp2 : ¬ (((kb:Int)) < (3:Int)) := of_decide_eq_false hb2
   refine B5 (AN (AN (BF (AE (AH (AC (AA _ (AB rfl) rfl ?_)))))))
   refine AA _ (AB rfl) rfl ?_
   refine AO (AR 23 [Slc gkb 0 mkb cpkb, Slc gka 0 mka cpka] (.bool (decide (valA ob < valA oa))) (A2 [Slc gkb 0 mkb cpkb, Slc gka 0 mka cpka] Tryd.call23 rfl) (fun w1 hw1 => less_c (some ⟨gkb, 0, none⟩) mkb cpkb ob (some ⟨gka, 0, none⟩) mka cpka oa w1 hB2 (by omega) (by omega) (by omega) (RdV.ofR hw1 (MemAt.ent 1 rfl (Seg.left (A5 _)))) hA2 (by omega) (by omega) (by omega) (RdV.ofR hw1 (MemAt.ent 0 rfl (Seg.left (A5 _)))) hB4 hA4)) rfl ?_
   rintro v1 L1 ⟨rfl, rfl⟩
   show JL _ _ _ _ ((31, .bool (decide (valA ob < valA oa))) :: _) [_, _]
   refine AA (.bool (!(decide (valA ob < valA oa)))) (Ev_not rfl) rfl ?_
   refine AA _ (AF rfl) rfl ?_
   refine AI (AE (BM (BN (.bool (!(decide (valA ob < valA oa)))) (res1 Tryd.results16 (BI rfl)) fun w1 hw1 => ?_)))
   obtain rfl : ka = 3 := by omega
   obtain rfl : kb = 3 := by omega
   have e3 : (4294967296:UInt64).toNat ^ 3 = 79228162514264337593543950336 := by decide +kernel
   refine ⟨_, [], rfl, ⟨congrArg Value.bool ?_, rfl⟩, hw1.sub (by simp) (by simp)⟩
   unfold fx3
   rw [hA5, hB5, e3, Nat.one_mul]
   exact not_ltB _ _
theorem rroot2_c (x p : UInt64)  (w : World) (hxl : x.toNat < 274877906944) (hpl : p.toNat < 65536)  : Calls Tryd.prog 16 #[U64 x, U64 p, I64 (2:Int)] w (Post w [] (fun v L => v = .bool (fx2 x p) ∧ L = [])) := by
 have hmx : maxLen = 9223372036854775807 := rfl
 refine enter w [] 33 [] [U64 x, U64 p, I64 (2:Int)] Tryd.func16 rfl rfl (by simp) (BC (by simp) (by simp) (by simp)) ?_
 show JC _ _ _ [(0, U64 x), (1, U64 p), (2, I64 (2:Int))] _
 refine AH (AC (AA _ (AF rfl) rfl ?_))
 refine AI (AE (AH (AC (AO (A4 38 1 _ [(0, U64 (1:UInt64))] ([U64 (1:UInt64)]) AM A1 BA rfl rfl rfl (by kernel_rfl)) rfl ?_))))
 rintro v1 L1 ⟨nb1, hnb1, rfl, rfl⟩
 show JL _ _ _ _ ((11, Slc nb1 0 1 1) :: _) [⟨nb1, [U64 (1:UInt64)], 38, (0, 0)⟩]
 refine AA _ (AF rfl) rfl ?_
 refine AI (AE (AH (AH (AC (AA _ (AF rfl) rfl ?_)))))
 refine AI (AE (AY (B7 (ι := Nat × Nat × List UInt64 × Nat × List Value × Nat) (fun ⟨ka, mka, oa, gka, spka, cpka⟩ => [(0, U64 x), (1, U64 p), (2, I64 (2:Int)), (6, .bool false), (8, I64 ((ka:Int))), (7, Slc gka 0 mka cpka)]) (fun ⟨ka, mka, oa, gka, spka, cpka⟩ => [⟨gka, cu64 oa ++ spka, 38, (0, 0)⟩]) (fun ⟨ka, mka, oa, gka, spka, cpka⟩ => ka ≤ 2 ∧ mka ≤ 1 + 5 * ka ∧ oa.length = mka ∧ spka.length = cpka - mka ∧ mka ≤ cpka ∧ cpka ≤ maxLen ∧ Dig oa ∧ valA oa = 1 * x.toNat ^ ka ∧ 0 < mka) (fun ⟨ka, mka, oa, gka, spka, cpka⟩ => 2 - ka) (0, 1, [(1:UInt64)], nb1, [], 1) ⟨by omega, by omega, rfl, rfl, by omega, by omega, (fun a ha => by rw [List.mem_singleton.1 ha]; decide), by rw [valA_one, Nat.pow_zero, Nat.mul_one]; rfl, by omega⟩ (AD rfl (AD rfl (AD rfl (AD rfl (AD rfl (AD rfl (Sub.nil))))))) rfl ?_)))
 rintro ⟨ka, mka, oa, gka, spka, cpka⟩ ⟨hA1, hA8, hA2, hA3, hA6, hA7, hA4, hA5, hA9⟩
 show JC _ _ _ [(0, U64 x), (1, U64 p), (2, I64 (2:Int)), (6, .bool false), (8, I64 ((ka:Int))), (7, Slc gka 0 mka cpka)] [⟨gka, cu64 oa ++ spka, 38, (0, 0)⟩]
 refine AH (AH (AC (AA _ (AB rfl) rfl ?_)))
 refine AA _ (AB rfl) rfl ?_
 refine AA (.bool (decide (((ka:Int)) < (2:Int)))) (AG rfl rfl fun _ => A9 _ _) rfl ?_
 refine AI (AE (BK (decide (((ka:Int)) < (2:Int))) rfl (fun hb1 => ?_) (fun hb1 => ?_)))
 ·
  have hp1 : ((ka:Int)) < (2:Int) := of_decide_eq_true hb1
  refine AZ (AE (AH (AY (AC (AA _ (AB rfl) rfl ?_)))))
  refine AA _ (AB rfl) rfl ?_
  refine AO (Step_callN 22 [Slc gka 0 mka cpka, U64 x] _ (A2 [Slc gka 0 mka cpka, U64 x] Tryd.call22 rfl) (fun w1 hw1 => times_c (some ⟨gka, 0, none⟩) mka cpka oa x w1 hA2 (by omega) (by omega) (by omega) (RdV.ofR hw1 (MemAt.ent 0 rfl (Seg.left (A5 _)))) hA4 hxl (by omega))) rfl ?_
  rintro v1 L1 ⟨_, ⟨nb2, tw1, sp1, cp1, od1, rfl, rfl, hc1, hc2, hc3, hc4, hc5, hc6, hc7, hc8⟩, rfl⟩
  show JL _ _ _ _ ((19, Slc nb2 0 tw1 cp1) :: _) [_, ⟨nb2, cu64 od1 ++ sp1, 38, (0, 0)⟩]
  refine AA _ (AF rfl) rfl ?_
  refine AI (AS (AE (AC (AA _ (AB rfl) rfl ?_))))
  refine AA (I64 ((ka:Int) + 1)) (AG rfl rfl fun _ => BW _ _ ((ka:Int) + 1) (by omega) (by omega)) rfl ?_
  refine AA _ (AF rfl) rfl ?_
  refine AI (A8 (CR [false, true] ?_))
  show K _ _ [_] _
  refine B0 (ka + 1, tw1, od1, nb2, sp1, cp1) ⟨by omega, by omega, hc1, hc2, by omega, by omega, hc5, by rw [hc6, hA5, Nat.pow_succ, Nat.mul_assoc], by omega⟩ (by first | (simp; omega) | simp | (dsimp only; omega) | omega) (AD rfl (AD rfl (AD rfl (AD rfl (AD rfl (AD rfl (Sub.nil))))))) rfl
 ·
  have hp1 : ¬ (((ka:Int)) < (2:Int)) := of_decide_eq_false hb1
  refine B5 (AN (AN (BF (AE (AH (AC (AA _ (AB rfl) rfl ?_)))))))
  refine AO (A4 38 1 _ [(0, U64 p)] ([U64 p]) AM A1 BA rfl rfl rfl (by kernel_rfl)) rfl ?_
  rintro v1 L1 ⟨nb3, hnb3, rfl, rfl⟩
  show JL _ _ _ _ ((21, Slc nb3 0 1 1) :: _) [_, ⟨nb3, [U64 p], 38, (0, 0)⟩]
  refine AA _ (AF rfl) rfl ?_
  refine AI (AE (AH (AH (AC (AA _ (AF rfl) rfl ?_)))))
  refine AI (AE (AY (B7 (ι := Nat × Nat × List UInt64 × Nat × List Value × Nat) (fun ⟨kb, mkb, ob, gkb, spkb, cpkb⟩ => [(2, I64 (2:Int)), (6, .bool false), (7, Slc gka 0 mka cpka), (10, I64 ((kb:Int))), (9, Slc gkb 0 mkb cpkb)]) (fun ⟨kb, mkb, ob, gkb, spkb, cpkb⟩ => [⟨gka, cu64 oa ++ spka, 38, (0, 0)⟩, ⟨gkb, cu64 ob ++ spkb, 38, (0, 0)⟩]) (fun ⟨kb, mkb, ob, gkb, spkb, cpkb⟩ => kb ≤ 2 ∧ mkb ≤ 1 + 5 * kb ∧ ob.length = mkb ∧ spkb.length = cpkb - mkb ∧ mkb ≤ cpkb ∧ cpkb ≤ maxLen ∧ Dig ob ∧ valA ob = p.toNat * (4294967296:UInt64).toNat ^ kb ∧ 0 < mkb) (fun ⟨kb, mkb, ob, gkb, spkb, cpkb⟩ => 2 - kb) (0, 1, [p], nb3, [], 1) ⟨by omega, by omega, rfl, rfl, by omega, by omega, (fun a ha => by rw [List.mem_singleton.1 ha]; exact hpl), by rw [valA_one, Nat.pow_zero, Nat.mul_one], by omega⟩ (AD rfl (AD rfl (AD rfl (AD rfl (AD rfl (Sub.nil)))))) rfl ?_)))
  rintro ⟨kb, mkb, ob, gkb, spkb, cpkb⟩ ⟨hB1, hB8, hB2, hB3, hB6, hB7, hB4, hB5, hB9⟩
  show JC _ _ _ [(2, I64 (2:Int)), (6, .bool false), (7, Slc gka 0 mka cpka), (10, I64 ((kb:Int))), (9, Slc gkb 0 mkb cpkb)] [⟨gka, cu64 oa ++ spka, 38, (0, 0)⟩, ⟨gkb, cu64 ob ++ spkb, 38, (0, 0)⟩]
  refine AH (AH (AC (AA _ (AB rfl) rfl ?_)))
  refine AA _ (AB rfl) rfl ?_
  refine AA (.bool (decide (((kb:Int)) < (2:Int)))) (AG rfl rfl fun _ => A9 _ _) rfl ?_
  refine AI (AE (BK (decide (((kb:Int)) < (2:Int))) rfl (fun hb2 => ?_) (fun hb2 => ?_)))
  ·
   have hp2 : ((kb:Int)) < (2:Int) := of_decide_eq_true hb2
   refine AZ (AE (AH (AY (AC (AA _ (AB rfl) rfl ?_)))))
   refine AO (Step_callN 22 [Slc gkb 0 mkb cpkb, U64 (4294967296:UInt64)] _ (A2 [Slc gkb 0 mkb cpkb, U64 (4294967296:UInt64)] Tryd.call22 rfl) (fun w1 hw1 => times_c (some ⟨gkb, 0, none⟩) mkb cpkb ob (4294967296:UInt64) w1 hB2 (by omega) (by omega) (by omega) (RdV.ofR hw1 (MemAt.ent 1 rfl (Seg.left (A5 _)))) hB4 (by decide) (by omega))) rfl ?_
   rintro v1 L1 ⟨_, ⟨nb4, tw2, sp2, cp2, od2, rfl, rfl, hc9, hc10, hc11, hc12, hc13, hc14, hc15, hc16⟩, rfl⟩
   show JL _ _ _ _ ((28, Slc nb4 0 tw2 cp2) :: _) [_, _, ⟨nb4, cu64 od2 ++ sp2, 38, (0, 0)⟩]
   refine AA _ (AF rfl) rfl ?_
   refine AI (AS (AE (AC (AA _ (AB rfl) rfl ?_))))
   refine AA (I64 ((kb:Int) + 1)) (AG rfl rfl fun _ => BW _ _ ((kb:Int) + 1) (by omega) (by omega)) rfl ?_
   refine AA _ (AF rfl) rfl ?_
   refine AI (A8 (CR [true, false, true] ?_))
   show K _ _ [_, _] _
   refine B0 (kb + 1, tw2, od2, nb4, sp2, cp2) ⟨by omega, by omega, hc9, hc10, by omega, by omega, hc13, by rw [hc14, hB5, Nat.pow_succ, Nat.mul_assoc], by omega⟩ (by first | (simp; omega) | simp | (dsimp only; omega) | omega) (AD rfl (AD rfl (AD rfl (AD rfl (AD rfl (Sub.nil)))))) rfl
  ·
   have hp2 : ¬ (((kb:Int)) < (2:Int)) := of_decide_eq_false hb2
   refine B5 (AN (AN (BF (AE (AH (AC (AA _ (AB rfl) rfl ?_)))))))
   refine AA _ (AB rfl) rfl ?_
   refine AO (AR 23 [Slc gkb 0 mkb cpkb, Slc gka 0 mka cpka] (.bool (decide (valA ob < valA oa))) (A2 [Slc gkb 0 mkb cpkb, Slc gka 0 mka cpka] Tryd.call23 rfl) (fun w1 hw1 => less_c (some ⟨gkb, 0, none⟩) mkb cpkb ob (some ⟨gka, 0, none⟩) mka cpka oa w1 hB2 (by omega) (by omega) (by omega) (RdV.ofR hw1 (MemAt.ent 1 rfl (Seg.left (A5 _)))) hA2 (by omega) (by omega) (by omega) (RdV.ofR hw1 (MemAt.ent 0 rfl (Seg.left (A5 _)))) hB4 hA4)) rfl ?_
   rintro v1 L1 ⟨rfl, rfl⟩
   show JL _ _ _ _ ((31, .bool (decide (valA ob < valA oa))) :: _) [_, _]
   refine AA (.bool (!(decide (valA ob < valA oa)))) (Ev_not rfl) rfl ?_
   refine AA _ (AF rfl) rfl ?_
   refine AI (AE (BM (BN (.bool (!(decide (valA ob < valA oa)))) (res1 Tryd.results16 (BI rfl)) fun w1 hw1 => ?_)))
   obtain rfl : ka = 2 := by omega
   obtain rfl : kb = 2 := by omega
   have e3 : (4294967296:UInt64).toNat ^ 2 = 18446744073709551616 := by decide +kernel
   refine ⟨_, [], rfl, ⟨congrArg Value.bool ?_, rfl⟩, hw1.sub (by simp) (by simp)⟩
   unfold fx2
   rw [hA5, hB5, e3, Nat.one_mul]
   exact not_ltB _ _
end Go.Proofs.YthbmeklfmamkeaaDoor
namespace Go.Proofs.YthbmeklfmamkeaaDoor
open Go Go.Sx
set_option linter.unusedVariables false
set_option linter.unusedSimpArgs false
set_option maxRecDepth 100000
attribute [local irreducible] mid zr8 zr32 rotr wordL spreadL comprL cpN adN spN constL initL padL stN outN sumG fndN cnt prN isP noDiv valA mulH fitC fitI topN xN wholeN fx3 fx2 dg
theorem errNo_c  (w : World) : Calls Tryd.prog 15 #[.nilIface] w (Post w [] (fun v L => v = I64 0 ∧ L = [])) := by
 refine enter w [] 18 [] [.nilIface] Tryd.func15 rfl rfl (by simp) (BC (by simp) (by simp) (by simp)) ?_
 show JC _ _ _ [(0, .nilIface)] _
 refine AH (AC (AA _ (AF rfl) rfl ?_))
 refine AI (AE (AH (AH (AC (AA _ (AB rfl) rfl ?_)))))
 refine AA (.bool true) (B2 _ _ _ rfl rfl (fun _ => CG ..) fun _ => CF AT) rfl ?_
 refine AI (AE (CJ _ rfl rfl ?_))
 refine AH (AC (AA _ (AF rfl) rfl ?_))
 refine AI (AE (BM (A6 (BN (I64 (0:Int)) (res1 Tryd.results15 (BI rfl)) fun w1 hw1 => ?_))))
 exact ⟨_, [], rfl, ⟨rfl, rfl⟩, hw1.sub (by simp) (by simp)⟩
theorem errSome_c (e : Nat) (w : World) (he : e ≠ 0) : Calls Tryd.prog 15 #[.iface 29 (I64 ((e:Int)))] w (Post w [] (fun v L => v = I64 (e : Int) ∧ L = [])) := by
 refine enter w [] 18 [] [.iface 29 (I64 ((e:Int)))] Tryd.func15 rfl rfl (by simp) (BC (by simp) (by simp) (by simp)) ?_
 show JC _ _ _ [(0, .iface 29 (I64 ((e:Int))))] _
 refine AH (AC (AA _ (AF rfl) rfl ?_))
 refine AI (AE (AH (AH (AC (AA _ (AB rfl) rfl ?_)))))
 refine AA (.bool false) (B2 _ _ _ rfl rfl (fun _ => B1 ..) fun _ => eql_if_nil AT) rfl ?_
 refine AI (AE (BX _ rfl rfl ?_))
 refine AZ (AE (AH (AH (AC (AA _ (AB rfl) rfl ?_)))))
 refine AA (.tuple #[I64 ((e:Int)), .bool true]) (Ev_assert _ _ rfl (fun _ => by kernel_rfl)) rfl ?_
 refine AA _ (AB rfl) rfl ?_
 refine AA _ (BQ rfl rfl) rfl ?_
 refine AA _ (BQ rfl rfl) rfl ?_
 refine AA _ (AF rfl) rfl ?_
 refine AA _ (AF rfl) rfl ?_
 refine AI (AE (AH (AC (AA _ (AB rfl) rfl ?_))))
 refine AA _ (AB rfl) rfl ?_
 refine AK 1 13 true _ _ rfl rfl rfl (AB rfl) rfl ?_
 refine AK 1 13 true _ (.bool (decide (((e:Int)) ≠ (0:Int)))) rfl rfl rfl (AG rfl rfl fun _ => bin_neq_i _ _) rfl ?_
 refine AA _ (BH _ rfl rfl rfl) rfl ?_
 refine AI (AE (CJ _ rfl (decide_eq_true (by omega)) ?_))
 refine AH (AC (AA _ (AB rfl) rfl ?_))
 refine AA _ (AF rfl) rfl ?_
 refine AI (AE (BM (A6 (BN (I64 ((e:Int))) (res1 Tryd.results15 (BI rfl)) fun w1 hw1 => ?_))))
 exact ⟨_, [], rfl, ⟨rfl, rfl⟩, hw1.sub (by simp) (by simp)⟩
theorem errNum_w (e : Nat) (w : World) : Calls Tryd.prog 15 #[errV 29 e] w (Post w [] (fun v L => v = I64 (e : Int) ∧ L = [])) := by
  by_cases he : e = 0
  · subst he; exact errNo_c w
  · rw [errV_pos he]; exact errSome_c e w he

theorem is_c (e k : Nat) (w : World) : Calls Tryd.prog 7 #[errV 29 e, I64 ((k:Int))] w (Post w [] (fun v L => v = .bool (decide ((e:Int) = (k:Int))) ∧ L = [])) := by
 refine enter w [] 9 [] [errV 29 e, I64 ((k:Int))] Tryd.func7 rfl rfl (by simp) (BC (by simp) (by simp) (by simp)) ?_
 show JC _ _ _ [(0, errV 29 e), (1, I64 ((k:Int)))] _
 refine AH (AC (AA _ (AF rfl) rfl ?_))
 refine AI (AE (AH (AC (AA _ (AB rfl) rfl ?_))))
 refine AO (AR 15 [errV 29 e] (I64 ((e:Int))) (A2 [errV 29 e] Tryd.call15 rfl) (fun w1 hw1 => errNum_w e w1)) rfl ?_
 rintro v1 L1 ⟨rfl, rfl⟩
 show JL _ _ _ _ ((6, I64 ((e:Int))) :: _) []
 refine AA _ (AB rfl) rfl ?_
 refine AA (.bool (decide (((e:Int)) = ((k:Int))))) (AG rfl rfl fun _ => bin_eql_i _ _) rfl ?_
 refine AA _ (AF rfl) rfl ?_
 refine AI (AE (BM (BN (.bool (decide (((e:Int)) = ((k:Int))))) (res1 Tryd.results7 (BI rfl)) fun w1 hw1 => ?_)))
 exact ⟨_, [], rfl, ⟨rfl, rfl⟩, hw1.sub (by simp) (by simp)⟩
theorem rRoot3_c (n : UInt32) (i : Nat)  (w : World) (hi : i < 64)  : Calls Tryd.prog 8 #[U32 n, I64 ((i:Int)), I64 (3:Int)] w (Post w [] (fun v L => v = .bool (fx3 (rX n i 3) (UInt64.ofNat (prN i)) && !fx3 (rX n i 3 + 1) (UInt64.ofNat (prN i))) ∧ L = [])) := by
 have hmx : maxLen = 9223372036854775807 := rfl
 refine enter w [] 58 [] [U32 n, I64 ((i:Int)), I64 (3:Int)] Tryd.func8 rfl rfl (by simp) (BC (by simp) (by simp) (by simp)) ?_
 show JC _ _ _ [(0, U32 n), (1, I64 ((i:Int))), (2, I64 (3:Int))] _
 refine AH (AC (AA _ (AF rfl) rfl ?_))
 refine AI (AE (AH (AC (AA _ (AF rfl) rfl ?_))))
 refine AA _ (AF rfl) rfl ?_
 refine AI (AE (AH (AY (B7 (ι := Nat × UInt64 × Int) (fun ⟨N, pv, fd⟩ => [(0, U32 n), (1, I64 ((i:Int))), (2, I64 (3:Int)), (6, .bool false), (7, U64 pv), (8, I64 (fd))]) (fun ⟨N, pv, fd⟩ => []) (fun ⟨N, pv, fd⟩ => pv = UInt64.ofNat N ∧ 1 ≤ N ∧ N < 312 ∧ fd = (cnt (N + 1) : Int) - 1 ∧ cnt (N + 1) ≤ i + 1 ∧ (cnt (N + 1) = i + 1 → N = prN i)) (fun ⟨N, pv, fd⟩ => 312 - N) (1, 1, -1) ⟨by decide, by omega, by omega, by rw [cnt_two]; rfl, by rw [cnt_two]; omega, fun h => by rw [cnt_two] at h; omega⟩ (AD rfl (AD rfl (AD rfl (AD rfl (AD rfl (AD rfl (Sub.nil))))))) rfl ?_))))
 rintro ⟨N, pv, fd⟩ ⟨hx1, hx2, hx3, hx4, hx5, hx6⟩
 show JC _ _ _ [(0, U32 n), (1, I64 ((i:Int))), (2, I64 (3:Int)), (6, .bool false), (7, U64 pv), (8, I64 (fd))] []
 refine AH (AH (AC (AA _ (AB rfl) rfl ?_)))
 refine AA _ (AB rfl) rfl ?_
 refine AA (.bool (decide ((fd) < ((i:Int))))) (AG rfl rfl fun _ => A9 _ _) rfl ?_
 refine AI (AE (BK (decide ((fd) < ((i:Int)))) rfl (fun hb1 => ?_) (fun hb1 => ?_)))
 ·
  have hp1 : (fd) < ((i:Int)) := of_decide_eq_true hb1
  refine AZ (AE (AY (AH (AC (AA _ (AB rfl) rfl ?_)))))
  refine AA (U64 (pv + (1:UInt64))) (AG rfl rfl fun _ => BG pv (1:UInt64)) rfl ?_
  refine AA _ (AF rfl) rfl ?_
  refine AI (AE (AH (AC (AA _ (AF rfl) rfl ?_))))
  refine AI (AE (AH (AH (AC (AA _ (AF rfl) rfl ?_)))))
  refine AI (AE (AY ?_))
  have hN1 : N + 1 < 312 := cnt_in (by omega) (show cnt (N + 1) ≤ i by omega) hi
  refine B7 (ι := Nat × UInt64 × Bool) (fun ⟨D, dv, bb⟩ => [(0, U32 n), (1, I64 ((i:Int))), (2, I64 (3:Int)), (6, .bool false), (7, U64 (pv + (1:UInt64))), (8, I64 (fd)), (13, I64 (fd)), (14, I64 ((i:Int))), (15, .bool (decide ((fd) < ((i:Int))))), (16, U64 pv), (17, U64 (pv + (1:UInt64))), (10, U64 dv), (9, .bool bb)]) (fun ⟨D, dv, bb⟩ => []) (fun ⟨D, dv, bb⟩ => 2 ≤ D ∧ D ≤ N + 1 ∧ dv = UInt64.ofNat D ∧ bb = noDiv (N + 1) D) (fun ⟨D, dv, bb⟩ => N + 1 - D) (2, 2, true) ⟨by omega, by omega, by decide, (noDiv_two _).symm⟩ (AD rfl (AD rfl (AD rfl (AD rfl (AD rfl (AD rfl (AD rfl (AD rfl (AD rfl (AD rfl (AD rfl (AD rfl (AD rfl (Sub.nil)))))))))))))) rfl ?_
  rintro ⟨D, dv, bb⟩ ⟨hy1, hy2, hy3, hy4⟩
  show JC _ _ _ [(0, U32 n), (1, I64 ((i:Int))), (2, I64 (3:Int)), (6, .bool false), (7, U64 (pv + (1:UInt64))), (8, I64 (fd)), (13, I64 (fd)), (14, I64 ((i:Int))), (15, .bool (decide ((fd) < ((i:Int))))), (16, U64 pv), (17, U64 (pv + (1:UInt64))), (10, U64 dv), (9, .bool bb)] []
  refine AH (AH (AC (AA _ (AB rfl) rfl ?_)))
  refine AA _ (AB rfl) rfl ?_
  refine AA (.bool (decide (dv < (pv + (1:UInt64))))) (AG rfl rfl fun _ => CM dv (pv + (1:UInt64))) rfl ?_
  refine AI (AE (BK (decide (dv < (pv + (1:UInt64)))) rfl (fun hb2 => ?_) (fun hb2 => ?_)))
  ·
   have hp2 : dv < (pv + (1:UInt64)) := of_decide_eq_true hb2
   refine AZ (AE (AH (AY (AC (AA _ (AB rfl) rfl ?_)))))
   refine AA _ (AB rfl) rfl ?_
   rcases Bool.eq_false_or_eq_true (bb) with hb3 | hb3
   ·
    refine AK 1 24 true _ _ rfl rfl hb3 (AB rfl) rfl ?_
    refine AK 1 24 true _ _ rfl rfl hb3 (AB rfl) rfl ?_
    refine AK 1 24 true _ (U64 ((pv + (1:UInt64)) % dv)) rfl rfl hb3 (AG rfl rfl fun _ => bin_rem_u64 (pv + (1:UInt64)) dv (by rw [hy3]; exact ofN_ne0 (by omega) (by omega))) rfl ?_
    refine AK 1 24 true _ (.bool (decide (((pv + (1:UInt64)) % dv) ≠ (0:UInt64)))) rfl rfl hb3 (AG rfl rfl fun _ => bin_neq_u64 ((pv + (1:UInt64)) % dv) (0:UInt64)) rfl ?_
    refine AA _ (BH _ rfl hb3 rfl) rfl ?_
    refine AA _ (AF rfl) rfl ?_
    refine AI (AS (AE (AC (AA _ (AB rfl) rfl ?_))))
    refine AA (U64 (dv + (1:UInt64))) (AG rfl rfl fun _ => BG dv (1:UInt64)) rfl ?_
    refine AA _ (AF rfl) rfl ?_
    refine AI (A8 (B0 (D + 1, dv + (1:UInt64), (decide (((pv + (1:UInt64)) % dv) ≠ (0:UInt64)))) ⟨by omega, by have h : D < N + 1 := (ofN_lt (by omega) (by omega)).1 (by rw [← hy3, ← BU, ← hx1]; assumption); omega, by rw [hy3, BU], by rw [← noDiv_go (by omega) (by omega) (by omega) hy4, hb3, hy3, hx1, BU]; rfl⟩ (by have h : D < N + 1 := (ofN_lt (by omega) (by omega)).1 (by rw [← hy3, ← BU, ← hx1]; assumption); dsimp only; omega) (AD rfl (AD rfl (AD rfl (AD rfl (AD rfl (AD rfl (AD rfl (AD rfl (AD rfl (AD rfl (AD rfl (AD rfl (AD rfl (Sub.nil)))))))))))))) rfl))
   ·
    refine AL 1 24 true _ rfl rfl hb3 rfl ?_
    refine AL 1 24 true _ rfl rfl hb3 rfl ?_
    refine AL 1 24 true _ rfl rfl hb3 rfl ?_
    refine AL 1 24 true _ rfl rfl hb3 rfl ?_
    refine AA _ (BB _ rfl hb3 rfl) rfl ?_
    refine AA _ (AF rfl) rfl ?_
    refine AI (AS (AE (AC (AA _ (AB rfl) rfl ?_))))
    refine AA (U64 (dv + (1:UInt64))) (AG rfl rfl fun _ => BG dv (1:UInt64)) rfl ?_
    refine AA _ (AF rfl) rfl ?_
    refine AI (A8 (B0 (D + 1, dv + (1:UInt64), false) ⟨by omega, by have h : D < N + 1 := (ofN_lt (by omega) (by omega)).1 (by rw [← hy3, ← BU, ← hx1]; assumption); omega, by rw [hy3, BU], by rw [← noDiv_go (by omega) (by omega) (by omega) hy4, hb3]; rfl⟩ (by have h : D < N + 1 := (ofN_lt (by omega) (by omega)).1 (by rw [← hy3, ← BU, ← hx1]; assumption); dsimp only; omega) (AD rfl (AD rfl (AD rfl (AD rfl (AD rfl (AD rfl (AD rfl (AD rfl (AD rfl (AD rfl (AD rfl (AD rfl (AD rfl (Sub.nil)))))))))))))) rfl))
  ·
   have hp2 : ¬ (dv < (pv + (1:UInt64))) := of_decide_eq_false hb2
   refine B5 (AN (AN (BF (AE (AH (AC (AA _ (AB rfl) rfl ?_)))))))
   refine AI (AE (BK (bb) rfl (fun hb4 => ?_) (fun hb4 => ?_)))
   ·
    refine AC (AA _ (AB rfl) rfl ?_)
    refine AA (I64 (fd + 1)) (AG rfl rfl fun _ => BW _ _ (fd + 1) (by omega) (by omega)) rfl ?_
    refine AA _ (AF rfl) rfl ?_
    refine AI (AS (A8 ?_))
    obtain rfl : D = N + 1 := by
     have h1 : ¬ D < N + 1 := fun h => (by assumption : ¬ dv < pv + 1) (by rw [hy3, hx1, BU]; exact (ofN_lt (by omega) (by omega)).2 h)
     omega
    have hnd := noDiv_end (N + 1) hN1 (by omega)
    rw [← hy4] at hnd
    have hnp : isP (N + 1) = true := by rw [← hnd]; exact hb4
    obtain ⟨hq1, hq2, hq3⟩ := fnd_yes (N + 1) hN1 hnp
    refine B0 (N + 1, pv + (1:UInt64), (fd + 1)) ⟨by rw [hx1, BU], by omega, hN1, by omega, by omega, fun h => by rw [← hq3]; congr 1; omega⟩ (by dsimp only; omega) (AD rfl (AD rfl (AD rfl (AD rfl (AD rfl (AD rfl (Sub.nil))))))) rfl
   ·
    refine AZ (AS (A8 ?_))
    obtain rfl : D = N + 1 := by
     have h1 : ¬ D < N + 1 := fun h => (by assumption : ¬ dv < pv + 1) (by rw [hy3, hx1, BU]; exact (ofN_lt (by omega) (by omega)).2 h)
     omega
    have hnd := noDiv_end (N + 1) hN1 (by omega)
    rw [← hy4] at hnd
    have hnp : isP (N + 1) = false := by rw [← hnd]; exact hb4
    obtain ⟨hq1, hq2⟩ := fnd_no (N + 1) hN1 hnp
    refine B0 (N + 1, pv + (1:UInt64), (fd)) ⟨by rw [hx1, BU], by omega, hN1, by omega, by omega, fun h => by omega⟩ (by dsimp only; omega) (AD rfl (AD rfl (AD rfl (AD rfl (AD rfl (AD rfl (Sub.nil))))))) rfl
 ·
  have hp1 : ¬ ((fd) < ((i:Int))) := of_decide_eq_false hb1
  refine B5 (AN (AN (BF (AE (AH (AC (AA _ (AF rfl) rfl ?_)))))))
  refine AI (AE (AH (AY ?_)))
  obtain rfl : N = prN i := hx6 (by omega)
  have hpN : pv = UInt64.ofNat (prN i) := hx1
  have hpl := pr_lt i hi
  have hwl := (whole_lt i hi).1
  refine B7 (ι := Nat × UInt64) (fun ⟨W, wv⟩ => [(0, U32 n), (2, I64 (3:Int)), (6, .bool false), (7, U64 pv), (11, U64 wv)]) (fun ⟨W, wv⟩ => []) (fun ⟨W, wv⟩ => W ≤ wholeN i 3 ∧ wv = UInt64.ofNat W) (fun ⟨W, wv⟩ => wholeN i 3 - W) (0, 0) ⟨by omega, by decide⟩ (AD rfl (AD rfl (AD rfl (AD rfl (AD rfl (Sub.nil)))))) rfl ?_
  rintro ⟨W, wv⟩ ⟨hz1, hz2⟩
  show JC _ _ _ [(0, U32 n), (2, I64 (3:Int)), (6, .bool false), (7, U64 pv), (11, U64 wv)] []
  refine AH (AH (AC (AA _ (AB rfl) rfl ?_)))
  refine AA (U64 (wv + (1:UInt64))) (AG rfl rfl fun _ => BG wv (1:UInt64)) rfl ?_
  refine AA (U64 ((wv + (1:UInt64)) <<< (32:UInt64))) (AG rfl rfl fun _ => CB (wv + (1:UInt64)) _ _ 32 (by decide) rfl) rfl ?_
  refine AA _ (AB rfl) rfl ?_
  refine AA _ (AB rfl) rfl ?_
  refine AO (AR 16 [U64 ((wv + (1:UInt64)) <<< (32:UInt64)), U64 pv, I64 (3:Int)] (.bool (fx3 ((wv + (1:UInt64)) <<< (32:UInt64)) pv)) (A2 [U64 ((wv + (1:UInt64)) <<< (32:UInt64)), U64 pv, I64 (3:Int)] Tryd.call16 rfl) (fun w1 hw1 => rroot3_c ((wv + (1:UInt64)) <<< (32:UInt64)) pv w1 (by rw [hz2, shl32 (by omega)]; omega) (by rw [hpN, ofN_nat (by omega)]; omega))) rfl ?_
  rintro v1 L1 ⟨rfl, rfl⟩
  show JL _ _ _ _ ((38, .bool (fx3 ((wv + (1:UInt64)) <<< (32:UInt64)) pv)) :: _) []
  refine AI (AE (BK (fx3 ((wv + (1:UInt64)) <<< (32:UInt64)) pv) rfl (fun hb5 => ?_) (fun hb5 => ?_)))
  ·
   refine AZ (AE (AY (AC (AA _ (AB rfl) rfl ?_))))
   refine AA (U64 (wv + (1:UInt64))) (AG rfl rfl fun _ => BG wv (1:UInt64)) rfl ?_
   refine AA _ (AF rfl) rfl ?_
   refine AI (AS (A8 (B0 (W + 1, wv + (1:UInt64)) ⟨by have h := whole3 hi (W := W) (by omega); rw [← hz2, ← hpN] at h; rw [hb5] at h; have := of_decide_eq_true h.symm; omega, by rw [hz2, BU]⟩ (by have h := whole3 hi (W := W) (by omega); rw [← hz2, ← hpN] at h; rw [hb5] at h; have := of_decide_eq_true h.symm; dsimp only; omega) (AD rfl (AD rfl (AD rfl (AD rfl (AD rfl (Sub.nil)))))) rfl)))
  ·
   refine B5 (AN (AN (BF (AE (AH (AC (AA _ (AB rfl) rfl ?_)))))))
   refine AA (U64 (wv <<< (32:UInt64))) (AG rfl rfl fun _ => CB wv _ _ 32 (by decide) rfl) rfl ?_
   refine AA _ (AB rfl) rfl ?_
   refine AA (U64 n.toUInt64) (CH _ _ rfl fun _ => conv_u32_u64 (by rw [A3]; rfl) Tryd.underlying38 _) rfl ?_
   refine AA (U64 ((wv <<< (32:UInt64)) ||| n.toUInt64)) (AG rfl rfl fun _ => bin_or_u64 (wv <<< (32:UInt64)) n.toUInt64) rfl ?_
   refine AA _ (AF rfl) rfl ?_
   refine AI (AE (AH (AC (AA _ (AB rfl) rfl ?_))))
   refine AA _ (AB rfl) rfl ?_
   refine AA _ (AB rfl) rfl ?_
   refine AO (AR 16 [U64 ((wv <<< (32:UInt64)) ||| n.toUInt64), U64 pv, I64 (3:Int)] (.bool (fx3 ((wv <<< (32:UInt64)) ||| n.toUInt64) pv)) (A2 [U64 ((wv <<< (32:UInt64)) ||| n.toUInt64), U64 pv, I64 (3:Int)] Tryd.call16 rfl) (fun w1 hw1 => rroot3_c ((wv <<< (32:UInt64)) ||| n.toUInt64) pv w1 (by have h := rX_lt n (W := W) (by omega); rw [← hz2] at h; omega) (by rw [hpN, ofN_nat (by omega)]; omega))) rfl ?_
   rintro v1 L1 ⟨rfl, rfl⟩
   show JL _ _ _ _ ((49, .bool (fx3 ((wv <<< (32:UInt64)) ||| n.toUInt64) pv)) :: _) []
   refine AA _ (AB rfl) rfl ?_
   rcases Bool.eq_false_or_eq_true (fx3 ((wv <<< (32:UInt64)) ||| n.toUInt64) pv) with hb6 | hb6
   ·
    refine AK 4 50 true _ _ rfl rfl hb6 (AB rfl) rfl ?_
    refine AK 4 50 true _ (U64 (((wv <<< (32:UInt64)) ||| n.toUInt64) + (1:UInt64))) rfl rfl hb6 (AG rfl rfl fun _ => BG ((wv <<< (32:UInt64)) ||| n.toUInt64) (1:UInt64)) rfl ?_
    refine AK 4 50 true _ _ rfl rfl hb6 (AB rfl) rfl ?_
    refine AK 4 50 true _ _ rfl rfl hb6 (AB rfl) rfl ?_
    refine JL_gstep 4 50 true _ rfl rfl hb6 (AR 16 [U64 (((wv <<< (32:UInt64)) ||| n.toUInt64) + (1:UInt64)), U64 pv, I64 (3:Int)] (.bool (fx3 (((wv <<< (32:UInt64)) ||| n.toUInt64) + (1:UInt64)) pv)) (A2 [U64 (((wv <<< (32:UInt64)) ||| n.toUInt64) + (1:UInt64)), U64 pv, I64 (3:Int)] Tryd.call16 rfl) (fun w1 hw1 => rroot3_c (((wv <<< (32:UInt64)) ||| n.toUInt64) + (1:UInt64)) pv w1 (by have h := rX_lt n (W := W) (by omega); rw [← hz2] at h; rw [succ_toNat h]; omega) (by rw [hpN, ofN_nat (by omega)]; omega))) rfl ?_
    rintro v1 L1 ⟨rfl, rfl⟩
    show JL _ _ _ _ ((55, .bool (fx3 (((wv <<< (32:UInt64)) ||| n.toUInt64) + (1:UInt64)) pv)) :: _) []
    refine AK 4 50 true _ (.bool (!(fx3 (((wv <<< (32:UInt64)) ||| n.toUInt64) + (1:UInt64)) pv))) rfl rfl hb6 (Ev_not rfl) rfl ?_
    refine AA _ (BH _ rfl hb6 rfl) rfl ?_
    refine AA _ (AF rfl) rfl ?_
    refine AI (AE (BM (BN (.bool (!(fx3 (((wv <<< (32:UInt64)) ||| n.toUInt64) + (1:UInt64)) pv))) (res1 Tryd.results8 (BI rfl)) fun w1 hw1 => ?_)))
    obtain rfl : W = wholeN i 3 := by
     have h := whole3 hi (W := W) (by omega)
     rw [← hz2, ← hpN] at h
     rw [hb5] at h
     have := of_decide_eq_false h.symm
     omega
    refine ⟨_, [], rfl, ⟨congrArg Value.bool ?_, rfl⟩, hw1.sub (by simp) (by simp)⟩
    unfold rX
    rw [← hz2, ← hpN, hb6]
    rfl
   ·
    refine AL 4 50 true _ rfl rfl hb6 rfl ?_
    refine AL 4 50 true _ rfl rfl hb6 rfl ?_
    refine AL 4 50 true _ rfl rfl hb6 rfl ?_
    refine AL 4 50 true _ rfl rfl hb6 rfl ?_
    refine AL 4 50 true _ rfl rfl hb6 rfl ?_
    refine AL 4 50 true _ rfl rfl hb6 rfl ?_
    refine AA _ (BB _ rfl hb6 rfl) rfl ?_
    refine AA _ (AF rfl) rfl ?_
    refine AI (AE (BM (BN (.bool false) (res1 Tryd.results8 (BI rfl)) fun w1 hw1 => ?_)))
    obtain rfl : W = wholeN i 3 := by
     have h := whole3 hi (W := W) (by omega)
     rw [← hz2, ← hpN] at h
     rw [hb5] at h
     have := of_decide_eq_false h.symm
     omega
    refine ⟨_, [], rfl, ⟨congrArg Value.bool ?_, rfl⟩, hw1.sub (by simp) (by simp)⟩
    unfold rX
    rw [← hz2, ← hpN, hb6]
    rfl
theorem rRoot2_c (n : UInt32) (i : Nat)  (w : World) (hi : i < 64)  : Calls Tryd.prog 8 #[U32 n, I64 ((i:Int)), I64 (2:Int)] w (Post w [] (fun v L => v = .bool (fx2 (rX n i 2) (UInt64.ofNat (prN i)) && !fx2 (rX n i 2 + 1) (UInt64.ofNat (prN i))) ∧ L = [])) := by
 have hmx : maxLen = 9223372036854775807 := rfl
 refine enter w [] 58 [] [U32 n, I64 ((i:Int)), I64 (2:Int)] Tryd.func8 rfl rfl (by simp) (BC (by simp) (by simp) (by simp)) ?_
 show JC _ _ _ [(0, U32 n), (1, I64 ((i:Int))), (2, I64 (2:Int))] _
 refine AH (AC (AA _ (AF rfl) rfl ?_))
 refine AI (AE (AH (AC (AA _ (AF rfl) rfl ?_))))
 refine AA _ (AF rfl) rfl ?_
 refine AI (AE (AH (AY (B7 (ι := Nat × UInt64 × Int) (fun ⟨N, pv, fd⟩ => [(0, U32 n), (1, I64 ((i:Int))), (2, I64 (2:Int)), (6, .bool false), (7, U64 pv), (8, I64 (fd))]) (fun ⟨N, pv, fd⟩ => []) (fun ⟨N, pv, fd⟩ => pv = UInt64.ofNat N ∧ 1 ≤ N ∧ N < 312 ∧ fd = (cnt (N + 1) : Int) - 1 ∧ cnt (N + 1) ≤ i + 1 ∧ (cnt (N + 1) = i + 1 → N = prN i)) (fun ⟨N, pv, fd⟩ => 312 - N) (1, 1, -1) ⟨by decide, by omega, by omega, by rw [cnt_two]; rfl, by rw [cnt_two]; omega, fun h => by rw [cnt_two] at h; omega⟩ (AD rfl (AD rfl (AD rfl (AD rfl (AD rfl (AD rfl (Sub.nil))))))) rfl ?_))))
 rintro ⟨N, pv, fd⟩ ⟨hx1, hx2, hx3, hx4, hx5, hx6⟩
 show JC _ _ _ [(0, U32 n), (1, I64 ((i:Int))), (2, I64 (2:Int)), (6, .bool false), (7, U64 pv), (8, I64 (fd))] []
 refine AH (AH (AC (AA _ (AB rfl) rfl ?_)))
 refine AA _ (AB rfl) rfl ?_
 refine AA (.bool (decide ((fd) < ((i:Int))))) (AG rfl rfl fun _ => A9 _ _) rfl ?_
 refine AI (AE (BK (decide ((fd) < ((i:Int)))) rfl (fun hb1 => ?_) (fun hb1 => ?_)))
 ·
  have hp1 : (fd) < ((i:Int)) := of_decide_eq_true hb1
  refine AZ (AE (AY (AH (AC (AA _ (AB rfl) rfl ?_)))))
  refine AA (U64 (pv + (1:UInt64))) (AG rfl rfl fun _ => BG pv (1:UInt64)) rfl ?_
  refine AA _ (AF rfl) rfl ?_
  refine AI (AE (AH (AC (AA _ (AF rfl) rfl ?_))))
  refine AI (AE (AH (AH (AC (AA _ (AF rfl) rfl ?_)))))
  refine AI (AE (AY ?_))
  have hN1 : N + 1 < 312 := cnt_in (by omega) (show cnt (N + 1) ≤ i by omega) hi
  refine B7 (ι := Nat × UInt64 × Bool) (fun ⟨D, dv, bb⟩ => [(0, U32 n), (1, I64 ((i:Int))), (2, I64 (2:Int)), (6, .bool false), (7, U64 (pv + (1:UInt64))), (8, I64 (fd)), (13, I64 (fd)), (14, I64 ((i:Int))), (15, .bool (decide ((fd) < ((i:Int))))), (16, U64 pv), (17, U64 (pv + (1:UInt64))), (10, U64 dv), (9, .bool bb)]) (fun ⟨D, dv, bb⟩ => []) (fun ⟨D, dv, bb⟩ => 2 ≤ D ∧ D ≤ N + 1 ∧ dv = UInt64.ofNat D ∧ bb = noDiv (N + 1) D) (fun ⟨D, dv, bb⟩ => N + 1 - D) (2, 2, true) ⟨by omega, by omega, by decide, (noDiv_two _).symm⟩ (AD rfl (AD rfl (AD rfl (AD rfl (AD rfl (AD rfl (AD rfl (AD rfl (AD rfl (AD rfl (AD rfl (AD rfl (AD rfl (Sub.nil)))))))))))))) rfl ?_
  rintro ⟨D, dv, bb⟩ ⟨hy1, hy2, hy3, hy4⟩
  show JC _ _ _ [(0, U32 n), (1, I64 ((i:Int))), (2, I64 (2:Int)), (6, .bool false), (7, U64 (pv + (1:UInt64))), (8, I64 (fd)), (13, I64 (fd)), (14, I64 ((i:Int))), (15, .bool (decide ((fd) < ((i:Int))))), (16, U64 pv), (17, U64 (pv + (1:UInt64))), (10, U64 dv), (9, .bool bb)] []
  refine AH (AH (AC (AA _ (AB rfl) rfl ?_)))
  refine AA _ (AB rfl) rfl ?_
  refine AA (.bool (decide (dv < (pv + (1:UInt64))))) (AG rfl rfl fun _ => CM dv (pv + (1:UInt64))) rfl ?_
  refine AI (AE (BK (decide (dv < (pv + (1:UInt64)))) rfl (fun hb2 => ?_) (fun hb2 => ?_)))
  ·
   have hp2 : dv < (pv + (1:UInt64)) := of_decide_eq_true hb2
   refine AZ (AE (AH (AY (AC (AA _ (AB rfl) rfl ?_)))))
   refine AA _ (AB rfl) rfl ?_
   rcases Bool.eq_false_or_eq_true (bb) with hb3 | hb3
   ·
    refine AK 1 24 true _ _ rfl rfl hb3 (AB rfl) rfl ?_
    refine AK 1 24 true _ _ rfl rfl hb3 (AB rfl) rfl ?_
    refine AK 1 24 true _ (U64 ((pv + (1:UInt64)) % dv)) rfl rfl hb3 (AG rfl rfl fun _ => bin_rem_u64 (pv + (1:UInt64)) dv (by rw [hy3]; exact ofN_ne0 (by omega) (by omega))) rfl ?_
    refine AK 1 24 true _ (.bool (decide (((pv + (1:UInt64)) % dv) ≠ (0:UInt64)))) rfl rfl hb3 (AG rfl rfl fun _ => bin_neq_u64 ((pv + (1:UInt64)) % dv) (0:UInt64)) rfl ?_
    refine AA _ (BH _ rfl hb3 rfl) rfl ?_
    refine AA _ (AF rfl) rfl ?_
    refine AI (AS (AE (AC (AA _ (AB rfl) rfl ?_))))
    refine AA (U64 (dv + (1:UInt64))) (AG rfl rfl fun _ => BG dv (1:UInt64)) rfl ?_
    refine AA _ (AF rfl) rfl ?_
    refine AI (A8 (B0 (D + 1, dv + (1:UInt64), (decide (((pv + (1:UInt64)) % dv) ≠ (0:UInt64)))) ⟨by omega, by have h : D < N + 1 := (ofN_lt (by omega) (by omega)).1 (by rw [← hy3, ← BU, ← hx1]; assumption); omega, by rw [hy3, BU], by rw [← noDiv_go (by omega) (by omega) (by omega) hy4, hb3, hy3, hx1, BU]; rfl⟩ (by have h : D < N + 1 := (ofN_lt (by omega) (by omega)).1 (by rw [← hy3, ← BU, ← hx1]; assumption); dsimp only; omega) (AD rfl (AD rfl (AD rfl (AD rfl (AD rfl (AD rfl (AD rfl (AD rfl (AD rfl (AD rfl (AD rfl (AD rfl (AD rfl (Sub.nil)))))))))))))) rfl))
   ·
    refine AL 1 24 true _ rfl rfl hb3 rfl ?_
    refine AL 1 24 true _ rfl rfl hb3 rfl ?_
    refine AL 1 24 true _ rfl rfl hb3 rfl ?_
    refine AL 1 24 true _ rfl rfl hb3 rfl ?_
    refine AA _ (BB _ rfl hb3 rfl) rfl ?_
    refine AA _ (AF rfl) rfl ?_
    refine AI (AS (AE (AC (AA _ (AB rfl) rfl ?_))))
    refine AA (U64 (dv + (1:UInt64))) (AG rfl rfl fun _ => BG dv (1:UInt64)) rfl ?_
    refine AA _ (AF rfl) rfl ?_
    refine AI (A8 (B0 (D + 1, dv + (1:UInt64), false) ⟨by omega, by have h : D < N + 1 := (ofN_lt (by omega) (by omega)).1 (by rw [← hy3, ← BU, ← hx1]; assumption); omega, by rw [hy3, BU], by rw [← noDiv_go (by omega) (by omega) (by omega) hy4, hb3]; rfl⟩ (by have h : D < N + 1 := (ofN_lt (by omega) (by omega)).1 (by rw [← hy3, ← BU, ← hx1]; assumption); dsimp only; omega) (AD rfl (AD rfl (AD rfl (AD rfl (AD rfl (AD rfl (AD rfl (AD rfl (AD rfl (AD rfl (AD rfl (AD rfl (AD rfl (Sub.nil)))))))))))))) rfl))
  ·
   have hp2 : ¬ (dv < (pv + (1:UInt64))) := of_decide_eq_false hb2
   refine B5 (AN (AN (BF (AE (AH (AC (AA _ (AB rfl) rfl ?_)))))))
   refine AI (AE (BK (bb) rfl (fun hb4 => ?_) (fun hb4 => ?_)))
   ·
    refine AC (AA _ (AB rfl) rfl ?_)
    refine AA (I64 (fd + 1)) (AG rfl rfl fun _ => BW _ _ (fd + 1) (by omega) (by omega)) rfl ?_
    refine AA _ (AF rfl) rfl ?_
    refine AI (AS (A8 ?_))
    obtain rfl : D = N + 1 := by
     have h1 : ¬ D < N + 1 := fun h => (by assumption : ¬ dv < pv + 1) (by rw [hy3, hx1, BU]; exact (ofN_lt (by omega) (by omega)).2 h)
     omega
    have hnd := noDiv_end (N + 1) hN1 (by omega)
    rw [← hy4] at hnd
    have hnp : isP (N + 1) = true := by rw [← hnd]; exact hb4
    obtain ⟨hq1, hq2, hq3⟩ := fnd_yes (N + 1) hN1 hnp
    refine B0 (N + 1, pv + (1:UInt64), (fd + 1)) ⟨by rw [hx1, BU], by omega, hN1, by omega, by omega, fun h => by rw [← hq3]; congr 1; omega⟩ (by dsimp only; omega) (AD rfl (AD rfl (AD rfl (AD rfl (AD rfl (AD rfl (Sub.nil))))))) rfl
   ·
    refine AZ (AS (A8 ?_))
    obtain rfl : D = N + 1 := by
     have h1 : ¬ D < N + 1 := fun h => (by assumption : ¬ dv < pv + 1) (by rw [hy3, hx1, BU]; exact (ofN_lt (by omega) (by omega)).2 h)
     omega
    have hnd := noDiv_end (N + 1) hN1 (by omega)
    rw [← hy4] at hnd
    have hnp : isP (N + 1) = false := by rw [← hnd]; exact hb4
    obtain ⟨hq1, hq2⟩ := fnd_no (N + 1) hN1 hnp
    refine B0 (N + 1, pv + (1:UInt64), (fd)) ⟨by rw [hx1, BU], by omega, hN1, by omega, by omega, fun h => by omega⟩ (by dsimp only; omega) (AD rfl (AD rfl (AD rfl (AD rfl (AD rfl (AD rfl (Sub.nil))))))) rfl
 ·
  have hp1 : ¬ ((fd) < ((i:Int))) := of_decide_eq_false hb1
  refine B5 (AN (AN (BF (AE (AH (AC (AA _ (AF rfl) rfl ?_)))))))
  refine AI (AE (AH (AY ?_)))
  obtain rfl : N = prN i := hx6 (by omega)
  have hpN : pv = UInt64.ofNat (prN i) := hx1
  have hpl := pr_lt i hi
  have hwl := (whole_lt i hi).2
  refine B7 (ι := Nat × UInt64) (fun ⟨W, wv⟩ => [(0, U32 n), (2, I64 (2:Int)), (6, .bool false), (7, U64 pv), (11, U64 wv)]) (fun ⟨W, wv⟩ => []) (fun ⟨W, wv⟩ => W ≤ wholeN i 2 ∧ wv = UInt64.ofNat W) (fun ⟨W, wv⟩ => wholeN i 2 - W) (0, 0) ⟨by omega, by decide⟩ (AD rfl (AD rfl (AD rfl (AD rfl (AD rfl (Sub.nil)))))) rfl ?_
  rintro ⟨W, wv⟩ ⟨hz1, hz2⟩
  show JC _ _ _ [(0, U32 n), (2, I64 (2:Int)), (6, .bool false), (7, U64 pv), (11, U64 wv)] []
  refine AH (AH (AC (AA _ (AB rfl) rfl ?_)))
  refine AA (U64 (wv + (1:UInt64))) (AG rfl rfl fun _ => BG wv (1:UInt64)) rfl ?_
  refine AA (U64 ((wv + (1:UInt64)) <<< (32:UInt64))) (AG rfl rfl fun _ => CB (wv + (1:UInt64)) _ _ 32 (by decide) rfl) rfl ?_
  refine AA _ (AB rfl) rfl ?_
  refine AA _ (AB rfl) rfl ?_
  refine AO (AR 16 [U64 ((wv + (1:UInt64)) <<< (32:UInt64)), U64 pv, I64 (2:Int)] (.bool (fx2 ((wv + (1:UInt64)) <<< (32:UInt64)) pv)) (A2 [U64 ((wv + (1:UInt64)) <<< (32:UInt64)), U64 pv, I64 (2:Int)] Tryd.call16 rfl) (fun w1 hw1 => rroot2_c ((wv + (1:UInt64)) <<< (32:UInt64)) pv w1 (by rw [hz2, shl32 (by omega)]; omega) (by rw [hpN, ofN_nat (by omega)]; omega))) rfl ?_
  rintro v1 L1 ⟨rfl, rfl⟩
  show JL _ _ _ _ ((38, .bool (fx2 ((wv + (1:UInt64)) <<< (32:UInt64)) pv)) :: _) []
  refine AI (AE (BK (fx2 ((wv + (1:UInt64)) <<< (32:UInt64)) pv) rfl (fun hb5 => ?_) (fun hb5 => ?_)))
  ·
   refine AZ (AE (AY (AC (AA _ (AB rfl) rfl ?_))))
   refine AA (U64 (wv + (1:UInt64))) (AG rfl rfl fun _ => BG wv (1:UInt64)) rfl ?_
   refine AA _ (AF rfl) rfl ?_
   refine AI (AS (A8 (B0 (W + 1, wv + (1:UInt64)) ⟨by have h := whole2 hi (W := W) (by omega); rw [← hz2, ← hpN] at h; rw [hb5] at h; have := of_decide_eq_true h.symm; omega, by rw [hz2, BU]⟩ (by have h := whole2 hi (W := W) (by omega); rw [← hz2, ← hpN] at h; rw [hb5] at h; have := of_decide_eq_true h.symm; dsimp only; omega) (AD rfl (AD rfl (AD rfl (AD rfl (AD rfl (Sub.nil)))))) rfl)))
  ·
   refine B5 (AN (AN (BF (AE (AH (AC (AA _ (AB rfl) rfl ?_)))))))
   refine AA (U64 (wv <<< (32:UInt64))) (AG rfl rfl fun _ => CB wv _ _ 32 (by decide) rfl) rfl ?_
   refine AA _ (AB rfl) rfl ?_
   refine AA (U64 n.toUInt64) (CH _ _ rfl fun _ => conv_u32_u64 (by rw [A3]; rfl) Tryd.underlying38 _) rfl ?_
   refine AA (U64 ((wv <<< (32:UInt64)) ||| n.toUInt64)) (AG rfl rfl fun _ => bin_or_u64 (wv <<< (32:UInt64)) n.toUInt64) rfl ?_
   refine AA _ (AF rfl) rfl ?_
   refine AI (AE (AH (AC (AA _ (AB rfl) rfl ?_))))
   refine AA _ (AB rfl) rfl ?_
   refine AA _ (AB rfl) rfl ?_
   refine AO (AR 16 [U64 ((wv <<< (32:UInt64)) ||| n.toUInt64), U64 pv, I64 (2:Int)] (.bool (fx2 ((wv <<< (32:UInt64)) ||| n.toUInt64) pv)) (A2 [U64 ((wv <<< (32:UInt64)) ||| n.toUInt64), U64 pv, I64 (2:Int)] Tryd.call16 rfl) (fun w1 hw1 => rroot2_c ((wv <<< (32:UInt64)) ||| n.toUInt64) pv w1 (by have h := rX_lt n (W := W) (by omega); rw [← hz2] at h; omega) (by rw [hpN, ofN_nat (by omega)]; omega))) rfl ?_
   rintro v1 L1 ⟨rfl, rfl⟩
   show JL _ _ _ _ ((49, .bool (fx2 ((wv <<< (32:UInt64)) ||| n.toUInt64) pv)) :: _) []
   refine AA _ (AB rfl) rfl ?_
   rcases Bool.eq_false_or_eq_true (fx2 ((wv <<< (32:UInt64)) ||| n.toUInt64) pv) with hb6 | hb6
   ·
    refine AK 4 50 true _ _ rfl rfl hb6 (AB rfl) rfl ?_
    refine AK 4 50 true _ (U64 (((wv <<< (32:UInt64)) ||| n.toUInt64) + (1:UInt64))) rfl rfl hb6 (AG rfl rfl fun _ => BG ((wv <<< (32:UInt64)) ||| n.toUInt64) (1:UInt64)) rfl ?_
    refine AK 4 50 true _ _ rfl rfl hb6 (AB rfl) rfl ?_
    refine AK 4 50 true _ _ rfl rfl hb6 (AB rfl) rfl ?_
    refine JL_gstep 4 50 true _ rfl rfl hb6 (AR 16 [U64 (((wv <<< (32:UInt64)) ||| n.toUInt64) + (1:UInt64)), U64 pv, I64 (2:Int)] (.bool (fx2 (((wv <<< (32:UInt64)) ||| n.toUInt64) + (1:UInt64)) pv)) (A2 [U64 (((wv <<< (32:UInt64)) ||| n.toUInt64) + (1:UInt64)), U64 pv, I64 (2:Int)] Tryd.call16 rfl) (fun w1 hw1 => rroot2_c (((wv <<< (32:UInt64)) ||| n.toUInt64) + (1:UInt64)) pv w1 (by have h := rX_lt n (W := W) (by omega); rw [← hz2] at h; rw [succ_toNat h]; omega) (by rw [hpN, ofN_nat (by omega)]; omega))) rfl ?_
    rintro v1 L1 ⟨rfl, rfl⟩
    show JL _ _ _ _ ((55, .bool (fx2 (((wv <<< (32:UInt64)) ||| n.toUInt64) + (1:UInt64)) pv)) :: _) []
    refine AK 4 50 true _ (.bool (!(fx2 (((wv <<< (32:UInt64)) ||| n.toUInt64) + (1:UInt64)) pv))) rfl rfl hb6 (Ev_not rfl) rfl ?_
    refine AA _ (BH _ rfl hb6 rfl) rfl ?_
    refine AA _ (AF rfl) rfl ?_
    refine AI (AE (BM (BN (.bool (!(fx2 (((wv <<< (32:UInt64)) ||| n.toUInt64) + (1:UInt64)) pv))) (res1 Tryd.results8 (BI rfl)) fun w1 hw1 => ?_)))
    obtain rfl : W = wholeN i 2 := by
     have h := whole2 hi (W := W) (by omega)
     rw [← hz2, ← hpN] at h
     rw [hb5] at h
     have := of_decide_eq_false h.symm
     omega
    refine ⟨_, [], rfl, ⟨congrArg Value.bool ?_, rfl⟩, hw1.sub (by simp) (by simp)⟩
    unfold rX
    rw [← hz2, ← hpN, hb6]
    rfl
   ·
    refine AL 4 50 true _ rfl rfl hb6 rfl ?_
    refine AL 4 50 true _ rfl rfl hb6 rfl ?_
    refine AL 4 50 true _ rfl rfl hb6 rfl ?_
    refine AL 4 50 true _ rfl rfl hb6 rfl ?_
    refine AL 4 50 true _ rfl rfl hb6 rfl ?_
    refine AL 4 50 true _ rfl rfl hb6 rfl ?_
    refine AA _ (BB _ rfl hb6 rfl) rfl ?_
    refine AA _ (AF rfl) rfl ?_
    refine AI (AE (BM (BN (.bool false) (res1 Tryd.results8 (BI rfl)) fun w1 hw1 => ?_)))
    obtain rfl : W = wholeN i 2 := by
     have h := whole2 hi (W := W) (by omega)
     rw [← hz2, ← hpN] at h
     rw [hb5] at h
     have := of_decide_eq_false h.symm
     omega
    refine ⟨_, [], rfl, ⟨congrArg Value.bool ?_, rfl⟩, hw1.sub (by simp) (by simp)⟩
    unfold rX
    rw [← hz2, ← hpN, hb6]
    rfl
theorem shaRootsA_c (i : Nat)  (w : World) (hG : GLs w) (hGr : GLr w) (hGi : GLi w) (hi : i < 8)  : Calls Tryd.prog 3 #[I64 ((i:Int))] w (Post w [] (fun v L => v = .bool true ∧ L = [])) := by
 have hmx : maxLen = 9223372036854775807 := rfl
 refine enter w [] 92 [] [I64 ((i:Int))] Tryd.func3 rfl rfl (by simp) (BC (by simp) (by simp) (by simp)) ?_
 show JC _ _ _ [(0, I64 ((i:Int)))] _
 refine AH (AC (AA _ (AF rfl) rfl ?_))
 refine AI (AE (AH (AH (AC (AO (AR 4 [] (.bool true) (A2 [] Tryd.call4 rfl) (fun w1 hw1 => alive2_c  w1 (hG.at hw1))) rfl ?_)))))
 rintro v1 L1 ⟨rfl, rfl⟩
 show JL _ _ _ _ ((7, .bool true) :: _) []
 refine AA (.bool (!true)) (Ev_not rfl) rfl ?_
 refine AI (AE (BX _ rfl rfl ?_))
 refine AZ (AE (AH (AC (AA _ (AB rfl) rfl ?_))))
 refine AO (AR 5 [I64 ((i:Int))] (.tuple #[U32 (g32 constL i), .nilIface]) (A2 [I64 ((i:Int))] Tryd.call5 rfl) (fun w1 hw1 => const_c i w1 (by omega))) rfl ?_
 rintro v1 L1 ⟨rfl, rfl⟩
 show JL _ _ _ _ ((11, .tuple #[U32 (g32 constL i), .nilIface]) :: _) []
 refine AA _ (AB rfl) rfl ?_
 refine AA _ (BQ rfl rfl) rfl ?_
 refine AA _ (BQ rfl rfl) rfl ?_
 refine AA _ (AF rfl) rfl ?_
 refine AA _ (AF rfl) rfl ?_
 refine AI (AE (AH (AC (AA _ (AB rfl) rfl ?_))))
 refine AO (AR 6 [I64 ((i:Int))] (.tuple #[U32 (g32 initL i), .nilIface]) (A2 [I64 ((i:Int))] Tryd.call6 rfl) (fun w1 hw1 => init_c i w1 (by omega))) rfl ?_
 rintro v1 L1 ⟨rfl, rfl⟩
 show JL _ _ _ _ ((16, .tuple #[U32 (g32 initL i), .nilIface]) :: _) []
 refine AA _ (AB rfl) rfl ?_
 refine AA _ (BQ rfl rfl) rfl ?_
 refine AA _ (BQ rfl rfl) rfl ?_
 refine AA _ (AF rfl) rfl ?_
 refine AA _ (AF rfl) rfl ?_
 refine AI (AE (AH (AH (AC (AA _ (AB rfl) rfl ?_)))))
 refine AA (.bool true) (B2 _ _ _ rfl rfl (fun _ => CG ..) fun _ => CF AT) rfl ?_
 refine AA _ (AB rfl) rfl ?_
 refine AA (.bool (decide ((0:Int) ≤ ((i:Int))))) (AG rfl rfl fun _ => B4 _ _) rfl ?_
 refine AA _ (AB rfl) rfl ?_
 refine AK 4 23 true _ _ rfl rfl (decide_eq_true (by omega)) (AB rfl) rfl ?_
 refine AK 4 23 true _ (.bool (decide (((i:Int)) < (64:Int)))) rfl rfl (decide_eq_true (by omega)) (AG rfl rfl fun _ => A9 _ _) rfl ?_
 refine AA _ (BH _ rfl (decide_eq_true (by omega)) rfl) rfl ?_
 refine AA (.bool (!(true == (decide (((i:Int)) < (64:Int)))))) (B2 _ _ _ rfl rfl (fun _ => CE ..) fun _ => neq_bool Tryd.underlying4) rfl ?_
 refine AA _ (AB rfl) rfl ?_
 refine AK 9 28 false _ _ rfl rfl (by rw [show (true == (decide (((i:Int)) < (64:Int)))) = true from (by rw [decide_eq_true (by omega)]; rfl)] <;> rfl) (AB rfl) rfl ?_
 refine AK 9 28 false _ (.bool true) rfl rfl (by rw [show (true == (decide (((i:Int)) < (64:Int)))) = true from (by rw [decide_eq_true (by omega)]; rfl)] <;> rfl) (B2 _ _ _ rfl rfl (fun _ => CG ..) fun _ => CF AT) rfl ?_
 refine AK 9 28 false _ _ rfl rfl (by rw [show (true == (decide (((i:Int)) < (64:Int)))) = true from (by rw [decide_eq_true (by omega)]; rfl)] <;> rfl) (AB rfl) rfl ?_
 refine AK 9 28 false _ (.bool (decide ((0:Int) ≤ ((i:Int))))) rfl rfl (by rw [show (true == (decide (((i:Int)) < (64:Int)))) = true from (by rw [decide_eq_true (by omega)]; rfl)] <;> rfl) (AG rfl rfl fun _ => B4 _ _) rfl ?_
 refine AK 9 28 false _ _ rfl rfl (by rw [show (true == (decide (((i:Int)) < (64:Int)))) = true from (by rw [decide_eq_true (by omega)]; rfl)] <;> rfl) (AB rfl) rfl ?_
 refine AK 14 33 true _ _ rfl rfl (decide_eq_true (by omega)) (AB rfl) rfl ?_
 refine AK 14 33 true _ (.bool (decide (((i:Int)) < (8:Int)))) rfl rfl (decide_eq_true (by omega)) (AG rfl rfl fun _ => A9 _ _) rfl ?_
 refine AK 9 28 false _ _ rfl rfl (by rw [show (true == (decide (((i:Int)) < (64:Int)))) = true from (by rw [decide_eq_true (by omega)]; rfl)] <;> rfl) (BH _ rfl (decide_eq_true (by omega)) rfl) rfl ?_
 refine AK 9 28 false _ (.bool (!(true == (decide (((i:Int)) < (8:Int)))))) rfl rfl (by rw [show (true == (decide (((i:Int)) < (64:Int)))) = true from (by rw [decide_eq_true (by omega)]; rfl)] <;> rfl) (B2 _ _ _ rfl rfl (fun _ => CE ..) fun _ => neq_bool Tryd.underlying4) rfl ?_
 refine AA _ (BB _ rfl (by rw [show (true == (decide (((i:Int)) < (64:Int)))) = true from (by rw [decide_eq_true (by omega)]; rfl)] <;> rfl) rfl) rfl ?_
 refine AI (AE (BX _ rfl (by rw [show (true == (decide (((i:Int)) < (8:Int)))) = true from (by rw [decide_eq_true (by omega)]; rfl)] <;> rfl) ?_))
 refine AZ (AE (AH (AH (AC (AA _ (AB rfl) rfl ?_)))))
 refine AA (.bool false) (B2 _ _ _ rfl rfl (fun _ => CG ..) fun _ => neq_if_nil_nil AT) rfl ?_
 refine AA _ (AB rfl) rfl ?_
 refine AL 2 41 true _ rfl rfl rfl rfl ?_
 refine AL 2 41 true _ rfl rfl rfl rfl ?_
 refine AL 2 41 true _ rfl rfl rfl rfl ?_
 refine AL 2 41 true _ rfl rfl rfl rfl ?_
 refine BJ 6 45 false rfl rfl rfl ?_
 refine BJ 6 45 false rfl rfl rfl ?_
 refine AL 2 41 true _ rfl rfl rfl rfl ?_
 refine AA _ (BB _ rfl rfl rfl) rfl ?_
 refine AA _ (AB rfl) rfl ?_
 refine AK 11 50 false _ _ rfl rfl rfl (AB rfl) rfl ?_
 refine AK 11 50 false _ (.bool false) rfl rfl rfl (B2 _ _ _ rfl rfl (fun _ => CG ..) fun _ => neq_if_nil_nil AT) rfl ?_
 refine AK 11 50 false _ _ rfl rfl rfl (AB rfl) rfl ?_
 refine AL 14 53 true _ rfl rfl rfl rfl ?_
 refine AL 14 53 true _ rfl rfl rfl rfl ?_
 refine AL 14 53 true _ rfl rfl rfl rfl ?_
 refine AL 14 53 true _ rfl rfl rfl rfl ?_
 refine BJ 18 57 false rfl rfl rfl ?_
 refine BJ 18 57 false rfl rfl rfl ?_
 refine AL 14 53 true _ rfl rfl rfl rfl ?_
 refine AK 11 50 false _ _ rfl rfl rfl (BB _ rfl rfl rfl) rfl ?_
 refine AA _ (BB _ rfl rfl rfl) rfl ?_
 refine AI (AE (BX _ rfl rfl ?_))
 refine AZ (AE (AH (AH (AC (AA _ (AB rfl) rfl ?_)))))
 refine AA (.bool true) (B2 _ _ _ rfl rfl (fun _ => CG ..) fun _ => CF AT) rfl ?_
 refine AA _ (AB rfl) rfl ?_
 refine AK 2 65 true _ _ rfl rfl rfl (AB rfl) rfl ?_
 refine AK 2 65 true _ _ rfl rfl rfl (AB rfl) rfl ?_
 refine AK 2 65 true _ (Ptr 0 i) rfl rfl rfl (AV 64 23 1 i AU AQ rfl rfl (by omega) (by omega) (by omega)) rfl ?_
 refine AK 2 65 true _ (U32 (g32 constL i)) rfl rfl rfl (AW rfl (A7 AX (BO ((id hGr : RdA w 0 0 (cu32 constL)).mem (by simp)) (Seg.get (BS (i := i) (by rw [CO]; omega))) (by omega)))) rfl ?_
 refine AK 2 65 true _ (.bool (decide ((g32 constL i) ≠ (g32 constL i)))) rfl rfl rfl (AG rfl rfl fun _ => CL (g32 constL i) (g32 constL i)) rfl ?_
 refine AK 2 65 true _ _ rfl rfl rfl (AB rfl) rfl ?_
 refine AK 8 71 false _ _ rfl rfl (decide_eq_false (fun h => h rfl)) (AB rfl) rfl ?_
 refine AK 8 71 false _ _ rfl rfl (decide_eq_false (fun h => h rfl)) (AB rfl) rfl ?_
 refine JL_gstep 8 71 false _ rfl rfl (decide_eq_false (fun h => h rfl)) (AR 8 [U32 (g32 constL i), I64 ((i:Int)), I64 (3:Int)] (.bool (fx3 (rX (g32 constL i) i 3) (UInt64.ofNat (prN i)) && !fx3 (rX (g32 constL i) i 3 + 1) (UInt64.ofNat (prN i)))) (A2 [U32 (g32 constL i), I64 ((i:Int)), I64 (3:Int)] Tryd.call8 rfl) (fun w1 hw1 => rRoot3_c (g32 constL i) i w1 (by omega))) rfl ?_
 rintro v1 L1 ⟨rfl, rfl⟩
 show JL _ _ _ _ ((74, .bool (fx3 (rX (g32 constL i) i 3) (UInt64.ofNat (prN i)) && !fx3 (rX (g32 constL i) i 3 + 1) (UInt64.ofNat (prN i)))) :: _) []
 refine AK 8 71 false _ (.bool (!(fx3 (rX (g32 constL i) i 3) (UInt64.ofNat (prN i)) && !fx3 (rX (g32 constL i) i 3 + 1) (UInt64.ofNat (prN i))))) rfl rfl (decide_eq_false (fun h => h rfl)) (Ev_not rfl) rfl ?_
 refine AK 2 65 true _ _ rfl rfl rfl (BB _ rfl (decide_eq_false (fun h => h rfl)) rfl) rfl ?_
 refine AA _ (BH _ rfl rfl rfl) rfl ?_
 refine AI (AE (BX _ rfl (by rw [show (fx3 (rX (g32 constL i) i 3) (UInt64.ofNat (prN i)) && !fx3 (rX (g32 constL i) i 3 + 1) (UInt64.ofNat (prN i))) = true from (root_consts i (by omega))] <;> rfl) ?_))
 refine AZ (AE (AH (AC (AA _ (AB rfl) rfl ?_))))
 refine AA (.bool false) (B2 _ _ _ rfl rfl (fun _ => CG ..) fun _ => neq_if_nil_nil AT) rfl ?_
 refine AA _ (AB rfl) rfl ?_
 refine AK 2 80 false _ _ rfl rfl rfl (AB rfl) rfl ?_
 refine AK 2 80 false _ _ rfl rfl rfl (AB rfl) rfl ?_
 refine AK 2 80 false _ (Ptr 1 i) rfl rfl rfl (AV 8 23 1 i A0 AQ rfl rfl (by omega) (by omega) (by omega)) rfl ?_
 refine AK 2 80 false _ (U32 (g32 initL i)) rfl rfl rfl (AW rfl (A7 AX (BO ((id hGi : RdA w 1 0 (cu32 initL)).mem (by simp)) (Seg.get (BS (i := i) (by rw [B9]; omega))) (by omega)))) rfl ?_
 refine AK 2 80 false _ (.bool (decide ((g32 initL i) = (g32 initL i)))) rfl rfl rfl (AG rfl rfl fun _ => bin_eql_u32 (g32 initL i) (g32 initL i)) rfl ?_
 refine AK 2 80 false _ _ rfl rfl rfl (AB rfl) rfl ?_
 refine AK 8 86 true _ _ rfl rfl (decide_eq_true rfl) (AB rfl) rfl ?_
 refine AK 8 86 true _ _ rfl rfl (decide_eq_true rfl) (AB rfl) rfl ?_
 refine JL_gstep 8 86 true _ rfl rfl (decide_eq_true rfl) (AR 8 [U32 (g32 initL i), I64 ((i:Int)), I64 (2:Int)] (.bool (fx2 (rX (g32 initL i) i 2) (UInt64.ofNat (prN i)) && !fx2 (rX (g32 initL i) i 2 + 1) (UInt64.ofNat (prN i)))) (A2 [U32 (g32 initL i), I64 ((i:Int)), I64 (2:Int)] Tryd.call8 rfl) (fun w1 hw1 => rRoot2_c (g32 initL i) i w1 (by omega))) rfl ?_
 rintro v1 L1 ⟨rfl, rfl⟩
 show JL _ _ _ _ ((89, .bool (fx2 (rX (g32 initL i) i 2) (UInt64.ofNat (prN i)) && !fx2 (rX (g32 initL i) i 2 + 1) (UInt64.ofNat (prN i)))) :: _) []
 refine AK 2 80 false _ _ rfl rfl rfl (BH _ rfl (decide_eq_true rfl) rfl) rfl ?_
 refine AA _ (BB _ rfl rfl rfl) rfl ?_
 refine AA _ (AF rfl) rfl ?_
 refine AI (AE (BM (BN (.bool (fx2 (rX (g32 initL i) i 2) (UInt64.ofNat (prN i)) && !fx2 (rX (g32 initL i) i 2 + 1) (UInt64.ofNat (prN i)))) (res1 Tryd.results3 (BI rfl)) fun w1 hw1 => ?_)))
 exact ⟨_, [], rfl, ⟨by rw [show (fx2 (rX (g32 initL i) i 2) (UInt64.ofNat (prN i)) && !fx2 (rX (g32 initL i) i 2 + 1) (UInt64.ofNat (prN i))) = true from (root_inits i (by omega))], rfl⟩, hw1.sub (by simp) (by simp)⟩
theorem shaRootsB_c (i : Nat)  (w : World) (hG : GLs w) (hGr : GLr w) (hGi : GLi w) (hi : i < 64) (h8 : 8 ≤ i)  : Calls Tryd.prog 3 #[I64 ((i:Int))] w (Post w [] (fun v L => v = .bool true ∧ L = [])) := by
 have hmx : maxLen = 9223372036854775807 := rfl
 refine enter w [] 92 [] [I64 ((i:Int))] Tryd.func3 rfl rfl (by simp) (BC (by simp) (by simp) (by simp)) ?_
 show JC _ _ _ [(0, I64 ((i:Int)))] _
 refine AH (AC (AA _ (AF rfl) rfl ?_))
 refine AI (AE (AH (AH (AC (AO (AR 4 [] (.bool true) (A2 [] Tryd.call4 rfl) (fun w1 hw1 => alive2_c  w1 (hG.at hw1))) rfl ?_)))))
 rintro v1 L1 ⟨rfl, rfl⟩
 show JL _ _ _ _ ((7, .bool true) :: _) []
 refine AA (.bool (!true)) (Ev_not rfl) rfl ?_
 refine AI (AE (BX _ rfl rfl ?_))
 refine AZ (AE (AH (AC (AA _ (AB rfl) rfl ?_))))
 refine AO (AR 5 [I64 ((i:Int))] (.tuple #[U32 (g32 constL i), .nilIface]) (A2 [I64 ((i:Int))] Tryd.call5 rfl) (fun w1 hw1 => const_c i w1 (by omega))) rfl ?_
 rintro v1 L1 ⟨rfl, rfl⟩
 show JL _ _ _ _ ((11, .tuple #[U32 (g32 constL i), .nilIface]) :: _) []
 refine AA _ (AB rfl) rfl ?_
 refine AA _ (BQ rfl rfl) rfl ?_
 refine AA _ (BQ rfl rfl) rfl ?_
 refine AA _ (AF rfl) rfl ?_
 refine AA _ (AF rfl) rfl ?_
 refine AI (AE (AH (AC (AA _ (AB rfl) rfl ?_))))
 refine AO (AR 6 [I64 ((i:Int))] (.tuple #[U32 (0:UInt32), .iface 29 (I64 (1:Int))]) (A2 [I64 ((i:Int))] Tryd.call6 rfl) (fun w1 hw1 => initB_c ((i:Int)) w1 (by omega))) rfl ?_
 rintro v1 L1 ⟨rfl, rfl⟩
 show JL _ _ _ _ ((16, .tuple #[U32 (0:UInt32), .iface 29 (I64 (1:Int))]) :: _) []
 refine AA _ (AB rfl) rfl ?_
 refine AA _ (BQ rfl rfl) rfl ?_
 refine AA _ (BQ rfl rfl) rfl ?_
 refine AA _ (AF rfl) rfl ?_
 refine AA _ (AF rfl) rfl ?_
 refine AI (AE (AH (AH (AC (AA _ (AB rfl) rfl ?_)))))
 refine AA (.bool true) (B2 _ _ _ rfl rfl (fun _ => CG ..) fun _ => CF AT) rfl ?_
 refine AA _ (AB rfl) rfl ?_
 refine AA (.bool (decide ((0:Int) ≤ ((i:Int))))) (AG rfl rfl fun _ => B4 _ _) rfl ?_
 refine AA _ (AB rfl) rfl ?_
 refine AK 4 23 true _ _ rfl rfl (decide_eq_true (by omega)) (AB rfl) rfl ?_
 refine AK 4 23 true _ (.bool (decide (((i:Int)) < (64:Int)))) rfl rfl (decide_eq_true (by omega)) (AG rfl rfl fun _ => A9 _ _) rfl ?_
 refine AA _ (BH _ rfl (decide_eq_true (by omega)) rfl) rfl ?_
 refine AA (.bool (!(true == (decide (((i:Int)) < (64:Int)))))) (B2 _ _ _ rfl rfl (fun _ => CE ..) fun _ => neq_bool Tryd.underlying4) rfl ?_
 refine AA _ (AB rfl) rfl ?_
 refine AK 9 28 false _ _ rfl rfl (by rw [show (true == (decide (((i:Int)) < (64:Int)))) = true from (by rw [decide_eq_true (by omega)]; rfl)] <;> rfl) (AB rfl) rfl ?_
 refine AK 9 28 false _ (.bool false) rfl rfl (by rw [show (true == (decide (((i:Int)) < (64:Int)))) = true from (by rw [decide_eq_true (by omega)]; rfl)] <;> rfl) (B2 _ _ _ rfl rfl (fun _ => B1 ..) fun _ => eql_if_nil AT) rfl ?_
 refine AK 9 28 false _ _ rfl rfl (by rw [show (true == (decide (((i:Int)) < (64:Int)))) = true from (by rw [decide_eq_true (by omega)]; rfl)] <;> rfl) (AB rfl) rfl ?_
 refine AK 9 28 false _ (.bool (decide ((0:Int) ≤ ((i:Int))))) rfl rfl (by rw [show (true == (decide (((i:Int)) < (64:Int)))) = true from (by rw [decide_eq_true (by omega)]; rfl)] <;> rfl) (AG rfl rfl fun _ => B4 _ _) rfl ?_
 refine AK 9 28 false _ _ rfl rfl (by rw [show (true == (decide (((i:Int)) < (64:Int)))) = true from (by rw [decide_eq_true (by omega)]; rfl)] <;> rfl) (AB rfl) rfl ?_
 refine AK 14 33 true _ _ rfl rfl (decide_eq_true (by omega)) (AB rfl) rfl ?_
 refine AK 14 33 true _ (.bool (decide (((i:Int)) < (8:Int)))) rfl rfl (decide_eq_true (by omega)) (AG rfl rfl fun _ => A9 _ _) rfl ?_
 refine AK 9 28 false _ _ rfl rfl (by rw [show (true == (decide (((i:Int)) < (64:Int)))) = true from (by rw [decide_eq_true (by omega)]; rfl)] <;> rfl) (BH _ rfl (decide_eq_true (by omega)) rfl) rfl ?_
 refine AK 9 28 false _ (.bool (!(false == (decide (((i:Int)) < (8:Int)))))) rfl rfl (by rw [show (true == (decide (((i:Int)) < (64:Int)))) = true from (by rw [decide_eq_true (by omega)]; rfl)] <;> rfl) (B2 _ _ _ rfl rfl (fun _ => CE ..) fun _ => neq_bool Tryd.underlying4) rfl ?_
 refine AA _ (BB _ rfl (by rw [show (true == (decide (((i:Int)) < (64:Int)))) = true from (by rw [decide_eq_true (by omega)]; rfl)] <;> rfl) rfl) rfl ?_
 refine AI (AE (BX _ rfl (by rw [show (false == (decide (((i:Int)) < (8:Int)))) = true from (by rw [decide_eq_false (by omega)]; rfl)] <;> rfl) ?_))
 refine AZ (AE (AH (AH (AC (AA _ (AB rfl) rfl ?_)))))
 refine AA (.bool false) (B2 _ _ _ rfl rfl (fun _ => CG ..) fun _ => neq_if_nil_nil AT) rfl ?_
 refine AA _ (AB rfl) rfl ?_
 refine AL 2 41 true _ rfl rfl rfl rfl ?_
 refine AL 2 41 true _ rfl rfl rfl rfl ?_
 refine AL 2 41 true _ rfl rfl rfl rfl ?_
 refine AL 2 41 true _ rfl rfl rfl rfl ?_
 refine BJ 6 45 false rfl rfl rfl ?_
 refine BJ 6 45 false rfl rfl rfl ?_
 refine AL 2 41 true _ rfl rfl rfl rfl ?_
 refine AA _ (BB _ rfl rfl rfl) rfl ?_
 refine AA _ (AB rfl) rfl ?_
 refine AK 11 50 false _ _ rfl rfl rfl (AB rfl) rfl ?_
 refine AK 11 50 false _ (.bool true) rfl rfl rfl (B2 _ _ _ rfl rfl (fun _ => B1 ..) fun _ => CN AT) rfl ?_
 refine AK 11 50 false _ _ rfl rfl rfl (AB rfl) rfl ?_
 refine AK 14 53 true _ _ rfl rfl rfl (AB rfl) rfl ?_
 refine JL_gstep 14 53 true _ rfl rfl rfl (AR 7 [.iface 29 (I64 (1:Int)), I64 (1:Int)] (.bool true) (A2 [.iface 29 (I64 (1:Int)), I64 (1:Int)] Tryd.call7 rfl) (fun w1 hw1 => is_c 1 1 w1)) rfl ?_
 rintro v1 L1 ⟨rfl, rfl⟩
 show JL _ _ _ _ ((55, .bool true) :: _) []
 refine AK 14 53 true _ (.bool (!true)) rfl rfl rfl (Ev_not rfl) rfl ?_
 refine AK 14 53 true _ _ rfl rfl rfl (AB rfl) rfl ?_
 refine AK 18 57 false _ _ rfl rfl rfl (AB rfl) rfl ?_
 refine AK 18 57 false _ (.bool (decide ((0:UInt32) ≠ (0:UInt32)))) rfl rfl rfl (AG rfl rfl fun _ => CL (0:UInt32) (0:UInt32)) rfl ?_
 refine AK 14 53 true _ _ rfl rfl rfl (BB _ rfl rfl rfl) rfl ?_
 refine AK 11 50 false _ _ rfl rfl rfl (BH _ rfl rfl rfl) rfl ?_
 refine AA _ (BB _ rfl rfl rfl) rfl ?_
 refine AI (AE (BX _ rfl (by decide) ?_))
 refine AZ (AE (AH (AH (AC (AA _ (AB rfl) rfl ?_)))))
 refine AA (.bool true) (B2 _ _ _ rfl rfl (fun _ => CG ..) fun _ => CF AT) rfl ?_
 refine AA _ (AB rfl) rfl ?_
 refine AK 2 65 true _ _ rfl rfl rfl (AB rfl) rfl ?_
 refine AK 2 65 true _ _ rfl rfl rfl (AB rfl) rfl ?_
 refine AK 2 65 true _ (Ptr 0 i) rfl rfl rfl (AV 64 23 1 i AU AQ rfl rfl (by omega) (by omega) (by omega)) rfl ?_
 refine AK 2 65 true _ (U32 (g32 constL i)) rfl rfl rfl (AW rfl (A7 AX (BO ((id hGr : RdA w 0 0 (cu32 constL)).mem (by simp)) (Seg.get (BS (i := i) (by rw [CO]; omega))) (by omega)))) rfl ?_
 refine AK 2 65 true _ (.bool (decide ((g32 constL i) ≠ (g32 constL i)))) rfl rfl rfl (AG rfl rfl fun _ => CL (g32 constL i) (g32 constL i)) rfl ?_
 refine AK 2 65 true _ _ rfl rfl rfl (AB rfl) rfl ?_
 refine AK 8 71 false _ _ rfl rfl (decide_eq_false (fun h => h rfl)) (AB rfl) rfl ?_
 refine AK 8 71 false _ _ rfl rfl (decide_eq_false (fun h => h rfl)) (AB rfl) rfl ?_
 refine JL_gstep 8 71 false _ rfl rfl (decide_eq_false (fun h => h rfl)) (AR 8 [U32 (g32 constL i), I64 ((i:Int)), I64 (3:Int)] (.bool (fx3 (rX (g32 constL i) i 3) (UInt64.ofNat (prN i)) && !fx3 (rX (g32 constL i) i 3 + 1) (UInt64.ofNat (prN i)))) (A2 [U32 (g32 constL i), I64 ((i:Int)), I64 (3:Int)] Tryd.call8 rfl) (fun w1 hw1 => rRoot3_c (g32 constL i) i w1 (by omega))) rfl ?_
 rintro v1 L1 ⟨rfl, rfl⟩
 show JL _ _ _ _ ((74, .bool (fx3 (rX (g32 constL i) i 3) (UInt64.ofNat (prN i)) && !fx3 (rX (g32 constL i) i 3 + 1) (UInt64.ofNat (prN i)))) :: _) []
 refine AK 8 71 false _ (.bool (!(fx3 (rX (g32 constL i) i 3) (UInt64.ofNat (prN i)) && !fx3 (rX (g32 constL i) i 3 + 1) (UInt64.ofNat (prN i))))) rfl rfl (decide_eq_false (fun h => h rfl)) (Ev_not rfl) rfl ?_
 refine AK 2 65 true _ _ rfl rfl rfl (BB _ rfl (decide_eq_false (fun h => h rfl)) rfl) rfl ?_
 refine AA _ (BH _ rfl rfl rfl) rfl ?_
 refine AI (AE (BX _ rfl (by rw [show (fx3 (rX (g32 constL i) i 3) (UInt64.ofNat (prN i)) && !fx3 (rX (g32 constL i) i 3 + 1) (UInt64.ofNat (prN i))) = true from (root_consts i (by omega))] <;> rfl) ?_))
 refine AZ (AE (AH (AC (AA _ (AB rfl) rfl ?_))))
 refine AA (.bool true) (B2 _ _ _ rfl rfl (fun _ => B1 ..) fun _ => CN AT) rfl ?_
 refine AA _ (AB rfl) rfl ?_
 refine AL 2 80 false _ rfl rfl rfl rfl ?_
 refine AL 2 80 false _ rfl rfl rfl rfl ?_
 refine AL 2 80 false _ rfl rfl rfl rfl ?_
 refine AL 2 80 false _ rfl rfl rfl rfl ?_
 refine AL 2 80 false _ rfl rfl rfl rfl ?_
 refine AL 2 80 false _ rfl rfl rfl rfl ?_
 refine BJ 8 86 true rfl rfl rfl ?_
 refine BJ 8 86 true rfl rfl rfl ?_
 refine BJ 8 86 true rfl rfl rfl ?_
 refine AL 2 80 false _ rfl rfl rfl rfl ?_
 refine AA _ (BH _ rfl rfl rfl) rfl ?_
 refine AA _ (AF rfl) rfl ?_
 refine AI (AE (BM (BN (.bool true) (res1 Tryd.results3 (BI rfl)) fun w1 hw1 => ?_)))
 exact ⟨_, [], rfl, ⟨by rw [show (true) = true from rfl], rfl⟩, hw1.sub (by simp) (by simp)⟩
theorem shaRootsC_c (i : Int)  (w : World) (hG : GLs w) (hGr : GLr w) (hGi : GLi w) (hi : i < 0 ∨ 64 ≤ i)  : Calls Tryd.prog 3 #[I64 (i)] w (Post w [] (fun v L => v = .bool true ∧ L = [])) := by
 have hmx : maxLen = 9223372036854775807 := rfl
 refine enter w [] 92 [] [I64 (i)] Tryd.func3 rfl rfl (by simp) (BC (by simp) (by simp) (by simp)) ?_
 show JC _ _ _ [(0, I64 (i))] _
 refine AH (AC (AA _ (AF rfl) rfl ?_))
 refine AI (AE (AH (AH (AC (AO (AR 4 [] (.bool true) (A2 [] Tryd.call4 rfl) (fun w1 hw1 => alive2_c  w1 (hG.at hw1))) rfl ?_)))))
 rintro v1 L1 ⟨rfl, rfl⟩
 show JL _ _ _ _ ((7, .bool true) :: _) []
 refine AA (.bool (!true)) (Ev_not rfl) rfl ?_
 refine AI (AE (BX _ rfl rfl ?_))
 refine AZ (AE (AH (AC (AA _ (AB rfl) rfl ?_))))
 refine AO (AR 5 [I64 (i)] (.tuple #[U32 (0:UInt32), .iface 29 (I64 (1:Int))]) (A2 [I64 (i)] Tryd.call5 rfl) (fun w1 hw1 => constB_c (i) w1 (by omega))) rfl ?_
 rintro v1 L1 ⟨rfl, rfl⟩
 show JL _ _ _ _ ((11, .tuple #[U32 (0:UInt32), .iface 29 (I64 (1:Int))]) :: _) []
 refine AA _ (AB rfl) rfl ?_
 refine AA _ (BQ rfl rfl) rfl ?_
 refine AA _ (BQ rfl rfl) rfl ?_
 refine AA _ (AF rfl) rfl ?_
 refine AA _ (AF rfl) rfl ?_
 refine AI (AE (AH (AC (AA _ (AB rfl) rfl ?_))))
 refine AO (AR 6 [I64 (i)] (.tuple #[U32 (0:UInt32), .iface 29 (I64 (1:Int))]) (A2 [I64 (i)] Tryd.call6 rfl) (fun w1 hw1 => initB_c (i) w1 (by omega))) rfl ?_
 rintro v1 L1 ⟨rfl, rfl⟩
 show JL _ _ _ _ ((16, .tuple #[U32 (0:UInt32), .iface 29 (I64 (1:Int))]) :: _) []
 refine AA _ (AB rfl) rfl ?_
 refine AA _ (BQ rfl rfl) rfl ?_
 refine AA _ (BQ rfl rfl) rfl ?_
 refine AA _ (AF rfl) rfl ?_
 refine AA _ (AF rfl) rfl ?_
 refine AI (AE (AH (AH (AC (AA _ (AB rfl) rfl ?_)))))
 refine AA (.bool false) (B2 _ _ _ rfl rfl (fun _ => B1 ..) fun _ => eql_if_nil AT) rfl ?_
 refine AA _ (AB rfl) rfl ?_
 refine AA (.bool (decide ((0:Int) ≤ (i)))) (AG rfl rfl fun _ => B4 _ _) rfl ?_
 refine AA _ (AB rfl) rfl ?_
 rcases Bool.eq_false_or_eq_true (decide ((0:Int) ≤ (i))) with hb1 | hb1
 ·
  have hp1 : (0:Int) ≤ (i) := of_decide_eq_true hb1
  refine AK 4 23 true _ _ rfl rfl hb1 (AB rfl) rfl ?_
  refine AK 4 23 true _ (.bool (decide ((i) < (64:Int)))) rfl rfl hb1 (AG rfl rfl fun _ => A9 _ _) rfl ?_
  refine AA _ (BH _ rfl hb1 rfl) rfl ?_
  refine AA (.bool (!(false == (decide ((i) < (64:Int)))))) (B2 _ _ _ rfl rfl (fun _ => CE ..) fun _ => neq_bool Tryd.underlying4) rfl ?_
  refine AA _ (AB rfl) rfl ?_
  refine AK 9 28 false _ _ rfl rfl (by rw [show (false == (decide ((i) < (64:Int)))) = true from (by rw [decide_eq_false (by omega)]; rfl)] <;> rfl) (AB rfl) rfl ?_
  refine AK 9 28 false _ (.bool false) rfl rfl (by rw [show (false == (decide ((i) < (64:Int)))) = true from (by rw [decide_eq_false (by omega)]; rfl)] <;> rfl) (B2 _ _ _ rfl rfl (fun _ => B1 ..) fun _ => eql_if_nil AT) rfl ?_
  refine AK 9 28 false _ _ rfl rfl (by rw [show (false == (decide ((i) < (64:Int)))) = true from (by rw [decide_eq_false (by omega)]; rfl)] <;> rfl) (AB rfl) rfl ?_
  refine AK 9 28 false _ (.bool (decide ((0:Int) ≤ (i)))) rfl rfl (by rw [show (false == (decide ((i) < (64:Int)))) = true from (by rw [decide_eq_false (by omega)]; rfl)] <;> rfl) (AG rfl rfl fun _ => B4 _ _) rfl ?_
  refine AK 9 28 false _ _ rfl rfl (by rw [show (false == (decide ((i) < (64:Int)))) = true from (by rw [decide_eq_false (by omega)]; rfl)] <;> rfl) (AB rfl) rfl ?_
  refine AK 14 33 true _ _ rfl rfl hb1 (AB rfl) rfl ?_
  refine AK 14 33 true _ (.bool (decide ((i) < (8:Int)))) rfl rfl hb1 (AG rfl rfl fun _ => A9 _ _) rfl ?_
  refine AK 9 28 false _ _ rfl rfl (by rw [show (false == (decide ((i) < (64:Int)))) = true from (by rw [decide_eq_false (by omega)]; rfl)] <;> rfl) (BH _ rfl hb1 rfl) rfl ?_
  refine AK 9 28 false _ (.bool (!(false == (decide ((i) < (8:Int)))))) rfl rfl (by rw [show (false == (decide ((i) < (64:Int)))) = true from (by rw [decide_eq_false (by omega)]; rfl)] <;> rfl) (B2 _ _ _ rfl rfl (fun _ => CE ..) fun _ => neq_bool Tryd.underlying4) rfl ?_
  refine AA _ (BB _ rfl (by rw [show (false == (decide ((i) < (64:Int)))) = true from (by rw [decide_eq_false (by omega)]; rfl)] <;> rfl) rfl) rfl ?_
  refine AI (AE (BX _ rfl (by rw [show (false == (decide ((i) < (8:Int)))) = true from (by rw [decide_eq_false (by omega)]; rfl)] <;> rfl) ?_))
  refine AZ (AE (AH (AH (AC (AA _ (AB rfl) rfl ?_)))))
  refine AA (.bool true) (B2 _ _ _ rfl rfl (fun _ => B1 ..) fun _ => CN AT) rfl ?_
  refine AA _ (AB rfl) rfl ?_
  refine AK 2 41 true _ _ rfl rfl rfl (AB rfl) rfl ?_
  refine JL_gstep 2 41 true _ rfl rfl rfl (AR 7 [.iface 29 (I64 (1:Int)), I64 (1:Int)] (.bool true) (A2 [.iface 29 (I64 (1:Int)), I64 (1:Int)] Tryd.call7 rfl) (fun w1 hw1 => is_c 1 1 w1)) rfl ?_
  rintro v1 L1 ⟨rfl, rfl⟩
  show JL _ _ _ _ ((43, .bool true) :: _) []
  refine AK 2 41 true _ (.bool (!true)) rfl rfl rfl (Ev_not rfl) rfl ?_
  refine AK 2 41 true _ _ rfl rfl rfl (AB rfl) rfl ?_
  refine AK 6 45 false _ _ rfl rfl rfl (AB rfl) rfl ?_
  refine AK 6 45 false _ (.bool (decide ((0:UInt32) ≠ (0:UInt32)))) rfl rfl rfl (AG rfl rfl fun _ => CL (0:UInt32) (0:UInt32)) rfl ?_
  refine AK 2 41 true _ _ rfl rfl rfl (BB _ rfl rfl rfl) rfl ?_
  refine AA _ (BH _ rfl rfl rfl) rfl ?_
  refine AA _ (AB rfl) rfl ?_
  refine AK 11 50 false _ _ rfl rfl (by decide) (AB rfl) rfl ?_
  refine AK 11 50 false _ (.bool true) rfl rfl (by decide) (B2 _ _ _ rfl rfl (fun _ => B1 ..) fun _ => CN AT) rfl ?_
  refine AK 11 50 false _ _ rfl rfl (by decide) (AB rfl) rfl ?_
  refine AK 14 53 true _ _ rfl rfl rfl (AB rfl) rfl ?_
  refine JL_gstep 14 53 true _ rfl rfl rfl (AR 7 [.iface 29 (I64 (1:Int)), I64 (1:Int)] (.bool true) (A2 [.iface 29 (I64 (1:Int)), I64 (1:Int)] Tryd.call7 rfl) (fun w1 hw1 => is_c 1 1 w1)) rfl ?_
  rintro v1 L1 ⟨rfl, rfl⟩
  show JL _ _ _ _ ((55, .bool true) :: _) []
  refine AK 14 53 true _ (.bool (!true)) rfl rfl rfl (Ev_not rfl) rfl ?_
  refine AK 14 53 true _ _ rfl rfl rfl (AB rfl) rfl ?_
  refine AK 18 57 false _ _ rfl rfl rfl (AB rfl) rfl ?_
  refine AK 18 57 false _ (.bool (decide ((0:UInt32) ≠ (0:UInt32)))) rfl rfl rfl (AG rfl rfl fun _ => CL (0:UInt32) (0:UInt32)) rfl ?_
  refine AK 14 53 true _ _ rfl rfl rfl (BB _ rfl rfl rfl) rfl ?_
  refine AK 11 50 false _ _ rfl rfl (by decide) (BH _ rfl rfl rfl) rfl ?_
  refine AA _ (BB _ rfl (by decide) rfl) rfl ?_
  refine AI (AE (BX _ rfl (by decide) ?_))
  refine AZ (AE (AH (AH (AC (AA _ (AB rfl) rfl ?_)))))
  refine AA (.bool false) (B2 _ _ _ rfl rfl (fun _ => B1 ..) fun _ => eql_if_nil AT) rfl ?_
  refine AA _ (AB rfl) rfl ?_
  refine AL 2 65 true _ rfl rfl rfl rfl ?_
  refine AL 2 65 true _ rfl rfl rfl rfl ?_
  refine AL 2 65 true _ rfl rfl rfl rfl ?_
  refine AL 2 65 true _ rfl rfl rfl rfl ?_
  refine AL 2 65 true _ rfl rfl rfl rfl ?_
  refine AL 2 65 true _ rfl rfl rfl rfl ?_
  refine BJ 8 71 false rfl rfl rfl ?_
  refine BJ 8 71 false rfl rfl rfl ?_
  refine BJ 8 71 false rfl rfl rfl ?_
  refine BJ 8 71 false rfl rfl rfl ?_
  refine AL 2 65 true _ rfl rfl rfl rfl ?_
  refine AA _ (BB _ rfl rfl rfl) rfl ?_
  refine AI (AE (BX _ rfl rfl ?_))
  refine AZ (AE (AH (AC (AA _ (AB rfl) rfl ?_))))
  refine AA (.bool true) (B2 _ _ _ rfl rfl (fun _ => B1 ..) fun _ => CN AT) rfl ?_
  refine AA _ (AB rfl) rfl ?_
  refine AL 2 80 false _ rfl rfl rfl rfl ?_
  refine AL 2 80 false _ rfl rfl rfl rfl ?_
  refine AL 2 80 false _ rfl rfl rfl rfl ?_
  refine AL 2 80 false _ rfl rfl rfl rfl ?_
  refine AL 2 80 false _ rfl rfl rfl rfl ?_
  refine AL 2 80 false _ rfl rfl rfl rfl ?_
  refine BJ 8 86 true rfl rfl rfl ?_
  refine BJ 8 86 true rfl rfl rfl ?_
  refine BJ 8 86 true rfl rfl rfl ?_
  refine AL 2 80 false _ rfl rfl rfl rfl ?_
  refine AA _ (BH _ rfl rfl rfl) rfl ?_
  refine AA _ (AF rfl) rfl ?_
  refine AI (AE (BM (BN (.bool true) (res1 Tryd.results3 (BI rfl)) fun w1 hw1 => ?_)))
  exact ⟨_, [], rfl, ⟨by rw [show (true) = true from rfl], rfl⟩, hw1.sub (by simp) (by simp)⟩
 ·
  have hp1 : ¬ ((0:Int) ≤ (i)) := of_decide_eq_false hb1
  refine AL 4 23 true _ rfl rfl hb1 rfl ?_
  refine AL 4 23 true _ rfl rfl hb1 rfl ?_
  refine AA _ (BB _ rfl hb1 rfl) rfl ?_
  refine AA (.bool (!(false == false))) (B2 _ _ _ rfl rfl (fun _ => CE ..) fun _ => neq_bool Tryd.underlying4) rfl ?_
  refine AA _ (AB rfl) rfl ?_
  refine AK 9 28 false _ _ rfl rfl (by rw [show (false == false) = true from (beq_self_eq_true _)] <;> rfl) (AB rfl) rfl ?_
  refine AK 9 28 false _ (.bool false) rfl rfl (by rw [show (false == false) = true from (beq_self_eq_true _)] <;> rfl) (B2 _ _ _ rfl rfl (fun _ => B1 ..) fun _ => eql_if_nil AT) rfl ?_
  refine AK 9 28 false _ _ rfl rfl (by rw [show (false == false) = true from (beq_self_eq_true _)] <;> rfl) (AB rfl) rfl ?_
  refine AK 9 28 false _ (.bool (decide ((0:Int) ≤ (i)))) rfl rfl (by rw [show (false == false) = true from (beq_self_eq_true _)] <;> rfl) (AG rfl rfl fun _ => B4 _ _) rfl ?_
  refine AK 9 28 false _ _ rfl rfl (by rw [show (false == false) = true from (beq_self_eq_true _)] <;> rfl) (AB rfl) rfl ?_
  refine AL 14 33 true _ rfl rfl hb1 rfl ?_
  refine AL 14 33 true _ rfl rfl hb1 rfl ?_
  refine AK 9 28 false _ _ rfl rfl (by rw [show (false == false) = true from (beq_self_eq_true _)] <;> rfl) (BB _ rfl hb1 rfl) rfl ?_
  refine AK 9 28 false _ (.bool (!(false == false))) rfl rfl (by rw [show (false == false) = true from (beq_self_eq_true _)] <;> rfl) (B2 _ _ _ rfl rfl (fun _ => CE ..) fun _ => neq_bool Tryd.underlying4) rfl ?_
  refine AA _ (BB _ rfl (by rw [show (false == false) = true from (beq_self_eq_true _)] <;> rfl) rfl) rfl ?_
  refine AI (AE (BX _ rfl (by rw [show (false == false) = true from (beq_self_eq_true _)] <;> rfl) ?_))
  refine AZ (AE (AH (AH (AC (AA _ (AB rfl) rfl ?_)))))
  refine AA (.bool true) (B2 _ _ _ rfl rfl (fun _ => B1 ..) fun _ => CN AT) rfl ?_
  refine AA _ (AB rfl) rfl ?_
  refine AK 2 41 true _ _ rfl rfl rfl (AB rfl) rfl ?_
  refine JL_gstep 2 41 true _ rfl rfl rfl (AR 7 [.iface 29 (I64 (1:Int)), I64 (1:Int)] (.bool true) (A2 [.iface 29 (I64 (1:Int)), I64 (1:Int)] Tryd.call7 rfl) (fun w1 hw1 => is_c 1 1 w1)) rfl ?_
  rintro v1 L1 ⟨rfl, rfl⟩
  show JL _ _ _ _ ((43, .bool true) :: _) []
  refine AK 2 41 true _ (.bool (!true)) rfl rfl rfl (Ev_not rfl) rfl ?_
  refine AK 2 41 true _ _ rfl rfl rfl (AB rfl) rfl ?_
  refine AK 6 45 false _ _ rfl rfl rfl (AB rfl) rfl ?_
  refine AK 6 45 false _ (.bool (decide ((0:UInt32) ≠ (0:UInt32)))) rfl rfl rfl (AG rfl rfl fun _ => CL (0:UInt32) (0:UInt32)) rfl ?_
  refine AK 2 41 true _ _ rfl rfl rfl (BB _ rfl rfl rfl) rfl ?_
  refine AA _ (BH _ rfl rfl rfl) rfl ?_
  refine AA _ (AB rfl) rfl ?_
  refine AK 11 50 false _ _ rfl rfl (by decide) (AB rfl) rfl ?_
  refine AK 11 50 false _ (.bool true) rfl rfl (by decide) (B2 _ _ _ rfl rfl (fun _ => B1 ..) fun _ => CN AT) rfl ?_
  refine AK 11 50 false _ _ rfl rfl (by decide) (AB rfl) rfl ?_
  refine AK 14 53 true _ _ rfl rfl rfl (AB rfl) rfl ?_
  refine JL_gstep 14 53 true _ rfl rfl rfl (AR 7 [.iface 29 (I64 (1:Int)), I64 (1:Int)] (.bool true) (A2 [.iface 29 (I64 (1:Int)), I64 (1:Int)] Tryd.call7 rfl) (fun w1 hw1 => is_c 1 1 w1)) rfl ?_
  rintro v1 L1 ⟨rfl, rfl⟩
  show JL _ _ _ _ ((55, .bool true) :: _) []
  refine AK 14 53 true _ (.bool (!true)) rfl rfl rfl (Ev_not rfl) rfl ?_
  refine AK 14 53 true _ _ rfl rfl rfl (AB rfl) rfl ?_
  refine AK 18 57 false _ _ rfl rfl rfl (AB rfl) rfl ?_
  refine AK 18 57 false _ (.bool (decide ((0:UInt32) ≠ (0:UInt32)))) rfl rfl rfl (AG rfl rfl fun _ => CL (0:UInt32) (0:UInt32)) rfl ?_
  refine AK 14 53 true _ _ rfl rfl rfl (BB _ rfl rfl rfl) rfl ?_
  refine AK 11 50 false _ _ rfl rfl (by decide) (BH _ rfl rfl rfl) rfl ?_
  refine AA _ (BB _ rfl (by decide) rfl) rfl ?_
  refine AI (AE (BX _ rfl (by decide) ?_))
  refine AZ (AE (AH (AH (AC (AA _ (AB rfl) rfl ?_)))))
  refine AA (.bool false) (B2 _ _ _ rfl rfl (fun _ => B1 ..) fun _ => eql_if_nil AT) rfl ?_
  refine AA _ (AB rfl) rfl ?_
  refine AL 2 65 true _ rfl rfl rfl rfl ?_
  refine AL 2 65 true _ rfl rfl rfl rfl ?_
  refine AL 2 65 true _ rfl rfl rfl rfl ?_
  refine AL 2 65 true _ rfl rfl rfl rfl ?_
  refine AL 2 65 true _ rfl rfl rfl rfl ?_
  refine AL 2 65 true _ rfl rfl rfl rfl ?_
  refine BJ 8 71 false rfl rfl rfl ?_
  refine BJ 8 71 false rfl rfl rfl ?_
  refine BJ 8 71 false rfl rfl rfl ?_
  refine BJ 8 71 false rfl rfl rfl ?_
  refine AL 2 65 true _ rfl rfl rfl rfl ?_
  refine AA _ (BB _ rfl rfl rfl) rfl ?_
  refine AI (AE (BX _ rfl rfl ?_))
  refine AZ (AE (AH (AC (AA _ (AB rfl) rfl ?_))))
  refine AA (.bool true) (B2 _ _ _ rfl rfl (fun _ => B1 ..) fun _ => CN AT) rfl ?_
  refine AA _ (AB rfl) rfl ?_
  refine AL 2 80 false _ rfl rfl rfl rfl ?_
  refine AL 2 80 false _ rfl rfl rfl rfl ?_
  refine AL 2 80 false _ rfl rfl rfl rfl ?_
  refine AL 2 80 false _ rfl rfl rfl rfl ?_
  refine AL 2 80 false _ rfl rfl rfl rfl ?_
  refine AL 2 80 false _ rfl rfl rfl rfl ?_
  refine BJ 8 86 true rfl rfl rfl ?_
  refine BJ 8 86 true rfl rfl rfl ?_
  refine BJ 8 86 true rfl rfl rfl ?_
  refine AL 2 80 false _ rfl rfl rfl rfl ?_
  refine AA _ (BH _ rfl rfl rfl) rfl ?_
  refine AA _ (AF rfl) rfl ?_
  refine AI (AE (BM (BN (.bool true) (res1 Tryd.results3 (BI rfl)) fun w1 hw1 => ?_)))
  exact ⟨_, [], rfl, ⟨by rw [show (true) = true from rfl], rfl⟩, hw1.sub (by simp) (by simp)⟩
theorem shaRoots_w (i : Int) (w : World) (hb : -9223372036854775808 ≤ i ∧ i ≤ 9223372036854775807) (hG : GLs w) (hGr : GLr w) (hGi : GLi w) : Calls Tryd.prog 3 #[I64 i] w (Post w [] (fun v L => v = .bool true ∧ L = [])) := by
  by_cases h : 0 ≤ i ∧ i < 64
  · obtain ⟨k, rfl⟩ : ∃ k : Nat, i = k := ⟨i.toNat, by omega⟩
    by_cases h8 : k < 8
    · exact shaRootsA_c k w hG hGr hGi h8
    · exact shaRootsB_c k w hG hGr hGi (by omega) (by omega)
  · exact shaRootsC_c i w hG hGr hGi (by omega)

end Go.Proofs.YthbmeklfmamkeaaDoor
namespace Go.Sx
open Go Go.RowKit
open Go.ChangeShapes Go.WideShapes
set_option linter.unusedVariables false
set_option linter.unusedSimpArgs false
theorem laidVars_mem {P : Program} {w : World} : ∀ {l : List (String × DataW Unit)} {ps : List MemPlace}, DataW.LaidVars P w l ps → ∀ {n : String} {d : DataW Unit}, (n, d) ∈ l →
    ∃ g t cs fuel p, P.globalNamed n = some g ∧ (P.globals[g]?).map (·.type) = some t ∧ w.var? P n = some cs ∧ DataW.trod (fun _ => ()) P w 0 (fun _ => true) false fuel t cs.toList = some (d, p)
  | (n', d') :: r, ps, h, n, d, hm => by
    obtain ⟨g, t, cs, fuel, p, q, h1, h2, h3, h4, h5, _⟩ := h
    rcases List.mem_cons.1 hm with hm | hm
    · cases hm; exact ⟨g, t, cs, fuel, p, h1, h2, h3, h4⟩
    · exact laidVars_mem h5 hm
theorem laid_rd {P : Program} {W : World} {laid : List (String × DataW Unit)} (h : laidMetH P laid W) (hp : (laid.all fun x => x.2.handleName?.isNone) = true) {name : String} {d : DataW Unit} (hm : (name, d) ∈ laid) (l : List UInt32)
  (hd : d = Lib.tabData .u32 (l.map fun u => (u.toNat : Int))) {g t e n : Nat}
  (hg : P.globalNamed name = some g) (hty : (P.globals[g]?).map (·.type) = some t) (ht : P.underlying t = some (.array n e)) (he : P.underlying e = some (.int .u32)) (hce : P.cellsOf e = 1) (hct : P.cellsOf t = n) (hl : 0 < l.length) : RdA W g 0 (cu32 l) := by
 rw [MakeChecks.laidMetH_plain _ _ _ hp] at h
 obtain ⟨ps, hv, _, _⟩ := h
 obtain ⟨g', t', cs, fuel, p, hg', ht', hvar, htr⟩ := laidVars_mem hv hm
 obtain rfl := Option.some.inj (hg.symm.trans hg')
 obtain rfl := Option.some.inj (hty.symm.trans ht')
 subst hd
 have hcs := Lib.cells_of_tab ht he hce hct htr
 have key : ∀ j v, (cu32 l)[j]? = some v → W.cell? ⟨g, 0 + j, none⟩ = some v := fun j v hj => by
  have := World.var?_cell hg hvar j
  rw [Nat.zero_add, this, ← Array.getElem?_toList, hcs]
  simpa [cu32] using hj
 have h0 : (cu32 l)[0]? = some (U32 (l[0]'hl)) := by simp [cu32, hl]
 exact ⟨lt_of_cell (key 0 _ h0), key⟩
end Go.Sx
namespace Go.Proofs.YthbmeklfmamkeaaDoor
open Go
def headSigns : List Char := [Char.ofNat 104, Char.ofNat 97, Char.ofNat 114, Char.ofNat 110, Char.ofNat 101, Char.ofNat 115, Char.ofNat 115, Char.ofNat 32, Char.ofNat 56, Char.ofNat 101, Char.ofNat 57, Char.ofNat 102, Char.ofNat 99, Char.ofNat 98, Char.ofNat 57, Char.ofNat 57, Char.ofNat 50, Char.ofNat 49, Char.ofNat 57, Char.ofNat 98, Char.ofNat 55, Char.ofNat 50, Char.ofNat 53, Char.ofNat 53, Char.ofNat 102, Char.ofNat 51, Char.ofNat 98, Char.ofNat 48, Char.ofNat 97, Char.ofNat 49, Char.ofNat 100, Char.ofNat 53, Char.ofNat 52, Char.ofNat 54, Char.ofNat 99, Char.ofNat 55, Char.ofNat 101, Char.ofNat 51, Char.ofNat 51, Char.ofNat 56, Char.ofNat 49, Char.ofNat 97, Char.ofNat 55, Char.ofNat 57, Char.ofNat 54, Char.ofNat 57, Char.ofNat 100, Char.ofNat 98, Char.ofNat 49, Char.ofNat 55, Char.ofNat 56, Char.ofNat 98, Char.ofNat 55, Char.ofNat 99, Char.ofNat 57, Char.ofNat 55, Char.ofNat 99, Char.ofNat 98, Char.ofNat 98, Char.ofNat 57, Char.ofNat 51, Char.ofNat 50, Char.ofNat 56, Char.ofNat 100, Char.ofNat 98, Char.ofNat 49, Char.ofNat 97, Char.ofNat 98, Char.ofNat 99, Char.ofNat 53, Char.ofNat 98, Char.ofNat 98, Char.ofNat 32, Char.ofNat 99, Char.ofNat 117, Char.ofNat 116, Char.ofNat 32, Char.ofNat 97, Char.ofNat 116, Char.ofNat 32, Char.ofNat 101, Char.ofNat 110, Char.ofNat 116, Char.ofNat 114, Char.ofNat 117, Char.ofNat 115, Char.ofNat 116, Char.ofNat 47, Char.ofNat 101, Char.ofNat 110, Char.ofNat 116, Char.ofNat 114, Char.ofNat 117, Char.ofNat 115, Char.ofNat 116, Char.ofNat 108, Char.ofNat 97, Char.ofNat 119, Char.ofNat 48, Char.ofNat 50, Char.ofNat 46, Char.ofNat 83, Char.ofNat 104, Char.ofNat 97, Char.ofNat 82, Char.ofNat 111, Char.ofNat 111, Char.ofNat 116, Char.ofNat 115]
theorem headStr : Tryd.prog.initOrder = String.ofList headSigns := by kernel_rfl
theorem headIs : Tryd.prog.initOrder.toList = headSigns := by
 rw [headStr]
 exact String.toList_ofList
def sumSigns : List Char := [Char.ofNat 56, Char.ofNat 101, Char.ofNat 57, Char.ofNat 102, Char.ofNat 99, Char.ofNat 98, Char.ofNat 57, Char.ofNat 57, Char.ofNat 50, Char.ofNat 49, Char.ofNat 57, Char.ofNat 98, Char.ofNat 55, Char.ofNat 50, Char.ofNat 53, Char.ofNat 53, Char.ofNat 102, Char.ofNat 51, Char.ofNat 98, Char.ofNat 48, Char.ofNat 97, Char.ofNat 49, Char.ofNat 100, Char.ofNat 53, Char.ofNat 52, Char.ofNat 54, Char.ofNat 99, Char.ofNat 55, Char.ofNat 101, Char.ofNat 51, Char.ofNat 51, Char.ofNat 56, Char.ofNat 49, Char.ofNat 97, Char.ofNat 55, Char.ofNat 57, Char.ofNat 54, Char.ofNat 57, Char.ofNat 100, Char.ofNat 98, Char.ofNat 49, Char.ofNat 55, Char.ofNat 56, Char.ofNat 98, Char.ofNat 55, Char.ofNat 99, Char.ofNat 57, Char.ofNat 55, Char.ofNat 99, Char.ofNat 98, Char.ofNat 98, Char.ofNat 57, Char.ofNat 51, Char.ofNat 50, Char.ofNat 56, Char.ofNat 100, Char.ofNat 98, Char.ofNat 49, Char.ofNat 97, Char.ofNat 98, Char.ofNat 99, Char.ofNat 53, Char.ofNat 98, Char.ofNat 98]
theorem sumIs : "8e9fcb99219b7255f3b0a1d546c7e3381a7969db178b7c97cbb9328db1abc5bb".toList = sumSigns := by
 have h : "8e9fcb99219b7255f3b0a1d546c7e3381a7969db178b7c97cbb9328db1abc5bb" = String.ofList sumSigns := by kernel_rfl
 rw [h]
 exact String.toList_ofList
theorem head_cons {α : Type} {l : List α} {x : α} (h : l.head? = some x) : ∃ r, l = x :: r := by cases l <;> simp_all
theorem make_cut {P : Program} {r : List (List Char)} (h : behindMainWord (wordsSigns P.initOrder.toList) = "cut".toList :: r) : P.make = some .cut := by
 unfold Program.make
 rw [h]
 rfl
theorem headLifts_cut {P : Program} (h : (stripLifts liftWords (behindMainWord (wordsSigns P.initOrder.toList))).1 = []) : P.headLifts = [] := by
 unfold Program.headLifts
 simp only [h]
 split <;> rfl
theorem lifts_cut {P : Program} {r : List (List Char)} (h : behindMainWord (wordsSigns P.initOrder.toList) = "cut".toList :: r) (h1 : P.headLifts = []) : P.liftsFinal = false := by
 unfold Program.liftsFinal
 rw [h, h1]
 rfl
theorem mayEnter_cut {P : Program} {r : List (List Char)} (h : behindMainWord (wordsSigns P.initOrder.toList) = "cut".toList :: r) (h1 : P.laysLater = false) (h2 : P.bearsReflect = false)
  (h3 : (stripLifts liftWords (behindMainWord (wordsSigns P.initOrder.toList))).1 = []) (h4 : (stripLifts liftWords (behindMainWord (wordsSigns P.initOrder.toList))).2.head? = some "cut".toList) (h5 : P.doorFits [] = true) : P.mayEnter = true := by
 unfold Program.mayEnter
 rw [h] at h3 h4 ⊢
 simp only [h1, h2, h3, h4, h5]
 simp
theorem main_cut {P : Program} {s : List Char} {r : List (List Char)} (h : wordsSigns P.initOrder.toList = "harness".toList :: s :: r) (hs : isSumSigns s = true) : P.mainIs = some (true, s) := by
 unfold Program.mainIs
 rw [h]
 simp [hs]
theorem hHead : (behindMainWord (wordsSigns Tryd.prog.initOrder.toList)).head? = some "cut".toList := by
 rw [headIs]
 kernel_rfl
theorem hStrip : (stripLifts liftWords (behindMainWord (wordsSigns Tryd.prog.initOrder.toList))).1 = [] := by
 rw [headIs]
 kernel_rfl
theorem hStrip2 : (stripLifts liftWords (behindMainWord (wordsSigns Tryd.prog.initOrder.toList))).2.head? = some "cut".toList := by
 rw [headIs]
 kernel_rfl
theorem hMain : wordsSigns Tryd.prog.initOrder.toList = "harness".toList :: sumSigns :: (wordsSigns headSigns).drop 2 := by
 rw [headIs]
 kernel_rfl
theorem hSum : isSumSigns sumSigns = true := by kernel_rfl
theorem hLater : Tryd.prog.laysLater = false := by kernel_rfl
theorem hReflect : Tryd.prog.bearsReflect = false := by kernel_rfl
theorem hDoor : Tryd.prog.doorFits [] = true := by kernel_rfl
theorem kMayEnter : Tryd.prog.mayEnter = true := by
 obtain ⟨r, h⟩ := head_cons hHead
 exact mayEnter_cut h hLater hReflect hStrip hStrip2 hDoor
theorem kLifts : Tryd.prog.liftsFinal = false := by
 obtain ⟨r, h⟩ := head_cons hHead
 exact lifts_cut h (headLifts_cut hStrip)
theorem kMake : Tryd.prog.make = some .cut := by
 obtain ⟨r, h⟩ := head_cons hHead
 exact make_cut h
theorem kMainIs : Tryd.prog.mainIs = some (true, "8e9fcb99219b7255f3b0a1d546c7e3381a7969db178b7c97cbb9328db1abc5bb".toList) := by
 rw [sumIs]
 exact main_cut hMain hSum
theorem kLaidOut : (laidOutB Tryd.prog) = true := by kernel_rfl
theorem kRowed : mapsRowed Tryd.prog = true := by kernel_rfl
theorem kStops : (Tryd.prog.stops == []) = true := by kernel_rfl
theorem kKnobs : (Tryd.prog.stopKnobs == []) = true := by kernel_rfl
theorem kHeard : Tryd.prog.stopsHeard = true := by kernel_rfl
theorem kLooks : true = Tryd.prog.looks [] := by kernel_rfl
end Go.Proofs.YthbmeklfmamkeaaDoor
